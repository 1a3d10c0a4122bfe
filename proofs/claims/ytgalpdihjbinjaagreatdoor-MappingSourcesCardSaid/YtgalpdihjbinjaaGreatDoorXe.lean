/-
  phrasebooklaw45.MappingSources returns true for every mapping and every two numbers, and leaves its arguments as they were; no condition is asked but that the tables of the library lie as the program lays them (the card ties them).
-/
import Derived.Test.YtgalpdihjbinjaaGreatDoorXe5
set_option linter.all false
set_option maxHeartbeats 40000000
set_option maxRecDepth 100000
namespace Go.Proofs.YtgalpdihjbinjaaGreatDoor
open Sw
open Go.RowKit (intOf Below)
def OwnM (w0 w':World) (m:MapD) (u:Value):Prop:=∃ rv css,u = .agg (mapCells m rv).toArray∧OwnE w' w0.heap.size 60 3 Subtype.val rv css∧Mates 3 (EO w' w0.heap.size) css m.rules
theorem OwnM.val {w0 w':World} {m:MapD} {u:Value} (h:OwnM w0 w' m u):MapVal w' u m:=by
 obtain ⟨rv,css,h1,h2,h3⟩:=h
 exact ⟨rv,h1,h2.reads (h3.imp fun _ _ q=>q.mr)⟩
theorem Own_ret (w0:World) (v:Value) (m:MapD) (hm:MapVal w0 v m) (hl:m.rules.length≤1000000) (hb:∀ r∈m.rules,r.fields.length≤1000000∧∀ x∈r.fields,x.bytes.length≤1000000∧x.table.length≤1000000):Ret Pg 13 #[v] w0 fun r w'=>OwnM w0 w' m r∧Ext w0 w':=by
 obtain ⟨rv,rfl,hR,t1⟩:=hm.op
 obtain ⟨A,c,rfl,hlc,hcm,hlm,hel⟩:=SliceOf.open hR
 refine n45s (R:=retR _) ?_;unfold n45
 rw [op_boxA]
 have o1:=heap_new w0 (mapCells m (.slice A m.rules.length c)).toArray 24
 have e1:Ext w0 (w0.alloc (.cells (mapCells m (.slice A m.rules.length c)).toArray 24)):=(Ext.refl w0).alloc _
 have s1:(w0.alloc (.cells (mapCells m (.slice A m.rules.length c)).toArray 24)).heap.size=w0.heap.size+1:=World.size_alloc ..
 generalize (w0.alloc (.cells (mapCells m (.slice A m.rules.length c)).toArray 24))=W1 at o1 e1 s1 ⊢
 refine Qf ?_
 have o2:=heap_new W1 (mapCells ⟨ByteArray.empty,[]⟩ nilS).toArray 24
 have e2:Ext W1 (W1.alloc (.cells (mapCells ⟨ByteArray.empty,[]⟩ nilS).toArray 24)):=(Ext.refl W1).alloc _
 change loop2 _ _ _ (W1.alloc (.cells (mapCells ⟨ByteArray.empty,[]⟩ nilS).toArray 24))
 generalize (W1.alloc (.cells (mapCells ⟨ByteArray.empty,[]⟩ nilS).toArray 24))=W at o2 e2 ⊢
 replace o1:=e2.obj o1
 have e:=e1.trans e2
 have l1:w0.heap.size≤w0.heap.size:=Nat.le_refl _
 have l2:w0.heap.size≤W1.heap.size:=Qx
 have n12:w0.heap.size≠W1.heap.size:=Qx
 generalize hp1:w0.heap.size=p1 at o1 n12 l1 ⊢
 generalize W1.heap.size=p2 at o2 l2 n12 ⊢
 refine loop2_intro (fun a b w=>∃ (i:Nat) (css:List (Cs 3)),b = .int .i64 i∧i≤m.rules.length∧OwnE w w0.heap.size 60 3 Subtype.val a css∧Mates 3 (EO w w0.heap.size) css (m.rules.take i)∧Ext w0 w∧w.heap[p1]?=some (.cells (mapCells m (.slice A m.rules.length c)).toArray 24 (0,0))∧w.heap[p2]?=some (.cells (mapCells ⟨ByteArray.empty,[]⟩ nilS).toArray 24 (0,0))) (fun _ b _=>m.rules.length - (intOf b).toNat) ⟨0,[],rfl,by omega,OwnE.nil _ _ _ _ _,⟨rfl,fun k x cs hx=>by simp at hx⟩,e,o1,o2⟩ ?_
 rintro rv _ w ⟨i,css,rfl,hi,hO,hM,ew,q1,q2⟩
 have r1:=(cells_of_heap q1).1
 have u3:rv.oneCell'=true:=SliceOf.oneCell (hO.slice (E:=fun _ cs x=>cs=x.1) (fun x=>x.2) (fun _ _=>rfl))
 unfold n45c10
 rcases drop_cases hi with ⟨r,hr,_,hlt,hdec⟩ | ⟨hie,_,hdec⟩
 · obtain ⟨b,o,cs,rfl,_,hA,fv,rfl,hF⟩:=hel i r hr
   have v1:=SliceOf.oneCell hF
   have hq:=hA.c3 ew
   obtain ⟨b1,b2⟩:=hb r (List.mem_of_getElem? hr)
   refine QJ r1 hdec ?_
   unfold n45c9
   refine QJ r1 hq ?_
   have eV:Ext w (w.alloc (.cells (mrCells r fv).toArray 60)):=(Ext.refl w).alloc _
   have oV:=heap_new w (mrCells r fv).toArray 60
   change loop2 _ _ _ (w.alloc (.cells (mrCells r fv).toArray 60))
   generalize (w.alloc (.cells (mrCells r fv).toArray 60))=V at eV oV ⊢
   have k1:=(Qk q1).1
   have k2:=(Qk q2).1
   have hne:rv.ownBlock≠some w.heap.size:=fun h=>by
    have:=(World.ownsRow.lt hO _ h).2
    omega
   refine own_fields (w0:=w0) (w1:=V) (i:=i) (rv:=rv) (ew.trans eV) oV (hF.ext (ew.trans eV)) Qx (fun x hx=>by have:=b2 x hx;omega) fun fv' w' g1 g2=>?_
   have e3:=eV.trans g2
   have s3:=e3.size
   refine own_rule (hO.ext e3) (hM.imp fun _ _ q=>q.ext e3) (ew.trans e3) ew.size hne (g2.obj oV) (g1.low (ew.trans eV).size) (by rw [List.length_take];omega) Qx fun rv' w'' css' a1 a2 a3 a4 a5=>?_
   refine ⟨⟨i+1,css',rfl,hlt,a1,by rw [take_snoc' hr];exact a2,a3,?_,?_⟩,meas_lt (kd := .i64) hlt⟩
   · exact (a5 p1 Qx Qx (own_type hO q1 Qj)).trans (e3.obj q1)
   · exact (a5 p2 Qx Qx (own_type hO q2 Qj)).trans (e3.obj q2)
 · rw [hie,List.take_length] at hM
   refine QJ r1 hdec ?_
   unfold n45c8
   have h2:(w.setCell ⟨p1,1,none⟩ rv).heap[p2]?=some (.cells (mapCells ⟨ByteArray.empty,[]⟩ nilS).toArray 24 (0,0)):=(Only.setCell w p1 1 rv p2 n12.symm).trans q2
   refine QY r1 (cells_of_heap q1).2 (cells_of_heap q2).1 (cells_of_heap h2).1 (cells_of_heap h2).2 ?_
   have hc1:Chg p1 w (w.setCell ⟨p1,1,none⟩ rv):=⟨by rw [World.size_setCell];exact Nat.le_refl _,fun b _ hb=>Only.setCell _ p1 1 _ b hb⟩
   have hO1:=own_chg hO hc1 (own_type hO q1 Qj)
   have hM1:=hM.imp fun _ _ q=>q.chg hc1 q1 Qj Qj Qj
   have lp1:w0.heap.size≤p1:=Qx
   have eS:Ext w0 (w.setCell ⟨p1,1,none⟩ rv):=ew.setCell (p:=⟨p1,1,none⟩) lp1 _
   generalize (w.setCell ⟨p1,1,none⟩ rv)=S at h2 hO1 hM1 eS ⊢
   have hc2:Chg p2 S ((S.setCell ⟨p2,0,none⟩ (.string m.name)).setCell ⟨p2,1,none⟩ rv):=⟨by rw [World.size_setCell,World.size_setCell];exact Nat.le_refl _,fun b _ hb=>(Only.setCell _ p2 1 _ b hb).trans (Only.setCell S p2 0 _ b hb)⟩
   exact ⟨⟨rv,css,rfl,own_chg hO1 hc2 (own_type hO1 h2 Qj),hM1.imp fun _ _ q=>q.chg hc2 h2 Qj Qj Qj⟩,(eS.setCell (p:=⟨p2,0,none⟩) l2 _).setCell (p:=⟨p2,1,none⟩) l2 _⟩
theorem SliceOf.css {α:Type} {w:World} {n:Nat} {E:World→List Value→α→Prop} {v:Value} {l:List α} (h:SliceOf w n E v l):∃ css:List (Cs n),SliceOf w n (fun _ cs (x:Cs n)=>cs=x.1) v css∧Mates n (E w) css l:=by
 obtain ⟨A,c,rfl,hlc,hcm,hlm,hel⟩:=SliceOf.open h
 have key:∀ i:Fin l.length,∃ cs:Cs n,(∃ b o,A=some ⟨b,o,none⟩∧ElemAt w b (o+i.1*n) cs.1)∧E w cs.1 l[i.1]:=fun i=>by
  obtain ⟨b,o,cs,hA,hn,he,hE⟩:=hel i.1 l[i.1] (List.getElem?_eq_getElem i.2)
  exact ⟨⟨cs,hn⟩,⟨b,o,hA,he⟩,hE⟩
 have hlen:(List.ofFn fun i:Fin l.length=>Classical.choose (key i)).length=l.length:=List.length_ofFn ..
 have hget:∀ (k:Nat) (x:Cs n),(List.ofFn fun i:Fin l.length=>Classical.choose (key i))[k]?=some x→∃ hk:k < l.length,x=Classical.choose (key ⟨k,hk⟩):=fun k x hx=>by
  have hk:k < l.length:=by
   have:=(Qv hx).1
   rwa [hlen] at this
  rw [List.getElem?_ofFn,dif_pos hk] at hx
  injection hx with hx
  exact ⟨hk,hx.symm⟩
 refine ⟨List.ofFn fun i:Fin l.length=>Classical.choose (key i),?_,hlen,fun k x cs hx hcs=>?_⟩
 · refine ⟨A,c,by rw [hlen],by rw [hlen];exact hlc,hcm,fun hne=>?_⟩
   have h0:0 < l.length:=by
    rcases Nat.eq_zero_or_pos l.length with h | h
    · exact absurd (List.eq_nil_of_length_eq_zero (by rw [hlen,h])) hne
    · exact h
   obtain ⟨b,o,hA,_⟩:=(Classical.choose_spec (key ⟨0,h0⟩)).1
   refine ⟨b,o,hA,fun k x hx=>?_⟩
   obtain ⟨hk,rfl⟩:=hget k x hx
   obtain ⟨b',o',hA',he⟩:=(Classical.choose_spec (key ⟨k,hk⟩)).1
   rw [hA] at hA'
   injection hA' with hA'
   injection hA' with h1 h2 _
   subst h1 h2
   exact ⟨_,(Classical.choose (key ⟨k,hk⟩)).2,he,rfl⟩
 · obtain ⟨hk,rfl⟩:=hget k cs hcs
   have:=(Classical.choose_spec (key ⟨k,hk⟩)).2
   obtain ⟨h1,h2⟩:=Qv hx
   rw [← h2]
   exact this
theorem Clone_FieldRule_ret (w0:World) (v:Value) (css:List (Cs 7)) (hs:SliceOf w0 7 (fun _ cs x=>cs=x.1) v css) (h1:∀ x∈css,∀ u∈x.1,u.oneCell'=true) (hb:css.length≤1048576) :
 Ret Pg 55 #[v] w0 fun r w'=>OwnE w' w0.heap.size 43 7 Subtype.val r css∧Ext w0 w':=by
 obtain ⟨A,c,rfl,hlc,hcm,hlm,hel⟩:=SliceOf.open hs
 refine n114s (R:=retR _) ?_;unfold n114
 refine Qf ?_
 cases A with
 | none =>
  have:css=[]:=by
   cases css with
   | nil=>rfl
   | cons x l=>obtain ⟨_,_,_,h,_⟩:=hel 0 x rfl;cases h
  subst this
  simp only [Option.isNone_none]
  refine Qf ?_
  exact ⟨OwnE.nil _ _ _ _ _,ee⟩
 | some a =>
  simp only [Option.isNone_some]
  refine Qf ?_
  have hO:=OwnE.new w0 43 7 (Subtype.val:Cs 7→List Value) [] (fun x=>x.2) (by simp)
  simp only [List.flatMap_nil,List.length_nil] at hO
  have eW:Ext w0 (w0.alloc (.cells #[] 43)):=ee
  have hsz:w0.heap.size≤(w0.alloc (.cells #[] 43)).heap.size:=eW.size
  generalize w0.alloc (.cells #[] 43)=W at hO eW hsz ⊢
  cases hcs:css with
  | nil =>
   subst hcs
   simp only [List.length_nil]
   rw [op_append0 Tryz.underlying58 ty43 _ _ _ _ _ (Nat.le_refl 0)]
   refine Qf ?_
   exact ⟨hO,eW⟩
  | cons x0 l0 =>
   obtain ⟨b,o,_,hA,_⟩:=hel 0 x0 (by rw [hcs];rfl)
   injection hA with hA
   subst hA
   rw [← hcs]
   have hby:=by43
   refine op_appendE Tryz.underlying58 ty43 rfl Qj (fun x=>x.2) h1 hO (fun j x hx=>?_) hsz ?_ (by simp;omega) ?_
   · obtain ⟨b',o',cs,hA',hl',hE,rfl⟩:=hel j x hx
     injection hA' with hA'
     injection hA' with h3 h4
     subst h3 h4
     exact hE.ext eW
   · simp only [List.length_nil,Nat.zero_add]
     exact Nat.le_trans (Nat.mul_le_mul hb hby) Qj
   · intro v' w' ho hg
     rw [List.nil_append] at ho
     refine Qf ?_
     refine ⟨ho,eW.grown hg ?_⟩
     intro k hk
     exact (World.ownsRow.lt hO k hk).1
def n17c1 (t1 t2 t5:Value) (K2:World→Prop) (R:RT) (w:World):Prop :=
 F0 24 t2 1 R w fun t15 w =>
 L0 22 t15 R w fun t16 w =>
 X0 22 t16 t1 R w fun t18 w =>
 F0 60 t18 2 R w fun t19 w =>
 L0 58 t19 R w fun t20 w =>
 C0 55 #[t20] R w fun t21 w =>
 opU Pg (Instr.storeAt 58 t5 t21) (panK R) w fun w =>
 K2 w
def n17c2 (t1 t2 t5 t7 t13:Value) (R:RT) (w:World):Prop :=
 pickK t7 t13 (.bool false) fun t14 =>
 joinK (fun (w:World) =>
 opV Pg (Instr.makeFunc (.func 56) #[] #[t5]) (panK R) w fun t22 w =>
 R (.returned t22) w) fun K2 =>
 condP t14 (
 n17c1 t1 t2 t5 K2 R w) (
 K2 w)
def n17 (t0 t1:Value) (R:RT) (w:World):Prop :=
 opV Pg (Instr.box 24 t0) (panK R) w fun t2 w =>
 opV Pg (Instr.alloc 58 true (.tuple #[])) (panK R) w fun t5 w =>
 B0 .geq 3 true t1 (.int .i64 0) R w fun t7 w =>
 joinK (fun (t13:Value) (w:World) =>
 n17c2 t1 t2 t5 t7 t13 R w) fun K1 =>
 guardP t7 true (
 F0 24 t2 1 R w fun t10 w =>
 L0 22 t10 R w fun t11 w =>
 opV Pg (Builtin.len_ #[22] 3 #[t11]) (panK R) w fun t12 w =>
 B0 .lss 3 false t1 t12 R w fun t13 w =>
 K1 t13 w) (
 K1 undef w)
theorem n17s {t0 t1:Value} {R:RT} {w:World} (h:n17 t0 t1 R w):Calls Pg 24 #[t0,t1] w R:=by
 refine yD Tryz.func24 ?_
 refine zs<|zr<|yv h fun _ w h=>zm<|zn<|zk<|zs<|zr<|yv h fun _ w h=>zn<|zk<|zs<|zs<|sim_regionG<|yG 3 ?_
 refine zm<|yb h fun _ w h=>zm<|zn<|yg1 5 2 true [9,10,11,12,13] 13 h (fun _ T hT h=>?_) fun σ w h=>?_
 · refine zm<|yv h fun _ w h=>yv h fun _ w h=>yx h fun _ w h=>yb h fun _ w h=>zn ?_
   exact zt hT h
 refine yG 1<|yp h fun _ h=>zn<|sim_end<|zk<|yJ0 [15,16,17,18,19,20,21] h (fun _ _ hkK2 h=>?_) fun σ w h=>?_
 · refine yC h (fun h=>?_) fun h=>?_
   · refine zr<|yv h fun _ w h=>yv h fun _ w h=>zm<|yv h fun _ w h=>yv h fun _ w h=>yv h fun _ w h=>yc h c55 fun _ w h=>yu h fun w h=>zn<|zk ?_
     exact zt hkK2 h
   refine sim_skip<|zk ?_
   exact zt hkK2 h
 exact zk<|zs<|zr<|yF h fun _ w h=>zm<|zn<|zk<|sim_ret<|body_ret1 rfl rfl h
def frB (x:FrD):Bool:=match usesK x.kind with
 | some u=>u.fr
 | none=>false
def srcF:Nat→List FrD→List (Nat×FrD)
 | _,[]=>[]
 | k,x::l=>if frB x=true then (k,x)::srcF (k+1) l else srcF (k+1) l
def srcX (L:List (Nat×FrD)) (k:Nat):Value:=match L[k]? with
 | some q => .int .i64 (q.1:Int)
 | none => .int .i64 0
def srcY (L:List (Nat×FrD)) (k:Nat):Value:=match L[k]? with
 | some q => .string q.2.fr
 | none => .int .i64 0
theorem srcX_at {L:List (Nat×FrD)} {k:Nat} {q:Nat×FrD} (h:L[k]?=some q):srcX L k = .int .i64 (q.1:Int):=by unfold srcX;rw [h]
theorem srcY_at {L:List (Nat×FrD)} {k:Nat} {q:Nat×FrD} (h:L[k]?=some q):srcY L k = .string q.2.fr:=by unfold srcY;rw [h]
theorem srcF_mem:∀ {l:List FrD} {k:Nat} {q:Nat×FrD},q∈srcF k l→k≤q.1∧l[q.1 - k]?=some q.2∧frB q.2=true
 | [],k,q,h=>by cases h
 | x::l,k,q,h=>by
  unfold srcF at h
  have step:q∈srcF (k+1) l→k≤q.1∧(x::l)[q.1 - k]?=some q.2∧frB q.2=true:=fun h=>by
   obtain ⟨h1,h2,h3⟩:=srcF_mem h
   refine ⟨by omega,?_,h3⟩
   rw [show q.1 - k=(q.1 - (k+1))+1 by omega,List.getElem?_cons_succ]
   exact h2
  split at h
  · rename_i hx
    rcases List.mem_cons.1 h with rfl | h
    · exact ⟨Nat.le_refl _,by simp,hx⟩
    · exact step h
  · exact step h
theorem srcF_len:∀ (l:List FrD) (k:Nat),(srcF k l).length≤l.length
 | [],_=>Nat.le_refl _
 | x::l,k=>by
  have:=srcF_len l (k+1)
  unfold srcF
  split<;>simp only [List.length_cons]<;>omega
def FrW (cs:List Value) (x:FrD):Prop:=∃ bv tv,cs=frCells x bv tv∧bv.oneCell'=true∧tv.oneCell'=true
theorem frw_one {cs:List Value} {x:FrD} (h:FrW cs x):∀ u∈cs,u.oneCell'=true:=by
 obtain ⟨bv,tv,rfl,h1,h2⟩:=h
 intro u hu
 simp only [List.mem_cons,List.not_mem_nil,or_false] at hu
 rcases hu with rfl | rfl | rfl | rfl | rfl | rfl | rfl<;>first | rfl | assumption
theorem EFr.w {w:World} {cs:List Value} {x:FrD} (h:EFr w cs x):FrW cs x:=by
 obtain ⟨bv,tv,h1,h2,h3⟩:=h
 exact ⟨bv,tv,h1,SliceOf.oneCell h2,SliceOf.oneCell h3⟩
abbrev CsOf (w:World) (v:Value) (css:List (Cs 7)):Prop:=SliceOf w 7 (fun _ cs (x:Cs 7)=>cs=x.1) v css
theorem keptCs:Kept (fun _ cs (x:Cs 7)=>cs=x.1):=fun _ _ _ _ _ h=>h
def SrcAt (p5:Nat) (lv:Value) (css:List (Cs 7)) (w:World):Prop:=w.heap[p5]?=some (.cells #[lv] 58 (0,0))∧CsOf w lv css
theorem SrcAt.ext {p5:Nat} {lv:Value} {css:List (Cs 7)} {w w':World} (h:SrcAt p5 lv css w) (e:Ext w w'):SrcAt p5 lv css w':=⟨e.obj h.1,h.2.ext keptCs e⟩
def fldsAt (m:MapD) (n:Int):List FrD:=if 0≤n∧n < (m.rules.length:Int) then ((m.rules[n.toNat]?).map (·.fields)).getD [] else []
theorem Sources_ret (w0:World) (v:Value) (m:MapD) (n:Int) (hm:MapVal w0 v m) (hl:∀ r∈m.rules,r.fields.length≤1000000) :
 Ret Pg 24 #[v,.int .i64 n] w0 fun u w'=>(∃ p5 lv css,u = .func (.func 56) #[] #[.pointer (some ⟨p5,0,none⟩)]∧SrcAt p5 lv css w'∧w0.heap.size≤p5∧OwnE w' w0.heap.size 43 7 Subtype.val lv css∧Mates 7 FrW css (fldsAt m n))∧Ext w0 w':=by
 obtain ⟨rv,rfl,hR,t1⟩:=hm.op
 obtain ⟨A,c,rfl,hlc,hcm,hlm,hel⟩:=SliceOf.open hR
 refine n17s (R:=retR _) ?_;unfold n17
 rw [op_boxA]
 have o1:=heap_new w0 (mapCells m (.slice A m.rules.length c)).toArray 24
 have e1:Ext w0 (w0.alloc (.cells (mapCells m (.slice A m.rules.length c)).toArray 24)):=(Ext.refl w0).alloc _
 generalize (w0.alloc (.cells (mapCells m (.slice A m.rules.length c)).toArray 24))=W at o1 e1 ⊢
 generalize hp1:w0.heap.size=p1 at o1 ⊢
 simp (disch:=try exact DI) only [↓PR,QR,simprocAttr,fun o=>(cells_of_heap (((Ext.refl W).alloc o).obj o1)).1]
 have o5:=heap_new W #[.slice none 0 0] 58
 have e5:Ext W (W.alloc (.cells #[.slice none 0 0] 58)):=(Ext.refl W).alloc _
 change guardP _ _ (n17c2 _ _ _ _ _ _ (W.alloc (.cells #[.slice none 0 0] 58))) (n17c2 _ _ _ _ _ _ (W.alloc (.cells #[.slice none 0 0] 58)))
 generalize (W.alloc (.cells #[.slice none 0 0] 58))=X at o5 e5 ⊢
 have l5:w0.heap.size≤W.heap.size:=e1.size
 generalize W.heap.size=p5 at o5 l5 ⊢
 have o1:=e5.obj o1
 have e:=e1.trans e5
 have no:fldsAt m n=[]→((∃ q lv css,Value.func (.func 56) #[] #[.pointer (some ⟨p5,0,none⟩)] = .func (.func 56) #[] #[.pointer (some ⟨q,0,none⟩)]∧SrcAt q lv css X∧p1≤q∧OwnE X p1 43 7 Subtype.val lv css∧Mates 7 FrW css (fldsAt m n))∧Ext w0 X):=fun h=>by
  rw [h]
  exact ⟨⟨p5,_,[],rfl,⟨o5,SliceOf.nil ..⟩,by omega,OwnE.nil _ _ _ _ _,rfl,fun k x cs hx=>by simp at hx⟩,e⟩
 unfold n17c2
 by_cases h0:0≤n
 · have d0:decide (n≥0)=true:=by simpa using h0
   by_cases h1:n < (m.rules.length:Int)
   · have d1:decide (n < (m.rules.length:Int))=true:=by simpa using h1
     obtain ⟨k,rfl⟩:∃ k:Nat,n=k:=⟨n.toNat,by omega⟩
     obtain ⟨r,hr⟩:=getElem?_lt (l:=m.rules) (k:=k) Qx
     have hf:fldsAt m (k:Int)=r.fields:=by
      unfold fldsAt
      rw [if_pos ⟨h0,h1⟩,Int.toNat_natCast,hr]
      rfl
     obtain ⟨b,o,cs,rfl,_,hA,fv,rfl,hF⟩:=hel k r hr
     have u1:=SliceOf.oneCell hF
     have g1:=hA.c3 e
     obtain ⟨css,hcs,hM⟩:=SliceOf.css (hF.ext e)
     have hW:∀ x∈css,∀ u∈x.1,u.oneCell'=true:=fun x hx=>by
      obtain ⟨y,_,hy⟩:=hM.mem hx
      exact frw_one hy.w
     have hcl:css.length=r.fields.length:=hM.1
     have hrl:=hl r (List.mem_of_getElem? hr)
     unfold n17c1
     refine QY d0 d1 (cells_of_heap o1).1 h1 g1 ?_
     refine callK_ret (Clone_FieldRule_ret X fv css hcs hW Qx) ?_
     rintro lv w2 ⟨hO,e2⟩
     have v1:lv.oneCell'=true:=SliceOf.oneCell (hO.slice (E:=fun _ cs (x:Cs 7)=>cs=x.1) (fun x=>x.2) (fun _ _=>rfl))
     have o5':=e2.obj o5
     have n5:=own_type hO o5' Qj
     refine QJ (cells_of_heap o5').1 (cells_of_heap o5').2 ?_
     have hc:Chg p5 w2 (w2.setCell ⟨p5,0,none⟩ lv):=⟨by rw [World.size_setCell];exact Nat.le_refl _,fun b _ hb=>Only.setCell _ p5 0 _ b hb⟩
     have hO':=own_chg hO hc n5
     refine ⟨⟨p5,lv,css,rfl,⟨heap_set (o:=0) o5' lv,hO'.slice (fun x=>x.2) (fun _ _=>rfl)⟩,by omega,OwnE.base hO' (by have:=e.size;omega),by rw [hf];exact hM.imp fun _ _ h=>h.w⟩,(e.trans e2).setCell (p:=⟨p5,0,none⟩) l5 _⟩
   · have d1:decide (n < (m.rules.length:Int))=false:=by simpa using h1
     refine QQ d0 d1 (cells_of_heap o1).1 ?_
     exact no (by unfold fldsAt;rw [if_neg fun h=>h1 h.2])
 · have d0:decide (n≥0)=false:=by simpa using h0
   refine Qp d0 ?_
   exact no (by unfold fldsAt;rw [if_neg fun h=>h0 h.1])
def K2s (X:World) (a b:Nat):World→Prop:=fun u=>u.heap[a]?=X.heap[a]?∧u.heap[b]?=X.heap[b]?
instance (X:World) (a b:Nat):ClassNe (K2s X a b):=⟨⟨X,rfl,rfl⟩⟩
section
variable {X:World} {a b:Nat}
theorem qK2_one {T:TypeId} {n m:Nat} {z v:Value} {k:Value→Prop} (h:TyInfo Pg T false n m z) {cs:Array Value} {T':TypeId} (hc:X.heap[a]?=some (.cells cs T' (0,0))) {o:Nat} (hv:cs[o]?=some v):qV Pg (K2s X a b) (Instr.loadAt T (.pointer (some ⟨a,o,none⟩))) k=k v :=
 qV_eqC fun w' e=>run_of_op (P:=Pg) (w:=w') (s:=Instr.loadAt T (.pointer (some ⟨a,o,none⟩))) (v:=v) (fun QP k=>op_load1 h (by rw [(cells_of_heap (e.1.trans hc)).1];exact hv))
theorem qK2_kind {c:Nat} {L:List (Int×Value×Nat)} {k:Value→Prop} (hM:MapB X b kindEnc L c) (s:Int):qV Pg (K2s X a b) (Instr.lookup 106 (.map (some b)) (.int .i64 s) false) k=k ((Sw.look L s).getD (useV ⟨false,false,false,false,false⟩)) :=
 qV_eqC fun w' e=>run_of_op fun QP k=>op_lookup1 (enc:=kindEnc) Tryz.underlying106 (KeyOK.int Tryz.underlying39) ty105 (hM.of_obj e.2) s
end
theorem Firm.size (B n:Nat):Firm B (fun w=>n≤w.heap.size):=fun w w' h hn=>Nat.le_trans hn h.1
theorem Sources_seq (p5:Nat) (lv:Value) (css:List (Cs 7)) (l:List FrD) (hM:Mates 7 FrW css l) (hll:l.length≤1000000) :
 SeqIt2 Pg 56 #[.pointer (some ⟨p5,0,none⟩)] (srcF 0 l).length (srcX (srcF 0 l)) (srcY (srcF 0 l)) (SrcAt p5 lv css):=by
 intro yv J Jx Jp w hy hFP hJl hJx hJp hstep h0
 obtain ⟨g5,hT⟩:=hFP 0 w h0
 obtain ⟨A,c,rfl,_,_,_,hel⟩:=SliceOf.open hT
 have hcl:css.length=l.length:=hM.1
 rw [hcl] at g5 hFP hT
 refine n18s (t0:=yv) ?_
 unfold n18
 refine Qp (cells_of_heap g5).1 ?_
 generalize hwant:srcF 0 l=want at hstep ⊢
 refine loop1_intro (fun a w'=>∃ k j:Nat,a = .int .i64 k∧k≤l.length∧j≤want.length∧J j w'∧want.drop j=srcF k (l.drop k)∧w.heap.size≤w'.heap.size) (fun a _=>l.length - (intOf a).toNat) ⟨0,0,rfl,by omega,by omega,h0,by rw [← hwant];rfl,Nat.le_refl _⟩ ?_
 rintro _ w1 ⟨k,j,rfl,hk,hjn,hJ,hW,hsz⟩
 obtain ⟨a5,aT⟩:=hFP j w1 hJ
 obtain ⟨A',c',hv',_,_,_,hel'⟩:=SliceOf.open aT
 injection hv' with e1 _ e2
 subst e1 e2
 by_cases hlt:k < l.length
 case neg =>
  obtain rfl:k=l.length:=Qx
  have d1:decide ((l.length:Int) < (l.length:Int))=false:=decide_eq_false Qx
  rw [List.drop_length] at hW
  have hW:want.drop j=[]:=hW
  rw [List.drop_eq_nil_iff] at hW
  obtain rfl:j=want.length:=Qx
  refine Qp d1 ?_
  exact .inl hJ
 obtain ⟨x,hx⟩:=getElem?_lt hlt
 obtain ⟨cx,hcx⟩:=getElem?_lt (l:=css) (k:=k) Qx
 obtain ⟨b,o,cs,rfl,_,hA,rfl⟩:=hel' k cx hcx
 obtain ⟨bv,tv,hcs,u1,u2⟩:=hM.2 k x cx hx hcx
 rw [hcs] at hA
 have dk:(k:Int) < (l.length:Int):=Qx
 have d1:decide ((k:Int) < (l.length:Int))=true:=decide_eq_true dk
 have hw:IntKind.i64.wrap ((k:Int)+1)=((k+1:Nat):Int):=by rw [wrap_ok Qx Qx];omega
 have hdr:l.drop k=x::l.drop (k+1):=by
  obtain ⟨hk,rfl⟩:=Qv hx
  exact List.drop_eq_getElem_cons hk
 rw [hdr] at hW
 unfold srcF at hW
 unfold n18c3
 refine QQ d1 dk (hA.c7 (Ext.refl w1)) ?_
 have eY:Ext w1 (w1.alloc (.cells (frCells x bv tv).toArray 43)):=ee
 have oY:=heap_new w1 (frCells x bv tv).toArray 43
 change drawK (w1.alloc (.cells (frCells x bv tv).toArray 43)) _
 generalize (w1.alloc (.cells (frCells x bv tv).toArray 43))=Y at eY oY ⊢
 have hp4:w.heap.size≤w1.heap.size:=hsz
 generalize w1.heap.size=p4 at oY hp4 ⊢
 have eD:Ext Y (Sw.drew Y):=(Ext.refl Y).drew
 refine ⟨K2s (Sw.drew Y) p4 p4,⟨rfl,rfl⟩,?_⟩
 have oD:=eD.obj oY
 have eYD:=eY.trans eD
 generalize (Sw.drew Y)=D at oD eYD ⊢
 unfold n18c2
 refine Qf ?_
 rw [qK2_one (v := .int .i64 x.kind) ty39 oD rfl]
 refine callK_ret (mkinds_ret D) ?_
 rintro _ w2 ⟨m,L,cc,rfl,hm,hMB,hKM,e2⟩
 have o2:=e2.obj oD
 have E2:=eYD.trans e2
 refine ⟨K2s w2 p4 m,fun u hu=>⟨hu.1.trans (o2.trans oD.symm),hu.1.trans (o2.trans oD.symm)⟩,⟨rfl,rfl⟩,?_⟩
 have hfr:(Sw.look L x.kind).getD (useV ⟨false,false,false,false,false⟩)=useV ((usesK x.kind).getD ⟨false,false,false,false,false⟩):=by
  rw [hKM]
  cases usesK x.kind<;>rfl
 have hfb:((usesK x.kind).getD ⟨false,false,false,false,false⟩).fr=frB x:=by
  unfold frB
  cases usesK x.kind<;>rfl
 have hJ2:=(hJl j).ext hJ E2
 have hs2:w.heap.size≤w2.heap.size:=Nat.le_trans hsz E2.size
 show n18c1 _ _ _ _ _ (K2s w2 p4 m) _ _ w2
 unfold n18c1
 rw [qK2_kind hMB,hfr]
 unfold useV
 rw [hfb]
 refine Qf ?_
 cases hf:frB x with
 | false =>
  rw [hf,if_neg (by simp)] at hW
  refine Qp hw ?_
  exact ⟨⟨k+1,j,rfl,by omega,hjn,hJ2,hW,hs2⟩,meas_lt (kd := .i64) hlt⟩
 | true =>
  rw [hf,if_pos rfl] at hW
  have hjl:j < want.length:=by
   rcases Nat.lt_or_ge j want.length with h | h
   · exact h
   · rw [List.drop_eq_nil_iff.2 h] at hW;cases hW
  have hwj:want[j]?=some (k,x):=by
   rw [List.drop_eq_getElem_cons hjl] at hW
   injection hW with hW _
   rw [List.getElem?_eq_getElem hjl,hW]
  have hW2:want.drop (j+1)=srcF (k+1) (l.drop (k+1)):=by
   rw [List.drop_eq_getElem_cons hjl] at hW
   injection hW
  have hR:Firm w.heap.size (fun u=>u.heap[p4]?=some (.cells (frCells x bv tv).toArray 43 (0,0))∧u.heap[m]?=some (Sw.mapObj kindEnc L cc)∧w.heap.size≤u.heap.size):=(Firm.has hp4 (by simp)).and ((Firm.has (by have:=eYD.size;have:=Nat.le_trans hsz this;omega) (by intro r hr;cases hr)).and (Firm.size _ _))
  have hs:=hstep j hjl _ hR w2 hJ2 ⟨o2,hMB.obj,hs2⟩
  rw [srcX_at hwj,srcY_at hwj] at hs
  rw [guard_tt,qK2_one (v := .string x.fr) ty9 o2 rfl]
  refine callV_mono hs (fun ch w h=>h.2) ?_
  rintro q w5 ⟨⟨r4,rm,r5⟩,hq⟩
  refine ⟨⟨r4.trans o2.symm,rm.trans hMB.obj.symm⟩,?_⟩
  rcases hq with ⟨rfl,h5⟩ | ⟨rfl,h5⟩
  · refine Qp hw ?_
    exact ⟨⟨k+1,j+1,rfl,by omega,hjl,h5,hW2,r5⟩,meas_lt (kd := .i64) hlt⟩
  · refine Qf ?_
    exact .inr h5
theorem scRow {b:Nat} {T:TypeId} {fr:Nat×Nat}:∀ (vs:List Value) (o:Nat) {w:World} {cur:Array Value},w.heap[b]?=some (.cells cur T fr)→∃ cur':Array Value,(setCells w b o vs).heap[b]?=some (.cells cur' T fr)∧cur'.size=cur.size
 | [],_,_,_,h=>⟨_,h,rfl⟩
 | v::vs,o,w,cur,h=>by
  obtain ⟨cur',h1,h2⟩:=scRow vs (o+1) (heap_set (o:=o) h v)
  exact ⟨cur',h1,by rw [h2];simp⟩
theorem scStore {P:Program} {QP:List PanicEntry→World→Prop} {w:World} {T n m:Nat} {z:Value} {ku:World→Prop} (h:TyInfo P T true n m z) {b:Nat} {cur:Array Value} {T':TypeId} (hc:w.heap[b]?=some (.cells cur T' (0,0))) (o:Nat) (vs:List Value) (ho:o+n≤cur.size) (hn:vs.length=n) (hv:∀ v∈vs,v.oneCell'=true) :
 opU P (Instr.storeAt T (.pointer (some ⟨b,o,none⟩)) (.agg vs.toArray)) QP w ku=ku (setCells w b o vs):=by
 refine opU_ok (u:=()) ?_
 have:=run_storeCellsA (P:=P) b o vs 0 w (fun j hj=>⟨cur[o+(0+j)]'Qx,by rw [(cells_of_heap hc).1];exact Array.getElem?_eq_getElem Qx⟩) (fun j hj=>(cells_of_heap hc).2 _) hv
 simp [Instr.storeAt,Instr.sureAddr,storeVar,Sw.run_sizeOf h,cells_agg,hn,this]
theorem uses_none {k:Int} (h:usesK k=none):¬ (1≤k∧k≤7):=fun hk=>by
 have:k=1∨k=2∨k=3∨k=4∨k=5∨k=6∨k=7:=Qx
 rcases this with rfl | rfl | rfl | rfl | rfl | rfl | rfl<;>cases h
def addL (x:FrD):List UInt8:=if x.kind=2 then 32::Go.Lib.itoa x.add else if x.kind=3 then 32::Go.Lib.itoa x.value else if x.kind=4 then 32::digitsL x.bytes else if x.kind=5 then x.table.flatMap fun y=>32::rowL y else []
def zeroR:FrD:=⟨⟨#[]⟩,0,⟨#[]⟩,0,0,[],[]⟩
structure RuZ (w0 w:World) (p2 p6:Nat) (x:FrD) (bv tv wv:Value) (W:List (List UInt8)):Prop where
 e:Ext w0 w
 l2:w0.heap.size≤p2
 l6:w0.heap.size≤p6
 ne:p2≠p6
 o2:w.heap[p2]?=some (.cells (frCells zeroR nilS nilS).toArray 43 (0,0))
 o6:w.heap[p6]?=some (.cells (frCells x bv tv).toArray 43 (0,0))
 hb:OwnE w w0.heap.size 5 1 byteEnc bv x.bytes
 ht:OwnE w w0.heap.size 78 3 rowCells tv x.table
 hw:OwnS w w0.heap.size wv (W.map mkB)
def n40c1 (t6 t7 t9 t10:Value) (next2:KV) (ds:List Deferred) (R:RT) (w:World):Prop :=
 opV Pg (Instr.fieldAt 24 t7 1) (outQ Pg ds [(some 4,t6)] R) w fun t47 w =>
 opV Pg (Instr.loadAt 22 t47) (outQ Pg ds [(some 4,t6)] R) w fun t48 w =>
 opV Pg (Instr.indexAt 22 t48 t9) (outQ Pg ds [(some 4,t6)] R) w fun t50 w =>
 opV Pg (Instr.fieldAt 60 t50 2) (outQ Pg ds [(some 4,t6)] R) w fun t51 w =>
 opV Pg (Instr.loadAt 58 t51) (outQ Pg ds [(some 4,t6)] R) w fun t52 w =>
 opV Pg (Instr.build 43 #[]) (outQ Pg ds [(some 4,t6)] R) w fun t54 w =>
 opV Pg (Instr.indexAt 58 t52 t10) (outQ Pg ds [(some 4,t6)] R) w fun t55 w =>
 opU Pg (Instr.storeAt 43 t55 t54) (outQ Pg ds [(some 4,t6)] R) w fun w =>
 opV Pg (binS .add 3 true t10 (.int .i64 1)) (outQ Pg ds [(some 4,t6)] R) w fun t46 w =>
 next2 t46 w
def n40c2 (t6 t7 t9 t10:Value) (next1:KV) (next2:KV) (ds:List Deferred) (R:RT) (w:World):Prop :=
 opV Pg (Instr.fieldAt 24 t7 1) (outQ Pg ds [(some 4,t6)] R) w fun t37 w =>
 opV Pg (Instr.loadAt 22 t37) (outQ Pg ds [(some 4,t6)] R) w fun t38 w =>
 opV Pg (Instr.indexAt 22 t38 t9) (outQ Pg ds [(some 4,t6)] R) w fun t40 w =>
 opV Pg (Instr.fieldAt 60 t40 2) (outQ Pg ds [(some 4,t6)] R) w fun t41 w =>
 opV Pg (Instr.loadAt 58 t41) (outQ Pg ds [(some 4,t6)] R) w fun t42 w =>
 opV Pg (Builtin.len_ #[58] 3 #[t42]) (outQ Pg ds [(some 4,t6)] R) w fun t43 w =>
 opV Pg (binS .lss 3 false t10 t43) (outQ Pg ds [(some 4,t6)] R) w fun t44 w =>
 condP t44 (
 n40c1 t6 t7 t9 t10 next2 ds R w) (
 opV Pg (binS .add 3 true t9 (.int .i64 1)) (outQ Pg ds [(some 4,t6)] R) w fun t35 w =>
 next1 t35 w)
def n40c3 (t5 t15 t16:Value) (Kr6:World→Prop) (Qr6:List PanicEntry→World→Prop) (Xr6:Nat→World→Prop) (R:RT) (w:World):Prop :=
 opV Pg (Instr.loadAt 3 t16) Qr6 w fun t133 w =>
 opV Pg (binS .add 3 true t133 (.int .i64 1)) Qr6 w fun t134 w =>
 opU Pg (Instr.storeAt 3 t16 t134) Qr6 w fun w =>
 opV Pg (Instr.loadAt 3 t15) Qr6 w fun t135 w =>
 opV Pg (binS .eql 3 true t135 (.int .i64 0)) Qr6 w fun t136 w =>
 joinK (fun (t140:Value) (w:World) =>
 pickK t136 t140 (.bool false) fun t141 =>
 condP t141 (
 Xr6 1 w) (
 Kr6 w)) fun K9 =>
 guardP t136 true (
 opV Pg (Instr.loadAt 3 t16) Qr6 w fun t138 w =>
 opV Pg (Instr.loadAt 3 t5) Qr6 w fun t139 w =>
 opV Pg (binS .geq 3 false t138 t139) Qr6 w fun t140 w =>
 K9 t140 w) (
 K9 undef w)
def n40c4 (t5 t6 t15 t16 t118 t131:Value) (Kr6:World→Prop) (Qr6:List PanicEntry→World→Prop) (Xr6:Nat→World→Prop) (R:RT) (w:World):Prop :=
 pickK t118 (.bool true) t131 fun t132 =>
 condP t132 (
 opU Pg (Instr.storeAt 4 t6 (.bool false)) Qr6 w fun w =>
 Xr6 0 w) (
 n40c3 t5 t15 t16 Kr6 Qr6 Xr6 R w)
def n40c5 (t3 t4 t105 t106:Value) (K8:KV) (Qr6:List PanicEntry→World→Prop) (R:RT) (w:World):Prop :=
 opV Pg (Instr.fieldAt 24 t3 1) Qr6 w fun t121 w =>
 opV Pg (Instr.loadAt 22 t121) Qr6 w fun t122 w =>
 opV Pg (Instr.loadAt 3 t4) Qr6 w fun t123 w =>
 opV Pg (Instr.indexAt 22 t122 t123) Qr6 w fun t124 w =>
 opV Pg (Instr.fieldAt 60 t124 2) Qr6 w fun t125 w =>
 opV Pg (Instr.loadAt 58 t125) Qr6 w fun t126 w =>
 opV Pg (Instr.indexAt 58 t126 t105) Qr6 w fun t128 w =>
 opV Pg (Instr.fieldAt 43 t128 2) Qr6 w fun t129 w =>
 opV Pg (Instr.loadAt 9 t129) Qr6 w fun t130 w =>
 opV Pg (binS .neq 9 false t106 t130) Qr6 w fun t131 w =>
 K8 t131 w
def n40c6 (t3 t4 t5 t6 t15 t16 t105 t106 t110 t117:Value) (Kr6:World→Prop) (Qr6:List PanicEntry→World→Prop) (Xr6:Nat→World→Prop) (R:RT) (w:World):Prop :=
 pickK t110 (.bool true) t117 fun t118 =>
 joinK (fun (t131:Value) (w:World) =>
 n40c4 t5 t6 t15 t16 t118 t131 Kr6 Qr6 Xr6 R w) fun K8 =>
 guardP t118 false (
 n40c5 t3 t4 t105 t106 K8 Qr6 R w) (
 K8 undef w)
def n40c7 (t3 t4 t5 t6 t11 t15 t16 t105 t106:Value) (Kr6:World→Prop) (Qr6:List PanicEntry→World→Prop) (Xr6:Nat→World→Prop) (R:RT) (w:World):Prop :=
 opV Pg (Instr.loadAt 3 t16) Qr6 w fun t107 w =>
 opV Pg (Instr.loadAt 61 t11) Qr6 w fun t108 w =>
 opV Pg (Builtin.len_ #[61] 3 #[t108]) Qr6 w fun t109 w =>
 opV Pg (binS .geq 3 false t107 t109) Qr6 w fun t110 w =>
 joinK (fun (t117:Value) (w:World) =>
 n40c6 t3 t4 t5 t6 t15 t16 t105 t106 t110 t117 Kr6 Qr6 Xr6 R w) fun K7 =>
 guardP t110 false (
 opV Pg (Instr.loadAt 61 t11) Qr6 w fun t113 w =>
 opV Pg (Instr.loadAt 3 t16) Qr6 w fun t114 w =>
 opV Pg (Instr.indexAt 61 t113 t114) Qr6 w fun t115 w =>
 opV Pg (Instr.loadAt 3 t115) Qr6 w fun t116 w =>
 opV Pg (binS .neq 3 false t105 t116) Qr6 w fun t117 w =>
 K7 t117 w) (
 K7 undef w)
def n40c8 (t6 t15:Value) (next5:List Deferred→Value→World→Prop) (ds:List Deferred) (R:RT) (w:World):Prop :=
 opV Pg (Instr.loadAt 3 t15) (outQ Pg ds [(some 4,t6)] R) w fun t150 w =>
 opV Pg (Instr.alloc 3 true (.tuple #[])) (outQ Pg ds [(some 4,t6)] R) w fun t15 w =>
 opU Pg (Instr.storeAt 3 t15 t150) (outQ Pg ds [(some 4,t6)] R) w fun w =>
 opV Pg (Instr.loadAt 3 t15) (outQ Pg ds [(some 4,t6)] R) w fun t102 w =>
 opV Pg (binS .add 3 true t102 (.int .i64 1)) (outQ Pg ds [(some 4,t6)] R) w fun t103 w =>
 opU Pg (Instr.storeAt 3 t15 t103) (outQ Pg ds [(some 4,t6)] R) w fun w =>
 next5 ds t15 w
def n40c9 (t6 t15 t143 t148:Value) (next5:List Deferred→Value→World→Prop) (ds:List Deferred) (R:RT) (w:World):Prop :=
 pickK t143 t148 (.bool false) fun t149 =>
 condP t149 (
 opU Pg (Instr.storeAt 4 t6 (.bool false)) (outQ Pg ds [(some 4,t6)] R) w fun w =>
 outX Pg ds [(some 4,t6)] R w) (
 n40c8 t6 t15 next5 ds R w)
def n40c10 (t6 t11 t15 t16:Value) (next5:List Deferred→Value→World→Prop) (ds:List Deferred) (R:RT) (w:World):Prop :=
 opV Pg (Instr.loadAt 3 t15) (outQ Pg ds [(some 4,t6)] R) w fun t142 w =>
 opV Pg (binS .eql 3 true t142 (.int .i64 1)) (outQ Pg ds [(some 4,t6)] R) w fun t143 w =>
 joinK (fun (t148:Value) (w:World) =>
 n40c9 t6 t15 t143 t148 next5 ds R w) fun K10 =>
 guardP t143 true (
 opV Pg (Instr.loadAt 3 t16) (outQ Pg ds [(some 4,t6)] R) w fun t145 w =>
 opV Pg (Instr.loadAt 61 t11) (outQ Pg ds [(some 4,t6)] R) w fun t146 w =>
 opV Pg (Builtin.len_ #[61] 3 #[t146]) (outQ Pg ds [(some 4,t6)] R) w fun t147 w =>
 opV Pg (binS .neq 3 false t145 t147) (outQ Pg ds [(some 4,t6)] R) w fun t148 w =>
 K10 t148 w) (
 K10 undef w)
def n40c11 (t6 t15:Value) (next5:List Deferred→Value→World→Prop) (ds:List Deferred) (R:RT) (w:World):Prop :=
 opV Pg (Instr.loadAt 3 t15) (outQ Pg ds [(some 4,t6)] R) w fun t150 w =>
 opV Pg (Instr.alloc 3 true (.tuple #[])) (outQ Pg ds [(some 4,t6)] R) w fun t15 w =>
 opU Pg (Instr.storeAt 3 t15 t150) (outQ Pg ds [(some 4,t6)] R) w fun w =>
 opV Pg (Instr.loadAt 3 t15) (outQ Pg ds [(some 4,t6)] R) w fun t102 w =>
 opV Pg (binS .add 3 true t102 (.int .i64 1)) (outQ Pg ds [(some 4,t6)] R) w fun t103 w =>
 opU Pg (Instr.storeAt 3 t15 t103) (outQ Pg ds [(some 4,t6)] R) w fun w =>
 next5 ds t15 w
def n40c12 (t6 t15 t143 t148:Value) (next5:List Deferred→Value→World→Prop) (ds:List Deferred) (R:RT) (w:World):Prop :=
 pickK t143 t148 (.bool false) fun t149 =>
 condP t149 (
 opU Pg (Instr.storeAt 4 t6 (.bool false)) (outQ Pg ds [(some 4,t6)] R) w fun w =>
 outX Pg ds [(some 4,t6)] R w) (
 n40c11 t6 t15 next5 ds R w)
def n40c13 (t6 t11 t15 t16:Value) (next5:List Deferred→Value→World→Prop) (ds:List Deferred) (R:RT) (w:World):Prop :=
 opV Pg (Instr.loadAt 3 t15) (outQ Pg ds [(some 4,t6)] R) w fun t142 w =>
 opV Pg (binS .eql 3 true t142 (.int .i64 1)) (outQ Pg ds [(some 4,t6)] R) w fun t143 w =>
 joinK (fun (t148:Value) (w:World) =>
 n40c12 t6 t15 t143 t148 next5 ds R w) fun K11 =>
 guardP t143 true (
 opV Pg (Instr.loadAt 3 t16) (outQ Pg ds [(some 4,t6)] R) w fun t145 w =>
 opV Pg (Instr.loadAt 61 t11) (outQ Pg ds [(some 4,t6)] R) w fun t146 w =>
 opV Pg (Builtin.len_ #[61] 3 #[t146]) (outQ Pg ds [(some 4,t6)] R) w fun t147 w =>
 opV Pg (binS .neq 3 false t145 t147) (outQ Pg ds [(some 4,t6)] R) w fun t148 w =>
 K11 t148 w) (
 K11 undef w)
def n40c14 (t6:Value) (ds:List Deferred) (R:RT) (w:World):Prop :=
 callK Pg 12 #[] (outQ Pg ds [(some 4,t6)] R) w fun t151 w =>
 opU Pg (Instr.storeAt 4 t6 t151) (outQ Pg ds [(some 4,t6)] R) w fun w =>
 outX Pg ds [(some 4,t6)] R w
def n40c15 (t3 t4 t5 t6 t11 t15 t26:Value) (next5:List Deferred→Value→World→Prop) (ds:List Deferred) (R:RT) (w:World):Prop :=
 opV Pg (Instr.alloc 3 true (.tuple #[])) (outQ Pg ds [(some 4,t6)] R) w fun t16 w =>
 opU Pg (Instr.storeAt 3 t16 (.int .i64 0)) (outQ Pg ds [(some 4,t6)] R) w fun w =>
 rangeN2 Pg t26 ds (fun l6 t105 t106 w Kr6 Xr6 Qr6 =>
 busyK l6 w fun w =>
 n40c7 t3 t4 t5 t6 t11 t15 t16 t105 t106 Kr6 Qr6 Xr6 R w) (fun ch ds w=>outQ Pg ds [(some 4,t6)] R ch w) w (fun ds w =>
 n40c10 t6 t11 t15 t16 next5 ds R w) [fun ds w =>
 outX Pg ds [(some 4,t6)] R w,fun ds w =>
 n40c13 t6 t11 t15 t16 next5 ds R w]
def n40c16 (t3 t4 t5 t6 t11 t15 t26:Value) (next5:List Deferred→Value→World→Prop) (ds:List Deferred) (R:RT) (w:World):Prop :=
 opV Pg (Instr.loadAt 3 t15) (outQ Pg ds [(some 4,t6)] R) w fun t100 w =>
 opV Pg (binS .lss 3 true t100 (.int .i64 2)) (outQ Pg ds [(some 4,t6)] R) w fun t101 w =>
 condP t101 (
 n40c15 t3 t4 t5 t6 t11 t15 t26 next5 ds R w) (
 n40c14 t6 ds R w)
def n40c17 (t3 t4 t5 t6 t11 t26:Value) (ds:List Deferred) (R:RT) (w:World):Prop :=
 opV Pg (Instr.alloc 3 true (.tuple #[])) (outQ Pg ds [(some 4,t6)] R) w fun t15 w =>
 opU Pg (Instr.storeAt 3 t15 (.int .i64 0)) (outQ Pg ds [(some 4,t6)] R) w fun w =>
 loopM1 (fun ds t15 w next5 =>
 n40c16 t3 t4 t5 t6 t11 t15 t26 next5 ds R w) ds t15 w
def n40c18 (t6 t11 t13:Value) (K16:World→Prop) (ds:List Deferred) (R:RT) (w:World):Prop :=
 opV Pg (Instr.loadAt 61 t11) (outQ Pg ds [(some 4,t6)] R) w fun t96 w =>
 opV Pg (Instr.buildSlice 61 1 #[(0,t13)]) (outQ Pg ds [(some 4,t6)] R) w fun t98 w =>
 opV Pg (Builtin.append_ #[61,61] 61 #[t96,t98]) (outQ Pg ds [(some 4,t6)] R) w fun t99 w =>
 opU Pg (Instr.storeAt 61 t11 t99) (outQ Pg ds [(some 4,t6)] R) w fun w =>
 K16 w
def n40c19 (t6 t11 t13 t91 t94:Value) (next12:KV) (ds:List Deferred) (R:RT) (w:World):Prop :=
 pickK t91 (.bool true) t94 fun t95 =>
 joinK (fun (w:World) =>
 opV Pg (binS .add 3 true t13 (.int .i64 1)) (outQ Pg ds [(some 4,t6)] R) w fun t76 w =>
 next12 t76 w) fun K16 =>
 condP t95 (
 n40c18 t6 t11 t13 K16 ds R w) (
 K16 w)
def n40c20 (t6 t11 t13 t81 t87 t90:Value) (next12:KV) (ds:List Deferred) (R:RT) (w:World):Prop :=
 pickK t87 (.bool true) t90 fun t91 =>
 joinK (fun (t94:Value) (w:World) =>
 n40c19 t6 t11 t13 t91 t94 next12 ds R w) fun K15 =>
 guardP t91 false (
 opV Pg (binS .eql 39 true t81 (.int .i64 6)) (outQ Pg ds [(some 4,t6)] R) w fun t94 w =>
 K15 t94 w) (
 K15 undef w)
def n40c21 (t6 t11 t13 t81 t83 t86:Value) (next12:KV) (ds:List Deferred) (R:RT) (w:World):Prop :=
 pickK t83 (.bool true) t86 fun t87 =>
 joinK (fun (t90:Value) (w:World) =>
 n40c20 t6 t11 t13 t81 t87 t90 next12 ds R w) fun K14 =>
 guardP t87 false (
 opV Pg (binS .eql 39 true t81 (.int .i64 5)) (outQ Pg ds [(some 4,t6)] R) w fun t90 w =>
 K14 t90 w) (
 K14 undef w)
def n40c22 (t6 t11 t13 t70:Value) (next12:KV) (ds:List Deferred) (R:RT) (w:World):Prop :=
 opV Pg (Instr.indexAt 58 t70 t13) (outQ Pg ds [(some 4,t6)] R) w fun t79 w =>
 opV Pg (Instr.fieldAt 43 t79 1) (outQ Pg ds [(some 4,t6)] R) w fun t80 w =>
 opV Pg (Instr.loadAt 39 t80) (outQ Pg ds [(some 4,t6)] R) w fun t81 w =>
 opV Pg (binS .eql 39 true t81 (.int .i64 1)) (outQ Pg ds [(some 4,t6)] R) w fun t83 w =>
 joinK (fun (t86:Value) (w:World) =>
 n40c21 t6 t11 t13 t81 t83 t86 next12 ds R w) fun K13 =>
 guardP t83 false (
 opV Pg (binS .eql 39 true t81 (.int .i64 2)) (outQ Pg ds [(some 4,t6)] R) w fun t86 w =>
 K13 t86 w) (
 K13 undef w)
def n40c23 (t6 t11 t13 t70:Value) (K4:World→Prop) (next12:KV) (ds:List Deferred) (R:RT) (w:World):Prop :=
 opV Pg (Builtin.len_ #[58] 3 #[t70]) (outQ Pg ds [(some 4,t6)] R) w fun t73 w =>
 opV Pg (binS .lss 3 false t13 t73) (outQ Pg ds [(some 4,t6)] R) w fun t74 w =>
 condP t74 (
 n40c22 t6 t11 t13 t70 next12 ds R w) (
 K4 w)
def n40c24 (t3 t4 t6 t11:Value) (K4:World→Prop) (ds:List Deferred) (R:RT) (w:World):Prop :=
 opV Pg (Instr.fieldAt 24 t3 1) (outQ Pg ds [(some 4,t6)] R) w fun t65 w =>
 opV Pg (Instr.loadAt 22 t65) (outQ Pg ds [(some 4,t6)] R) w fun t66 w =>
 opV Pg (Instr.loadAt 3 t4) (outQ Pg ds [(some 4,t6)] R) w fun t67 w =>
 opV Pg (Instr.indexAt 22 t66 t67) (outQ Pg ds [(some 4,t6)] R) w fun t68 w =>
 opV Pg (Instr.fieldAt 60 t68 2) (outQ Pg ds [(some 4,t6)] R) w fun t69 w =>
 opV Pg (Instr.loadAt 58 t69) (outQ Pg ds [(some 4,t6)] R) w fun t70 w =>
 loop1 (fun t13 w next12 =>
 n40c23 t6 t11 t13 t70 K4 next12 ds R w) (.int .i64 0) w
def n40c25 (t3 t4 t5 t6 t11 t26 t57 t63:Value) (ds:List Deferred) (R:RT) (w:World):Prop :=
 pickK t57 t63 (.bool false) fun t64 =>
 joinK (fun (w:World) =>
 n40c17 t3 t4 t5 t6 t11 t26 ds R w) fun K4 =>
 condP t64 (
 n40c24 t3 t4 t6 t11 K4 ds R w) (
 K4 w)
def n40c26 (t3 t4 t5 t6 t26:Value) (ds:List Deferred) (R:RT) (w:World):Prop :=
 opV Pg (Instr.alloc 61 true (.tuple #[])) (outQ Pg ds [(some 4,t6)] R) w fun t11 w =>
 opV Pg (Instr.loadAt 3 t4) (outQ Pg ds [(some 4,t6)] R) w fun t56 w =>
 opV Pg (binS .geq 3 true t56 (.int .i64 0)) (outQ Pg ds [(some 4,t6)] R) w fun t57 w =>
 joinK (fun (t63:Value) (w:World) =>
 n40c25 t3 t4 t5 t6 t11 t26 t57 t63 ds R w) fun K3 =>
 guardP t57 true (
 opV Pg (Instr.loadAt 3 t4) (outQ Pg ds [(some 4,t6)] R) w fun t59 w =>
 opV Pg (Instr.fieldAt 24 t3 1) (outQ Pg ds [(some 4,t6)] R) w fun t60 w =>
 opV Pg (Instr.loadAt 22 t60) (outQ Pg ds [(some 4,t6)] R) w fun t61 w =>
 opV Pg (Builtin.len_ #[22] 3 #[t61]) (outQ Pg ds [(some 4,t6)] R) w fun t62 w =>
 opV Pg (binS .lss 3 false t59 t62) (outQ Pg ds [(some 4,t6)] R) w fun t63 w =>
 K3 t63 w) (
 K3 undef w)
def n40c27 (t3 t4 t5 t6 t7 t9 t26:Value) (next1:KV) (ds:List Deferred) (R:RT) (w:World):Prop :=
 opV Pg (Instr.fieldAt 24 t7 1) (outQ Pg ds [(some 4,t6)] R) w fun t30 w =>
 opV Pg (Instr.loadAt 22 t30) (outQ Pg ds [(some 4,t6)] R) w fun t31 w =>
 opV Pg (Builtin.len_ #[22] 3 #[t31]) (outQ Pg ds [(some 4,t6)] R) w fun t32 w =>
 opV Pg (binS .lss 3 false t9 t32) (outQ Pg ds [(some 4,t6)] R) w fun t33 w =>
 condP t33 (
 loop1 (fun t10 w next2 =>
 n40c2 t6 t7 t9 t10 next1 next2 ds R w) (.int .i64 0) w) (
 n40c26 t3 t4 t5 t6 t26 ds R w)
def n40c28 (t3 t4 t5 t6 t7 t26:Value) (ds:List Deferred) (R:RT) (w:World):Prop :=
 opV Pg (binS .eql 56 true t26 .nilFunc) (outQ Pg ds [(some 4,t6)] R) w fun t28 w =>
 condP t28 (
 opU Pg (Instr.storeAt 4 t6 (.bool false)) (outQ Pg ds [(some 4,t6)] R) w fun w =>
 outX Pg ds [(some 4,t6)] R w) (
 loop1 (fun t9 w next1 =>
 n40c27 t3 t4 t5 t6 t7 t9 t26 next1 ds R w) (.int .i64 0) w)
def n40c29 (t3 t4 t5 t6 t23:Value) (ds:List Deferred) (R:RT) (w:World):Prop :=
 opV Pg (Instr.alloc 24 true (.tuple #[])) (outQ Pg ds [(some 4,t6)] R) w fun t7 w =>
 opU Pg (Instr.storeAt 24 t7 t23) (outQ Pg ds [(some 4,t6)] R) w fun w =>
 opV Pg (Instr.loadAt 24 t7) (outQ Pg ds [(some 4,t6)] R) w fun t24 w =>
 opV Pg (Instr.loadAt 3 t4) (outQ Pg ds [(some 4,t6)] R) w fun t25 w =>
 callK Pg 24 #[t24,t25] (outQ Pg ds [(some 4,t6)] R) w fun t26 w =>
 n40c28 t3 t4 t5 t6 t7 t26 ds R w
def n40c30 (t6:Value) (ds:List Deferred) (R:RT) (w:World):Prop :=
 callK Pg 12 #[] (outQ Pg ds [(some 4,t6)] R) w fun t21 w =>
 opU Pg (Instr.storeAt 4 t6 t21) (outQ Pg ds [(some 4,t6)] R) w fun w =>
 outX Pg ds [(some 4,t6)] R w
def n40c31 (t3 t4 t5 t6:Value) (ds:List Deferred) (R:RT) (w:World):Prop :=
 opV Pg (Instr.loadAt 24 t3) (outQ Pg ds [(some 4,t6)] R) w fun t22 w =>
 callK Pg 13 #[t22] (outQ Pg ds [(some 4,t6)] R) w fun t23 w =>
 n40c29 t3 t4 t5 t6 t23 ds R w
def n40 (t0 t1 t2:Value) (R:RT) (w:World):Prop :=
 (fun (ds:List Deferred) =>
 opV Pg (Instr.box 24 t0) (outQ Pg ds [(some 4,undef)] R) w fun t3 w =>
 opV Pg (Instr.box 3 t1) (outQ Pg ds [(some 4,undef)] R) w fun t4 w =>
 opV Pg (Instr.box 3 t2) (outQ Pg ds [(some 4,undef)] R) w fun t5 w =>
 opV Pg (Instr.alloc 4 true (.tuple #[])) (outQ Pg ds [(some 4,undef)] R) w fun t6 w =>
 opV Pg (Instr.loadAt 24 t3) (outQ Pg ds [(some 4,t6)] R) w fun t19 w =>
 callK Pg 10 #[t19] (outQ Pg ds [(some 4,t6)] R) w fun t20 w =>
 condP t20 (
 n40c30 t6 ds R w) (
 n40c31 t3 t4 t5 t6 ds R w)) []
theorem n40s {t0 t1 t2:Value} {R:RT} {w:World} (h:n40 t0 t1 t2 R w):Calls Pg 6 #[t0,t1,t2] w R:=by
 refine yE Tryz.func6 ?_
 unfold n40 at h
 dsimp only at h
 refine zs<|zr<|yv h fun _ w h=>yv h fun _ w h=>yv h fun _ w h=>yv h fun _ w h=>zn<|zk<|zs<|zs<|zr<|yv h fun _ w h=>yc h c10 fun _ w h=>zn<|zk ?_
 refine yC h (fun h=>zs<|zr<|yc h c12 fun _ w h=>yu h fun w h=>zn<|zk<|sim_ret<|sim_then_ret<|bodyM_ret rfl h) fun h=>sim_skip<|zk<|zs<|zr<|yv h fun _ w h=>yc h c13 fun _ w h=>yv h fun _ w h=>yu h fun w h=>zn<|zk<|zs<|zr<|yv h fun _ w h=>?_
 refine yv h fun _ w h=>yc h c24 fun _ w h=>zm<|zn<|zk<|zs<|zs<|zr<|zm<|yb h fun _ w h=>zn<|zk<|yC h (fun h=>zs<|zr<|yu h fun w h=>zn<|zk<|sim_ret<|sim_then_ret<|bodyM_ret rfl h) fun h=>sim_skip ?_
 refine zk<|zs<|zs<|zr<|zm<|zn<|zk<|sim_block<|yl1 [9,10,29,30,31,32,33,34,35,36,37,38,39,40,41,42,43,44,45,46,47,48,49,50,51,52,53,54,55] 9 h fun σ w next h=>zs<|zs<|zr<|zm<|yv h fun _ w h=>yv h fun _ w h=>?_
 refine yx h fun _ w h=>yb h fun _ w h=>zn<|zk<|yC h (fun h=>?_) fun h=>?_
 · refine sim_skip<|zk<|zs<|sim_block<|zs<|zr<|zm<|zn<|zk<|sim_block<|yl1 [10,36,37,38,39,40,41,42,43,44,45,46,47,48,49,50,51,52,53,54,55] 10 h fun σ w next h=>zs<|zs<|zr<|zm ?_
   refine yv h fun _ w h=>yv h fun _ w h=>zm<|yv h fun _ w h=>yv h fun _ w h=>yv h fun _ w h=>yx h fun _ w h=>yb h fun _ w h=>zn<|zk<|yC h (fun h=>?_) fun h=>?_
   · refine sim_skip<|zk<|zs<|sim_block<|zr<|yv h fun _ w h=>yv h fun _ w h=>zm<|yv h fun _ w h=>yv h fun _ w h=>yv h fun _ w h=>zm<|yB h fun _ w h=>yv h fun _ w h=>yu h fun w h=>?_
     exact zn<|sim_block_normal<|zk<|zr<|zm<|yb h fun _ w h=>zm<|zn<|zk<|⟨rfl,h⟩
   exact sim_exit<|sim_then_exit<|sim_then_exit<|sim_block_hit<|sim_block_normal<|zk<|zr<|zm<|yb h fun _ w h=>zm<|zn<|zk<|⟨rfl,h⟩
 refine sim_exit<|sim_then_exit<|sim_then_exit<|sim_block_hit<|zk<|zs<|zr<|yv h fun _ w h=>zn<|zk<|zs<|zs<|sim_regionG<|yG 3<|yv h fun _ w h=>?_
 refine yb h fun _ w h=>zm<|zn<|yg1 5 2 true [59,60,61,62,63] 63 h (fun _ T hT h=>?_) fun σ w h=>?_
 · refine yv h fun _ w h=>yv h fun _ w h=>yv h fun _ w h=>yx h fun _ w h=>yb h fun _ w h=>zn ?_
   exact zt hT h
 refine yG 1<|yp h fun _ h=>zn<|sim_end<|zk<|yJ0 [12,13,14,65,66,67,68,69,70,71,72,73,74,75,76,77,78,79,80,81,82,83,84,85,86,87,88,89,90,91,92,93,94,95,96,97,98,99] h (fun _ _ hkK4 h=>?_) fun σ w h=>?_
 · refine yC h (fun h=>?_) fun h=>?_
   · refine zs<|zr<|yv h fun _ w h=>yv h fun _ w h=>yv h fun _ w h=>yv h fun _ w h=>yv h fun _ w h=>yv h fun _ w h=>zm<|zn<|zk<|zs<|zr<|zm<|zn ?_
     refine zk<|sim_block<|yl1 [13,14,71,72,73,74,75,76,77,78,79,80,81,82,83,84,85,86,87,88,89,90,91,92,93,94,95,96,97,98,99] 13 h fun σ w next h=>zs<|zs<|zr<|zm<|zm<|yx h fun _ w h=>yb h fun _ w h=>zn<|zk<|yC h (fun h=>?_) fun h=>?_
     · refine sim_skip<|zk<|zs<|sim_block<|zs<|zr<|zm<|zm<|yv h fun _ w h=>yv h fun _ w h=>yv h fun _ w h=>zm<|zn<|zk<|zs ?_
       refine sim_regionG<|yG 3<|zm<|yb h fun _ w h=>zm<|zn<|yg1 2 2 false [85,86] 86 h (fun _ T hT h=>?_) fun σ w h=>?_
       · refine zm<|yb h fun _ w h=>zn ?_
         exact zt hT h
       refine yG 2<|yp h fun _ h=>zm<|zn<|yg1 2 6 false [89,90] 90 h (fun _ T hT h=>?_) fun σ w h=>?_
       · refine zm<|yb h fun _ w h=>zn ?_
         exact zt hT h
       refine yG 2<|yp h fun _ h=>zm<|zn<|yg1 2 10 false [93,94] 94 h (fun _ T hT h=>?_) fun σ w h=>?_
       · refine zm<|yb h fun _ w h=>zn ?_
         exact zt hT h
       refine yG 1<|yp h fun _ h=>zn<|sim_end<|zk<|yJ0 [96,97,98,99] h (fun _ _ hkK16 h=>?_) fun σ w h=>?_
       · refine yC h (fun h=>?_) fun h=>?_
         · refine zr<|yv h fun _ w h=>zm<|yS h fun _ w h=>yx h fun _ w h=>yu h fun w h=>zn<|zk ?_
           exact zt hkK16 h
         refine sim_skip<|zk ?_
         exact zt hkK16 h
       exact sim_block_normal<|zk<|zr<|zm<|yb h fun _ w h=>zm<|zn<|zk<|⟨rfl,h⟩
     refine sim_exit<|sim_then_exit<|sim_then_exit<|sim_block_hit<|zk ?_
     exact zt hkK4 h
   refine sim_skip<|zk ?_
   exact zt hkK4 h
 refine zk<|zs<|zs<|zr<|yv h fun _ w h=>yu h fun w h=>zn<|zk<|sim_block<|yL1 [15,16,100,101,102,103,104,142,143,144,145,146,147,148,149,150] 15 h fun σ ds w next h=>zs<|zs<|zr<|yv h fun _ w h=>yb h fun _ w h=>?_
 refine zn<|zk<|yC h (fun h=>?_) fun h=>?_
 · refine sim_skip<|zk<|zs<|sim_block<|zs<|zr<|yv h fun _ w h=>yu h fun w h=>zn<|zk<|zs<|zs<|zr<|zm<|zn ?_
   refine zk<|sim_block<|sim_range2 [.ret,.exit 8] h rfl (fun l6 t105 t106 w Kr6 Xr6 Qr6 h=>?_) (fun ds w h=>?_) (fun c ds w h=>?_) (fun ch ds w h=>outQ_of rfl h)
   · refine zs<|zr<|zm<|zn<|zk<|zr<|zm<|zn<|zk ?_
     obtain ⟨hr,h⟩:=h
     refine ⟨rfl,hr,fun w hb=>?_⟩
     have h:=h w hb
     refine sim_block<|zs<|zs<|sim_regionG<|yG 5<|yv h fun _ w h=>yv h fun _ w h=>yx h fun _ w h=>yb h fun _ w h=>zm<|zn<|yg1 6 4 false [112,113,114,115,116,117] 117 h (fun _ T hT h=>?_) fun σ w h=>?_
     · refine zm<|yv h fun _ w h=>yv h fun _ w h=>yv h fun _ w h=>yv h fun _ w h=>yb h fun _ w h=>zn ?_
       exact zt hT h
     refine yG 2<|yp h fun _ h=>zm<|zn<|yg1 12 12 false [120,121,122,123,124,125,126,127,128,129,130,131] 131 h (fun _ T hT h=>?_) fun σ w h=>?_
     · refine zm<|yv h fun _ w h=>yv h fun _ w h=>yv h fun _ w h=>yv h fun _ w h=>yv h fun _ w h=>yv h fun _ w h=>zm<|yv h fun _ w h=>yv h fun _ w h=>yv h fun _ w h=>yb h fun _ w h=>zn ?_
       exact zt hT h
     refine yG 1<|yp h fun _ h=>zn<|sim_end<|zk<|yC h (fun h=>zs<|zr<|yu h fun w h=>zn<|zk<|sim_ret<|sim_then_ret<|sim_block_ret<|⟨rfl,0,rfl,h⟩) fun h=>sim_skip<|zk<|zs<|zr<|yv h fun _ w h=>yb h fun _ w h=>yu h fun w h=>zn ?_
     refine zk<|zs<|sim_regionG<|yG 3<|yv h fun _ w h=>yb h fun _ w h=>zm<|zn<|yg1 3 2 true [138,139,140] 140 h (fun _ T hT h=>?_) fun σ w h=>?_
     · refine yv h fun _ w h=>yv h fun _ w h=>yb h fun _ w h=>zn ?_
       exact zt hT h
     exact yG 1<|yp h fun _ h=>zn<|sim_end<|zk<|yC h (fun h=>sim_exit<|sim_block_miss rfl<|⟨rfl,1,rfl,h⟩) fun h=>sim_skip<|sim_block_normal<|⟨rfl,h⟩
   · refine sim_block_normal<|zk<|zs<|sim_regionG<|yG 3<|yv h fun _ w h=>yb h fun _ w h=>zm<|zn<|yg1 4 2 true [145,146,147,148] 148 h (fun _ T hT h=>?_) fun σ w h=>?_
     · refine yv h fun _ w h=>yv h fun _ w h=>yx h fun _ w h=>yb h fun _ w h=>zn ?_
       exact zt hT h
     refine yG 1<|yp h fun _ h=>zn<|sim_end<|zk<|yC h (fun h=>zs<|zr<|yu h fun w h=>zn<|zk<|sim_ret<|sim_block_ret<|sim_then_ret<|sim_then_ret<|sim_block_ret<|sim_then_ret<|bodyM_ret rfl h) fun h=>sim_skip<|sim_block_normal<|zk<|zs<|zs<|zr<|yv h fun _ w h=>zn ?_
     exact zk<|zr<|yv h fun _ w h=>yu h fun w h=>zn<|zk<|zr<|yv h fun _ w h=>yb h fun _ w h=>yu h fun w h=>zn<|zk<|h
   rcases c with _ | c
   · refine ⟨_,rfl,.inl ⟨rfl,?_⟩⟩
     exact sim_block_ret<|sim_then_ret<|sim_block_ret<|sim_then_ret<|sim_then_ret<|sim_block_ret<|sim_then_ret<|bodyM_ret rfl h
   rcases c with _ | c
   · refine ⟨_,rfl,.inr ⟨_,rfl,?_⟩⟩
     refine sim_block_hit<|zk<|zs<|sim_regionG<|yG 3<|yv h fun _ w h=>yb h fun _ w h=>zm<|zn<|yg1 4 2 true [145,146,147,148] 148 h (fun _ T hT h=>?_) fun σ w h=>?_
     · refine yv h fun _ w h=>yv h fun _ w h=>yx h fun _ w h=>yb h fun _ w h=>zn ?_
       exact zt hT h
     refine yG 1<|yp h fun _ h=>zn<|sim_end<|zk<|yC h (fun h=>zs<|zr<|yu h fun w h=>zn<|zk<|sim_ret<|sim_block_ret<|sim_then_ret<|sim_then_ret<|sim_block_ret<|sim_then_ret<|bodyM_ret rfl h) fun h=>sim_skip<|sim_block_normal<|zk<|zs<|zs<|zr<|yv h fun _ w h=>zn ?_
     exact zk<|zr<|yv h fun _ w h=>yu h fun w h=>zn<|zk<|zr<|yv h fun _ w h=>yb h fun _ w h=>yu h fun w h=>zn<|zk<|h
   exact h.elim
 exact sim_exit<|sim_then_exit<|sim_then_exit<|sim_block_hit<|zk<|zs<|zr<|yc h c12 fun _ w h=>yu h fun w h=>zn<|zk<|sim_ret<|bodyM_ret rfl h
abbrev TFr:TypeId:=43
structure Zr (lo hi:Nat) (w w':World):Prop where
 os:w'.os=w.os
 tape:w'.tape=w.tape
 output:w'.output=w.output
 size:w'.heap.size=w.heap.size
 same:∀ b,(b < lo∨hi≤b∨∀ cs f,w.heap[b]?≠some (.cells cs TFr f))→w'.heap[b]?=w.heap[b]?
 row:∀ (b:Nat) (cs:Array Value),w.heap[b]?=some (.cells cs TFr (0,0))→∃ cs':Array Value,w'.heap[b]?=some (.cells cs' TFr (0,0))∧cs'.size=cs.size
section
variable {lo hi g o:Nat} {A w4 w:World} {cur:Array Value} {vs:List Value}
theorem Zr.refl (lo hi:Nat) (w:World):Zr lo hi w w:=⟨rfl,rfl,rfl,rfl,fun _ _=>rfl,fun _ cs h=>⟨cs,h,rfl⟩⟩
theorem Zr.ext (h:Zr lo hi w4 w) (e:Ext A w4) (hA:A.heap.size≤lo):Ext A w:=⟨h.os.trans e.os,h.tape.trans e.tape,h.output.trans e.output,by rw [h.size];exact e.size,fun b hb=>(h.same b (.inl Qx)).trans (e.block b hb)⟩
theorem Zr.obj (h:Zr lo hi w4 w) {b:Nat} {cs:Array Value} {T:TypeId} {f:Nat×Nat} (hb:w4.heap[b]?=some (.cells cs T f)) (hT:T≠TFr):w.heap[b]?=some (.cells cs T f):=(h.same b (.inr (.inr fun cs' f' e=>by
 rw [hb] at e
 injection e with e
 injection e with _ e
 exact hT e))).trans hb
theorem Zr.step (h:Zr lo hi w4 w) (hlo:lo≤g) (hhi:g < hi) {cur4:Array Value} (h4:w4.heap[g]?=some (.cells cur4 TFr (0,0))):Zr lo hi w4 (setCells w g o vs):=by
 obtain ⟨h1,h2,h3⟩:=setCells_os vs w o (b:=g)
 refine ⟨h1.trans h.os,h2.trans h.tape,h3.trans h.output,by rw [setCells_size];exact h.size,fun b hb=>?_,fun b cs hb=>?_⟩
 · have hne:b≠g:=by
    rintro rfl
    rcases hb with hb | hb | hb
    · omega
    · omega
    · exact hb _ _ h4
   exact (setCells_only vs w o b hne).trans (h.same b hb)
 · obtain ⟨cs',h5,h6⟩:=h.row b cs hb
   by_cases hbg:b=g
   · subst hbg
     obtain ⟨cs2,h7,h8⟩:=scRow vs o h5
     exact ⟨cs2,h7,by rw [h8,h6]⟩
   · exact ⟨cs',(setCells_only vs w o b hbg).trans h5,h6⟩
end
section
variable {lo hi p7:Nat} {w4 w5:World} {m:MapD} {rv t3 t4 t5 t6 t26:Value} {css:List (Cs 3)} {ds:List Deferred} {R:RT}
theorem zero_rule {Y w:World} (hZ:Zr lo Y.heap.size w4 w) (e4:Ext Y w4) (o7:w4.heap[p7]?=some (.cells (mapCells m rv).toArray 24 (0,0))) (hO:OwnE Y lo 60 3 Subtype.val rv css) (hM:Mates 3 (EO Y lo) css m.rules)
 {i:Nat} {r:MrD} (hr:m.rules[i]?=some r) (hi9:i≤1000000000) (hfl:r.fields.length≤1000000) {next1:Value→World→Prop}
 (hN:∀ w',Zr lo Y.heap.size w4 w'→next1 (.int .i64 ((i+1:Nat):Int)) w') :
 loop1 (fun t10 w next2=>n40c2 t6 (.pointer (some ⟨p7,0,none⟩)) (.int .i64 i) t10 next1 next2 ds R w) (.int .i64 0) w:=by
 have hml:css.length=m.rules.length:=hM.1
 have hil:=(Qv hr).1
 obtain ⟨c,hc⟩:=getElem?_lt (l:=css) (k:=i) Qx
 obtain ⟨fv,hcf,css7,hF,hFm⟩:=hM.2 i r c hr hc
 have hF4:=hF.ext e4
 obtain ⟨gr,cap,rfl,_,_,⟨oc,f,hgr⟩,_,hel⟩:=(hO.ext e4).row (fun x=>x.2) Qx
 have hEl:=hel i c hc
 rw [hcf] at hEl
 have hfc:w4.cell? ⟨gr,i*3+2,none⟩=some fv:=hEl 2 fv rfl
 have hfl7:css7.length=r.fields.length:=hFm.1
 have hwi:IntKind.i64.wrap ((i:Int)+1)=((i+1:Nat):Int):=by rw [wrap_ok Qx Qx];omega
 have dki:(i:Int) < (css.length:Int):=Qx
 refine loop1_intro (fun a w=>∃ k:Nat,a = .int .i64 k∧k≤r.fields.length∧Zr lo Y.heap.size w4 w) (fun a _=>r.fields.length - (intOf a).toNat) ⟨0,rfl,by omega,hZ⟩ ?_
 clear hZ
 rintro _ w ⟨k,rfl,hk,hZ⟩
 have q7:=(cells_of_heap (hZ.obj o7 Qj)).1
 have qr:w.cell? ⟨gr,i*3+2,none⟩=some fv:=by rw [World.cell?_of_block ((hZ.obj hgr Qj).trans hgr.symm)];exact hfc
 unfold n40c2
 rcases hF4.2 with ⟨hfv,hnil⟩ | ⟨g,cap7,cur,hfv,hg0,hg,hcp,hcm,hcs,ht⟩
 · have hk0:r.fields.length=0:=Qx
   subst hfv
   have d1:decide ((k:Int) < ((0:Nat):Int))=false:=by simp only [decide_eq_false_iff_not];omega
   have d1':decide ((k:Int) < 0)=false:=by simp only [decide_eq_false_iff_not];omega
   simp (disch:=try exact DI) only [↓PR,QR,simprocAttr,q7,dki,Nat.zero_add,qr,d1,d1',hwi]
   exact hN _ hZ
 · subst hfv
   rw [hfl7] at qr
   by_cases hlt:k < r.fields.length
   · have dk:(k:Int) < (r.fields.length:Int):=Qx
     have d1:decide ((k:Int) < (r.fields.length:Int))=true:=decide_eq_true dk
     have hwk:IntKind.i64.wrap ((k:Int)+1)=((k+1:Nat):Int):=by rw [wrap_ok Qx Qx];omega
     obtain ⟨cur',hg',hcs'⟩:=hZ.row g cur hg
     unfold n40c1
     simp (disch:=try exact DI) only [↓PR,QR,simprocAttr,q7,dki,Nat.zero_add,qr,d1,dk]
     refine (scStore ty43 hg' (k*7) (frCells zeroR nilS nilS) (by rw [hcs',hcs];omega) rfl (by intro v hv;simp only [List.mem_cons,List.not_mem_nil,or_false] at hv;rcases hv with rfl | rfl | rfl | rfl | rfl | rfl | rfl<;>rfl)).mpr ?_
     have hgY:g < Y.heap.size:=(World.ownsRow.lt hF g rfl).2
     have hZ':=hZ.step (o:=k*7) (vs:=frCells zeroR nilS nilS) hg0 hgY hg
     refine Qp hwk ?_
     exact ⟨⟨k+1,rfl,by omega,hZ'⟩,meas_lt (kd := .i64) hlt⟩
   · obtain rfl:k=r.fields.length:=Qx
     have d1:decide ((r.fields.length:Int) < (r.fields.length:Int))=false:=by simp
     simp (disch:=try exact DI) only [↓PR,QR,simprocAttr,q7,dki,Nat.zero_add,qr,d1,hwi]
     exact hN _ hZ
end
theorem zero_rules {lo p7:Nat} {Y w4:World} {m:MapD} {rv t3 t4 t5 t6 t26:Value} {css:List (Cs 3)} {ds:List Deferred} {R:RT} (e4:Ext Y w4) (o7:w4.heap[p7]?=some (.cells (mapCells m rv).toArray 24 (0,0))) (hO:OwnE Y lo 60 3 Subtype.val rv css) (hM:Mates 3 (EO Y lo) css m.rules) (hml:m.rules.length≤1000000) (hfl:∀ r∈m.rules,r.fields.length≤1000000)
 (hK:∀ w',Zr lo Y.heap.size w4 w'→n40c26 t3 t4 t5 t6 t26 ds R w') :
 loop1 (fun t9 w next1=>n40c27 t3 t4 t5 t6 (.pointer (some ⟨p7,0,none⟩)) t9 t26 next1 ds R w) (.int .i64 0) w4:=by
 have hcl:css.length=m.rules.length:=hM.1
 obtain ⟨A,c,hrv,_⟩:=SliceOf.open ((hO.ext e4).slice (E:=fun _ cs (x:Cs 3)=>cs=x.1) (fun x=>x.2) (fun _ _=>rfl))
 rw [hcl] at hrv
 refine loop1_intro (fun a w=>∃ i:Nat,a = .int .i64 i∧i≤m.rules.length∧Zr lo Y.heap.size w4 w) (fun a _=>m.rules.length - (intOf a).toNat) ⟨0,rfl,by omega,Zr.refl _ _ _⟩ ?_
 rintro _ w ⟨i,rfl,hi,hZ⟩
 have q7:=(cells_of_heap (hZ.obj o7 Qj)).1
 rw [hrv] at q7
 unfold n40c27
 by_cases hlt:i < m.rules.length
 · have d1:decide ((i:Int) < (m.rules.length:Int))=true:=decide_eq_true Qx
   obtain ⟨r,hr⟩:=getElem?_lt hlt
   refine QJ q7 d1 ?_
   refine zero_rule hZ e4 o7 hO hM hr Qx (hfl r (List.mem_of_getElem? hr)) fun w' hZ'=>?_
   exact ⟨⟨i+1,rfl,by omega,hZ'⟩,meas_lt (kd := .i64) hlt⟩
 · have d1:decide ((i:Int) < (m.rules.length:Int))=false:=decide_eq_false Qx
   refine QJ q7 d1 ?_
   exact hK w hZ
abbrev encI (n:Nat):List Value:=[.int .i64 (n:Int)]
def ENat (_:World) (cs:List Value) (n:Nat):Prop:=cs=encI n
theorem append_int {w:World} {QP:List PanicEntry→World→Prop} {k:Value→World→Prop} {base:Nat} {v:Value} {l:List Nat} (x:Nat) {b:Nat} (hown:OwnE w base 3 1 encI v l) (hc:w.heap[b]?=some (.cells #[.int .i64 (x:Int)] 3 (0,0))) (hbase:base≤w.heap.size) (hl:l.length≤1048576)
 (hk:∀ v' w',OwnE w' base 3 1 encI v' (l++[x])→w.grownBy w' v.ownBlock→k v' w') :
 opV Pg (Builtin.append_ #[61,61] 61 #[v,.slice (some ⟨b,0,none⟩) 1 1]) QP w k:=by
 have hby:=by3
 refine op_appendE (l':=[x]) Tryz.underlying61 ty3 rfl Qj (fun _=>rfl) (fun x _ u hu=>by simp at hu;subst hu;rfl) hown (fun j y hy=>?_) hbase ?_ (by simp;omega) hk
 · cases j with
   | zero =>
    simp at hy;subst hy
    intro j v hv
    rw [(cells_of_heap hc).1]
    simpa using hv
   | succ j=>simp at hy
 · simp only [List.length_cons,List.length_nil]
   exact Nat.le_trans (Nat.mul_le_mul (Nat.add_le_add_right hl 1) hby) Qj
theorem srcF_snoc:∀ (l:List FrD) (k:Nat) (x:FrD),srcF k (l++[x])=srcF k l++if frB x=true then [(k+l.length,x)] else []
 | [],k,x=>by
  show srcF k [x]=_
  unfold srcF
  split<;>rfl
 | y::l,k,x=>by
  have ih:=srcF_snoc l (k+1) x
  have he:k+1+l.length=k+(y::l).length:=by simp only [List.length_cons];omega
  rw [he] at ih
  show srcF k (y::(l++[x]))=_
  unfold srcF
  rw [ih]
  by_cases hy:frB y=true
  · rw [if_pos hy,if_pos hy,List.cons_append]
  · rw [if_neg hy,if_neg hy]
theorem frB_kind (x:FrD):frB x=(((x.kind == 1)||(x.kind == 2))||(x.kind == 5)||(x.kind == 6)):=by
 unfold frB
 cases hu:usesK x.kind with
 | none =>
  have:=uses_none hu
  have h1:(x.kind == 1)=false:=by rw [beq_eq_false_iff_ne];omega
  have h2:(x.kind == 2)=false:=by rw [beq_eq_false_iff_ne];omega
  have h5:(x.kind == 5)=false:=by rw [beq_eq_false_iff_ne];omega
  have h6:(x.kind == 6)=false:=by rw [beq_eq_false_iff_ne];omega
  simp [h1,h2,h5,h6]
 | some u =>
  have hk:=uses_kind hu
  have:x.kind=1∨x.kind=2∨x.kind=3∨x.kind=4∨x.kind=5∨x.kind=6∨x.kind=7:=Qx
  rcases this with h | h | h | h | h | h | h<;>(rw [h] at hu ⊢;injection hu with hu;subst hu;rfl)
section
variable {V:World} {p3 p4:Nat} {m:MapD} {rv t5 t6 t26:Value} {n:Int} {ds:List Deferred} {R:RT}
theorem src_want (o3:V.heap[p3]?=some (.cells (mapCells m rv).toArray 24 (0,0))) (hR:MrsOf V rv m.rules) (o4:V.heap[p4]?=some (.cells #[.int .i64 n] 3 (0,0))) (hfl:∀ r∈m.rules,r.fields.length≤1000000)
 (hK:∀ (w':World) (p11:Nat) (v:Value),Ext V w'→V.heap.size≤p11→w'.heap[p11]?=some (.cells #[v] 61 (0,0))→SliceOf w' 1 ENat v ((srcF 0 (fldsAt m n)).map (·.1))→n40c17 (.pointer (some ⟨p3,0,none⟩)) (.pointer (some ⟨p4,0,none⟩)) t5 t6 (.pointer (some ⟨p11,0,none⟩)) t26 ds R w') :
 n40c26 (.pointer (some ⟨p3,0,none⟩)) (.pointer (some ⟨p4,0,none⟩)) t5 t6 t26 ds R V:=by
 obtain ⟨A,c,rfl,hlc,hcm,hlm,hel⟩:=SliceOf.open hR
 unfold n40c26
 simp (disch:=try exact DI) only [↓PR,QR,simprocAttr,fun o=>(cells_of_heap (((Ext.refl V).alloc o).obj o3)).1,fun o=>(cells_of_heap (((Ext.refl V).alloc o).obj o4)).1]
 have oT:=heap_new V #[.slice none 0 0] 61
 have eX:Ext V (V.alloc (.cells #[.slice none 0 0] 61)):=(Ext.refl V).alloc _
 have hp11:V.heap.size≤V.heap.size:=Nat.le_refl _
 change guardP _ _ (n40c25 _ _ _ _ _ _ _ _ _ _ (V.alloc (.cells #[.slice none 0 0] 61))) (n40c25 _ _ _ _ _ _ _ _ _ _ (V.alloc (.cells #[.slice none 0 0] 61)))
 generalize (V.alloc (.cells #[.slice none 0 0] 61))=X at oT eX ⊢
 obtain ⟨p11,hp⟩:∃ p11,V.heap.size=p11:=⟨_,rfl⟩
 have l11:V.heap.size≤p11:=Nat.le_of_eq hp
 rw [hp] at oT ⊢
 have no:fldsAt m n=[]→n40c17 (.pointer (some ⟨p3,0,none⟩)) (.pointer (some ⟨p4,0,none⟩)) t5 t6 (.pointer (some ⟨p11,0,none⟩)) t26 ds R X:=fun h=>hK X p11 _ eX l11 oT (by rw [h];exact SliceOf.nil ..)
 unfold n40c25
 by_cases h0:0≤n
 · have d0:decide (0≤n)=true:=by simpa using h0
   by_cases h1:n < (m.rules.length:Int)
   · have d1:decide (n < (m.rules.length:Int))=true:=by simpa using h1
     obtain ⟨k,rfl⟩:∃ k:Nat,n=k:=⟨n.toNat,by omega⟩
     obtain ⟨r,hr⟩:=getElem?_lt (l:=m.rules) (k:=k) Qx
     have hf:fldsAt m (k:Int)=r.fields:=by
      unfold fldsAt
      rw [if_pos ⟨h0,h1⟩,Int.toNat_natCast,hr]
      rfl
     rw [hf] at hK
     clear no hf
     obtain ⟨b,o,cs,rfl,_,hA,fv,rfl,hF⟩:=hel k r hr
     have u1:=SliceOf.oneCell hF
     have hrl:=hfl r (List.mem_of_getElem? hr)
     obtain ⟨A2,c2,rfl,_,_,_,hel2⟩:=SliceOf.open hF
     have g1:=hA.c3 eX
     unfold n40c24
     refine Q0 d0 d1 (cells_of_heap (eX.obj o3)).1 (cells_of_heap (eX.obj o4)).1 h1 g1 ?_
     refine loop1_intro (fun a w=>∃ (j:Nat) (v:Value),a = .int .i64 j∧j≤r.fields.length∧Ext V w∧w.heap[p11]?=some (.cells #[v] 61 (0,0))∧OwnE w V.heap.size 3 1 encI v ((srcF 0 (r.fields.take j)).map (·.1))) (fun a _=>r.fields.length - (intOf a).toNat) ⟨0,_,rfl,by omega,eX,oT,OwnE.nil _ _ _ _ _⟩ ?_
     rintro _ w ⟨j,v,rfl,hj,e,o11,hO⟩
     have v1:v.oneCell'=true:=SliceOf.oneCell (hO.slice (E:=ENat) (fun _=>rfl) (fun _ _=>rfl))
     unfold n40c23
     by_cases hlt:j < r.fields.length
     · obtain ⟨x,hx⟩:=getElem?_lt hlt
       obtain ⟨b2,o2,cs,rfl,_,hA2,bv,tv,rfl,hB,hT⟩:=hel2 j x hx
       have dk:(j:Int) < (r.fields.length:Int):=Qx
       have d2:decide ((j:Int) < (r.fields.length:Int))=true:=decide_eq_true dk
       have hwj:IntKind.i64.wrap ((j:Int)+1)=((j+1:Nat):Int):=by rw [wrap_ok Qx Qx];omega
       have g2:=hA2.c7 e
       have hsn:(srcF 0 (r.fields.take (j+1))).map (·.1)=(srcF 0 (r.fields.take j)).map (·.1)++if frB x=true then [j] else []:=by
        rw [take_snoc' hx,srcF_snoc,List.map_append,List.length_take,Nat.zero_add,show min j r.fields.length=j by omega]
        congr 1
        split<;>rfl
       have hb:=frB_kind x
       unfold n40c22 n40c21 n40c20 n40c19
       refine QQ d2 dk g2 ?_
       rw [← hb]
       cases hfx:frB x with
       | false =>
        rw [hfx,if_neg (by simp),List.append_nil] at hsn
        refine Qp hwj ?_
        exact ⟨⟨j+1,v,rfl,by omega,e,o11,by rw [hsn];exact hO⟩,meas_lt (kd := .i64) hlt⟩
       | true =>
        rw [hfx,if_pos rfl] at hsn
        unfold n40c18
        refine Qp (cells_of_heap o11).1 ?_
        have oY:=heap_new w #[.int .i64 (j:Int)] 3
        have eY:Ext w (w.alloc (.cells #[.int .i64 (j:Int)] 3)):=(Ext.refl w).alloc _
        generalize (w.alloc (.cells #[.int .i64 (j:Int)] 3))=Y at oY eY ⊢
        have hOY:=hO.ext eY
        have hlw:=srcF_len (r.fields.take j) 0
        refine append_int j hOY oY (e.trans eY).size (by rw [List.length_map];rw [List.length_take] at hlw;omega) fun v' w' hO' hg=>?_
        have o11':=grow_obj hOY hg (eY.obj o11) Qj
        have v1':v'.oneCell'=true:=SliceOf.oneCell (hO'.slice (E:=ENat) (fun _=>rfl) (fun _ _=>rfl))
        have e':Ext V w':=(e.trans eY).grown hg fun b hb=>(World.ownsRow.lt hO b hb).1
        have hc:Chg p11 w' (w'.setCell ⟨p11,0,none⟩ v'):=⟨by rw [World.size_setCell];exact Nat.le_refl _,fun b _ hb=>Only.setCell _ p11 0 _ b hb⟩
        refine QQ (cells_of_heap o11').1 (cells_of_heap o11').2 hwj ?_
        refine ⟨⟨j+1,v',rfl,by omega,e'.setCell (p:=⟨p11,0,none⟩) l11 _,by first | exact heap_set (o:=0) o11' v' | trivial,?_⟩,meas_lt (kd := .i64) hlt⟩
        rw [hsn]
        exact own_chg hO' hc (own_type hO' o11' Qj)
     · obtain rfl:j=r.fields.length:=Qx
       have d2:decide ((r.fields.length:Int) < (r.fields.length:Int))=false:=by simp
       rw [List.take_length] at hO
       refine Qp d2 ?_
       exact hK w p11 v e l11 o11 (hO.slice (fun _=>rfl) (fun _ _=>rfl))
   · have d1:decide (n < (m.rules.length:Int))=false:=by simpa using h1
     refine QJ d0 d1 ?_
     exact no (by unfold fldsAt;rw [if_neg fun h=>h1 h.2])
 · have d0:decide (0≤n)=false:=by simpa using h0
   refine Qp d0 ?_
   exact no (by unfold fldsAt;rw [if_neg fun h=>h0 h.1])
end
theorem printedK_ret (w0:World) (v:Value) (x:FrD) (hx:FrVal w0 v x) (hk:x.kind=1∨x.kind=7):Ret Pg 60 #[v] w0 fun r w'=>OwnS w' w0.heap.size r (wordsB x)∧Ext w0 w':=by
 obtain ⟨bv,tv,rfl,hB,hT,b1,b2⟩:=hx.op
 refine n37s (R:=retR _) ?_;unfold n37
 rw [op_boxA]
 have q1:=heap_new w0 (frCells x bv tv).toArray 43
 have e1:Ext w0 (w0.alloc (.cells (frCells x bv tv).toArray 43)):=(Ext.refl w0).alloc _
 generalize (w0.alloc (.cells (frCells x bv tv).toArray 43))=W at q1 e1 ⊢
 obtain ⟨p1,hp1⟩:∃ p1,w0.heap.size=p1:=⟨_,rfl⟩
 rw [hp1] at q1 ⊢
 have c1:=(cells_of_heap q1).1
 have fin:∀ (w:World) (l:List ByteArray),Ext w0 w→l.length≤1000→wordsB x=l→(OwnS (w.alloc (.cells (l.map Value.string).toArray 9)) p1 (.slice (some ⟨w.heap.size,0,none⟩) l.length l.length) (wordsB x)∧Ext w0 (w.alloc (.cells (l.map Value.string).toArray 9))):=by
  intro w l e hl hw
  rw [hw]
  exact ⟨own_strs w l hl (by have:=e.size;omega),e.alloc _⟩
 rcases hk with k1 | k7
 · simp (disch:=try exact DI) only [↓PR,QR,simprocAttr,c1,k1,n37c14]
   exact fin W [x.to,⟨#[99,111,112,121]⟩,x.fr] e1 (by simp) (by unfold wordsB wordsF tailW;rw [if_pos k1,k1];rfl)
 · simp (disch:=try exact DI) only [↓PR,QR,simprocAttr,c1,k7,n37c13,n37c12,n37c9]
   exact fin W [x.to,⟨#[102,105,116]⟩] e1 (by simp) (by unfold wordsB wordsF tailW;rw [k7];rfl)
theorem plain_words:∀ x∈[nFit,bCopy],(x.kind=1∨x.kind=7)∧printF x=true∧(wordsB x).length≤3∧wordsB x≠[]∧(joinW ⟨#[32]⟩ (wordsB x)).size≤100:=Qj
section
variable {a0 w:World} {base bF:Nat} {lv:Value} {ls:List ByteArray} {R:RT}
theorem flds_k (e:Ext a0 w) (oF:a0.heap[bF]?=some (.cells (frCells nFit nilS nilS++frCells bCopy nilS nilS).toArray 43 (0,0))) (hO:OwnS w base lv ls) (hb:base≤w.heap.size) (h0:a0.heap.size≤base) (hl:ls.length≤100) {next1:Value→Value→Value→World→Prop}
 (hK:∀ lv' w',Ext a0 w'→OwnS w' base lv' (ls++[nFit,bCopy].map (fun x=>joinW ⟨#[32]⟩ (wordsB x))++[⟨#[101,110,100]⟩])→base≤w'.heap.size→next1 (.bool true) lv' (.int .i64 1) w') :
 loop3 (fun t1004 t1005 t47 w next3=>opV Pg (binS .lss 3 false t47 (.int .i64 2)) (panK R) w fun t48 w=>condP t48 (n14c4 (.slice (some ⟨bF,0,none⟩) 2 2) t47 t1004 t1005 next3 R w) (n14c3 (.int .i64 0) t1004 t1005 next1 R w)) (.bool true) lv (.int .i64 0) w:=by
 have hF:=frs_two oF rfl rfl rfl rfl
 obtain ⟨A',c',hv,_,_,_,hel⟩:=SliceOf.open hF
 injection hv with hv1 _ hv2
 subst hv1 hv2
 refine loop3_intro (fun x y z w'=>∃ k:Nat,x = .bool true∧z = .int .i64 k∧k≤[nFit,bCopy].length∧Ext a0 w'∧OwnS w' base y (ls++([nFit,bCopy].take k).map fun x=>joinW ⟨#[32]⟩ (wordsB x))∧base≤w'.heap.size) (fun _ _ z _=>[nFit,bCopy].length - (intOf z).toNat) ⟨0,rfl,rfl,Nat.zero_le _,e,by simpa using hO,hb⟩ ?_
 rintro _ y _ w1 ⟨k,rfl,rfl,hk,e1,hO1,hb1⟩
 have hlen:(ls++([nFit,bCopy].take k).map fun x=>joinW ⟨#[32]⟩ (wordsB x)).length≤1000000:=by
  rw [List.length_append,List.length_map,List.length_take]
  simp only [List.length_cons,List.length_nil]
  omega
 rcases drop_cases hk with ⟨x,hx,_,hlt,hdec⟩ | ⟨hk,_,hdec⟩
 · obtain ⟨g1,g2,g3,g4,g5⟩:=plain_words x (List.mem_of_getElem? hx)
   obtain ⟨b,o,cs,hA0,_,hA,hEx⟩:=hel k x hx
   injection hA0 with hA0
   injection hA0 with hA1 hA2
   subst hA1 hA2
   rw [Nat.zero_add] at hA
   obtain ⟨bv,tv,rfl,hB,hT,o1,o2⟩:=hEx.op
   have dk:(k:Int) < 2:=by simp only [List.length_cons,List.length_nil] at hlt;omega
   have hwk:IntKind.i64.wrap ((k:Int)+1)=(k:Int)+1:=wrap_ok Qx Qx
   refine QJ hdec dk ?_
   unfold n14c4
   refine QJ (hA.c7 e1) dk ?_
   have oV:=heap_new w1 (frCells x bv tv).toArray 43
   have eV:Ext w1 (w1.alloc (.cells (frCells x bv tv).toArray 43)):=(Ext.refl w1).alloc _
   generalize (w1.alloc (.cells (frCells x bv tv).toArray 43))=V at oV eV ⊢
   generalize w1.heap.size=p9 at oV ⊢
   have EV:=e1.trans eV
   refine Qp (cells_of_heap oV).1 ?_
   refine zcr (printable_ret V _ x ⟨_,_,rfl,hB.ext EV,hT.ext EV⟩) fun w2 e2=>?_
   rw [g2]
   have E2:=EV.trans e2
   unfold n14c2
   refine Qp (cells_of_heap (e2.obj oV)).1 ?_
   refine callK_ret (printedK_ret w2 _ x ⟨_,_,rfl,hB.ext E2,hT.ext E2⟩ g1) ?_
   rintro u w3 ⟨hu,e3⟩
   have E3:=E2.trans e3
   refine zcr (Join_ret hu ⟨#[32]⟩ (List.length_pos_iff.2 g4) Qx Qx) fun w4 e4=>?_
   have E4:=E3.trans e4
   unfold n14c1
   have e14:=eV.trans (e2.trans (e3.trans e4))
   refine app_line (w0:=a0) (joinW ⟨#[32]⟩ (wordsB x)) (hO1.ext e14) (by have:=e14.size;omega) hlen E4 h0 fun v' w5 hO5 e5 hb5=>?_
   refine Qp hwk ?_
   refine ⟨⟨k+1,by trivial,rfl,hlt,e5,?_,hb5⟩,meas_lt (kd := .i64) hlt⟩
   rw [take_snoc' hx,List.map_append,← List.append_assoc]
   exact hO5
 · subst hk
   rw [List.take_length] at hO1
   rw [List.take_length] at hlen
   have d2:decide ((([nFit,bCopy].length:Nat):Int) < 2)=false:=Qj
   refine Qp d2 ?_
   unfold n14c3
   refine app_line (w0:=a0) ⟨#[101,110,100]⟩ hO1 hb1 hlen e1 h0 fun v' w5 hO5 e5 hb5=>?_
   refine Qf ?_
   exact hK v' w5 e5 hO5 hb5
end
def kTxt:ByteArray:=⟨#[109,97,112,112,105,110,103,32,109,10,109,97,112,32,65,32,65,10,110,32,102,105,116,10,98,32,99,111,112,121,32,98,10,101,110,100,10]⟩
theorem print_k (w0:World) {w:World} {v:Value} {bF bM:Nat} (h:PlAt w w0 v bF bM):Ret Pg 25 #[v] w0 fun r w'=>r = .tuple #[.string kTxt,.int .i64 0]∧Ext w0 w':=by
 obtain ⟨_,_,_,hne,oF,oM,rfl⟩:=h
 refine n14s (R:=retR _) ?_;unfold n14
 rw [op_boxA]
 have q1:=heap_new w0 #[.string ⟨#[109]⟩,.slice (some ⟨bM,0,none⟩) 1 1] 24
 have e1:Ext w0 (w0.alloc (.cells #[.string ⟨#[109]⟩,.slice (some ⟨bM,0,none⟩) 1 1] 24)):=(Ext.refl w0).alloc _
 generalize (w0.alloc (.cells #[.string ⟨#[109]⟩,.slice (some ⟨bM,0,none⟩) 1 1] 24))=W at q1 e1 ⊢
 generalize w0.heap.size=p1 at q1 ⊢
 refine Qp (cells_of_heap q1).1 ?_
 refine callK_ret (names1_ret W ⟨#[109]⟩) ?_
 rintro _ w1 ⟨rfl,e2⟩
 have E2:=e1.trans e2
 have q2:=e2.obj q1
 unfold n14c9
 rw [show nameB ⟨#[109]⟩=true from rfl]
 refine Qp (cells_of_heap q2).1 ?_
 rw [op_sadd' _ _ _ _ Qj,show (⟨#[109,97,112,112,105,110,103,32]⟩:ByteArray)++⟨#[109]⟩=⟨#[109,97,112,112,105,110,103,32,109]⟩ from rfl]
 simp (disch:=try exact DI) only [↓PR,QR,simprocAttr,fun o=>(cells_of_heap (((Ext.refl w1).alloc o).obj q2)).1]
 have hO:=own_strs w1 [⟨#[109,97,112,112,105,110,103,32,109]⟩] (by simp) E2.size
 have eV:Ext w1 (w1.alloc (.cells (([⟨#[109,97,112,112,105,110,103,32,109]⟩]:List ByteArray).map Value.string).toArray 9)):=(Ext.refl w1).alloc _
 change loop3 _ _ _ _ (w1.alloc (.cells (([⟨#[109,97,112,112,105,110,103,32,109]⟩]:List ByteArray).map Value.string).toArray 9))
 generalize (w1.alloc (.cells (([⟨#[109,97,112,112,105,110,103,32,109]⟩]:List ByteArray).map Value.string).toArray 9))=V at hO eV ⊢
 have EV:=E2.trans eV
 have cM:=(cells_of_heap (EV.obj oM)).1
 refine loop3_intro (fun x y z w'=>x = .bool true∧Ext w0 w'∧((z = .int .i64 0∧Ext V w'∧OwnS w' w0.heap.size y [⟨#[109,97,112,112,105,110,103,32,109]⟩])∨(z = .int .i64 1∧OwnS w' w0.heap.size y ([⟨#[109,97,112,112,105,110,103,32,109]⟩,⟨#[109,97,112,32,65,32,65]⟩]++[nFit,bCopy].map (fun x=>joinW ⟨#[32]⟩ (wordsB x))++[⟨#[101,110,100]⟩])))) (fun _ _ z _=>1 - (intOf z).toNat) ⟨rfl,EV,.inl ⟨rfl,Ext.refl V,hO⟩⟩ ?_
 rintro _ y _ w3 ⟨rfl,e3,h⟩
 unfold n14c8
 rcases h with ⟨rfl,eW,hO3⟩ | ⟨rfl,hO3⟩
 · refine Qf ?_
   unfold n14c7
   try unfold X0
   rw [op_indexAt Tryz.underlying22 ty60 bM 0 1 1 .i64 0 Qj Qj,show 0+(0:Int).toNat*3=0 from rfl]
   refine Qp (cells_of_heap (e3.obj oM)).1 ?_
   have o7:=heap_new w3 #[.string ⟨#[65]⟩,.string ⟨#[65]⟩,.slice (some ⟨bF,0,none⟩) 2 2] 60
   have eX:Ext w3 (w3.alloc (.cells #[.string ⟨#[65]⟩,.string ⟨#[65]⟩,.slice (some ⟨bF,0,none⟩) 2 2] 60)):=(Ext.refl w3).alloc _
   have sX:(w3.alloc (.cells #[.string ⟨#[65]⟩,.string ⟨#[65]⟩,.slice (some ⟨bF,0,none⟩) 2 2] 60)).heap.size=w3.heap.size+1:=World.size_alloc ..
   rw [← sX]
   generalize (w3.alloc (.cells #[.string ⟨#[65]⟩,.string ⟨#[65]⟩,.slice (some ⟨bF,0,none⟩) 2 2] 60))=X at o7 eX ⊢
   generalize w3.heap.size=p7 at o7 ⊢
   refine callK_ret (names2_ret X ⟨#[65]⟩ ⟨#[65]⟩) ?_
   rintro _ w ⟨rfl,e4⟩
   have E4:=e3.trans (eX.trans e4)
   replace o7:=e4.obj o7
   have hO:=hO3.ext (eX.trans e4)
   have lo7:y.ownBlock≠some p7:=own_type hO o7 Qj
   unfold n14c5
   rw [show (nameB ⟨#[65]⟩&&nameB ⟨#[65]⟩)=true from rfl]
   refine Qp (cells_of_heap o7).1 ?_
   rw [op_sadd' _ _ _ _ Qj,op_sadd' _ _ _ _ Qj]
   refine Qp (cells_of_heap o7).1 ?_
   rw [op_sadd' _ _ _ _ Qj,show (⟨#[109,97,112,32]⟩:ByteArray)++⟨#[65]⟩++⟨#[32]⟩++⟨#[65]⟩=⟨#[109,97,112,32,65,32,65]⟩ from rfl]
   refine Qf ?_
   have oY:(w.alloc (.cells #[.string ⟨#[109,97,112,32,65,32,65]⟩] 9)).cell? ⟨w.heap.size,0,none⟩=some (.string ⟨#[109,97,112,32,65,32,65]⟩):=by rw [cell_new];rfl
   have eY:Ext w (w.alloc (.cells #[.string ⟨#[109,97,112,32,65,32,65]⟩] 9)):=(Ext.refl w).alloc _
   generalize (w.alloc (.cells #[.string ⟨#[109,97,112,32,65,32,65]⟩] 9))=Y at oY eY ⊢
   refine append_str ⟨#[109,97,112,32,65,32,65]⟩ (hO.ext eY) oY (by have:=E4.size;have:=eY.size;omega) Qj ?_
   intro v' w' hO' hg
   have e':Ext w0 w':=(E4.trans eY).grown hg fun b hb=>(World.ownsRow.lt hO b hb).1
   have l7:=(Qk o7).1
   have o7':=(hg.block p7 (by have:=eY.size;omega) fun e=>lo7 e.symm).trans (eY.obj o7)
   refine Qp (cells_of_heap o7').1 ?_
   exact flds_k e' oF hO' e'.size (Nat.le_refl _) Qj fun lv' w5 e5 hO5 hb5=>⟨⟨rfl,e5,.inr ⟨rfl,hO5⟩⟩,by decide⟩
 · refine Qf ?_
   unfold n14c6
   refine zcr (Join_ret hO3 ⟨#[10]⟩ Qj Qj Qj) fun w4 e4=>?_
   try unfold B0
   rw [op_sadd' _ _ _ _ Qj]
   refine Qf ?_
   exact ⟨by rfl,e3.trans e4⟩
theorem ruleK_ret (w0:World) (hE:EnvM w0) (s t k:List UInt8) (hs:s.length≤100) (hc:cutL 32 s=[t,k]) (hk:∀ x∈[⟨#[99,111,112,121]⟩,⟨#[97,100,100]⟩,⟨#[118,97,108,117,101]⟩,⟨#[98,121,116,101,115]⟩,⟨#[116,97,98,108,101]⟩,⟨#[110,101,115,116,101,100]⟩,(⟨#[102,105,116]⟩:ByteArray)],decide (mkB k=x)=false) :
 Ret Pg 51 #[.string (mkB s)] w0 fun r w'=>Ext w0 w'∧r = .tuple #[.agg (frCells ⟨mkB t,0,ByteArray.empty,0,0,[],[]⟩ nilS nilS).toArray,.bool false]:=by
 refine n39s (R:=retR _) ?_;unfold n39
 refine Qf ?_
 have oV:=heap_new w0 #[.string Qy,.int .i64 0,.string Qy,.int .i64 0,.int .i64 0,.slice none 0 0,.slice none 0 0] 43
 have eV:Ext w0 (w0.alloc (.cells #[.string Qy,.int .i64 0,.string Qy,.int .i64 0,.int .i64 0,.slice none 0 0,.slice none 0 0] 43)):=(Ext.refl w0).alloc _
 have sV:(w0.alloc (.cells #[.string Qy,.int .i64 0,.string Qy,.int .i64 0,.int .i64 0,.slice none 0 0,.slice none 0 0] 43)).heap.size=w0.heap.size+1:=World.size_alloc ..
 generalize (w0.alloc (.cells #[.string Qy,.int .i64 0,.string Qy,.int .i64 0,.int .i64 0,.slice none 0 0,.slice none 0 0] 43))=V at oV eV sV ⊢
 refine callK_ret (words_ret (hE.ext eV).env s 32 Qx) ?_
 rintro _ w1 ⟨e1,rfl,hW⟩
 rw [hc] at hW ⊢
 rw [show ([t,k]:List (List UInt8)).length=2 from rfl] at hW ⊢
 have o1:=e1.obj oV
 have nb:V.heap.size≠w0.heap.size:=Qx
 generalize hp2:w0.heap.size=p2 at oV o1 nb ⊢
 generalize V.heap.size=b0 at hW nb ⊢
 obtain ⟨A,c,hv,_,_,_,hel⟩:=SliceOf.open hW
 injection hv with hv1 _ _
 obtain ⟨b',o',cs,hA0,_,hA,rfl⟩:=hel 0 (mkB t) rfl
 obtain ⟨b'',o'',cs,hA1,_,hAk,rfl⟩:=hel 1 (mkB k) rfl
 rw [← hv1] at hA0 hA1
 injection hA0 with hA0
 injection hA0 with g1 g2
 subst g1 g2
 injection hA1 with hA1
 injection hA1 with g1 g2
 subst g1 g2
 have ct:w1.cell? ⟨b0,0,none⟩=some (.string (mkB t)):=hA.c1 (Ext.refl w1)
 have ck:w1.cell? ⟨b0,1,none⟩=some (.string (mkB k)):=hAk.c1 (Ext.refl w1)
 unfold n39c27
 refine Qf ?_
 unfold n39c26
 try unfold X0
 rw [op_indexAt Tryz.underlying94 ty9 b0 0 2 2 .i64 0 Qj Qj,show 0+(0:Int).toNat*1=0 from rfl]
 refine QQ ct (cells_of_heap o1).1 (cells_of_heap o1).2 ?_
 have oX:=heap_set (o:=0) o1 (.string (mkB t))
 have eX:Ext w0 (w1.setCell ⟨p2,0,none⟩ (.string (mkB t))):=(eV.trans e1).setCell (p:=⟨p2,0,none⟩) (show w0.heap.size≤p2 by omega) _
 have ckX:(w1.setCell ⟨p2,0,none⟩ (.string (mkB t))).cell? ⟨b0,1,none⟩=some (.string (mkB k)):=by rw [cell_set_other (.inl nb)];exact ck
 generalize (w1.setCell ⟨p2,0,none⟩ (.string (mkB t)))=X at oX eX ckX ⊢
 refine (op_sliceLHH Tryz.underlying94 ty9 b0 0 2 2 2 2 Qj Qj).mpr ?_
 refine Qf ?_
 have hE2:=own_strs X [ByteArray.empty,ByteArray.empty] (by simp) (Nat.le_refl _)
 have eY:Ext X (X.alloc (.cells (([ByteArray.empty,ByteArray.empty]:List ByteArray).map Value.string).toArray 9)):=(Ext.refl X).alloc _
 change opV _ _ _ (X.alloc (.cells (([ByteArray.empty,ByteArray.empty]:List ByteArray).map Value.string).toArray 9)) _
 generalize (X.alloc (.cells (([ByteArray.empty,ByteArray.empty]:List ByteArray).map Value.string).toArray 9))=Y at hE2 eY ⊢
 refine append_clipS (l:=[]) (l':=[ByteArray.empty,ByteArray.empty]) (fun j x hx=>by simp at hx) (own_read hE2) (by simp) (by simp) (by simp) ?_
 intro t27 Z hO27 eZ
 have eXZ:=eY.trans eZ
 have oZ:Z.heap[p2]?=some (.cells (frCells ⟨mkB t,0,ByteArray.empty,0,0,[],[]⟩ nilS nilS).toArray 43 (0,0)):=eXZ.obj oX
 try unfold X0
 rw [op_indexAt Tryz.underlying94 ty9 b0 0 2 2 .i64 1 Qj Qj,show 0+(1:Int).toNat*1=1 from rfl]
 simp (disch:=try exact DI) only [↓PR,QR,simprocAttr,eXZ.cell ckX,hk ⟨#[99,111,112,121]⟩ (by simp)]
 simp (disch:=try exact DI) only [↓PR,QR,simprocAttr,n39c24,hk ⟨#[97,100,100]⟩ (by simp)]
 simp (disch:=try exact DI) only [↓PR,QR,simprocAttr,n39c23,hk ⟨#[118,97,108,117,101]⟩ (by simp)]
 simp (disch:=try exact DI) only [↓PR,QR,simprocAttr,n39c22,hk ⟨#[98,121,116,101,115]⟩ (by simp)]
 simp (disch:=try exact DI) only [↓PR,QR,simprocAttr,n39c20,hk ⟨#[116,97,98,108,101]⟩ (by simp)]
 simp (disch:=try exact DI) only [↓PR,QR,simprocAttr,n39c18,hk ⟨#[110,101,115,116,101,100]⟩ (by simp)]
 simp (disch:=try exact DI) only [↓PR,QR,simprocAttr,n39c17,hk ⟨#[102,105,116]⟩ (by simp)]
 unfold n39c16
 have q:=cells_of_heap oZ
 refine QJ q.1 q.2 ?_
 rw [op_storeO ty43 oZ (vs:=frCells ⟨mkB t,0,ByteArray.empty,0,0,[],[]⟩ nilS nilS) rfl (Nat.le_refl _) (by intro v hv;simp only [List.mem_cons,List.not_mem_nil,or_false] at hv;rcases hv with rfl | rfl | rfl | rfl | rfl | rfl | rfl<;>rfl)]
 have e3:=ext_same (Ext.refl Z) oZ (vs:=frCells ⟨mkB t,0,ByteArray.empty,0,0,[],[]⟩ nilS nilS)
 have o3:=e3.obj oZ
 generalize (setCells Z p2 0 (frCells ⟨mkB t,0,ByteArray.empty,0,0,[],[]⟩ nilS nilS))=Z3 at e3 o3 ⊢
 refine Qp (cells_of_heap o3).1 ?_
 exact ⟨eX.trans (eXZ.trans e3),by trivial⟩
section
variable {w0 w:World} {p2 b16:Nat} {nm:ByteArray} {x t q u:List UInt8} {whole:Bool} {K1:Value→World→Prop} {next2:Value→Value→Value→World→Prop} {R:RT} {k:Nat}
theorem pre_k (hE:EnvM w) (hk:k < 2) (hcell:w.cell? ⟨b16,k*1,none⟩=some (.string (mkB u))) (hu:u.length≤100) (hu1:Go.Lib.hasSuffix u [10]=whole) (hu2:Go.Lib.trimSuffix u [10]=x) (hx:x.length≤100) (hx0:decide (mkB x=⟨#[]⟩)=false) (hc:cutL 32 x=[t,q])
 (hkw:∀ x∈[⟨#[99,111,112,121]⟩,⟨#[97,100,100]⟩,⟨#[118,97,108,117,101]⟩,⟨#[98,121,116,101,115]⟩,⟨#[116,97,98,108,101]⟩,⟨#[110,101,115,116,101,100]⟩,(⟨#[102,105,116]⟩:ByteArray)],decide (mkB q=x)=false)
 (hK:∀ w' t12 bw t43,Ext w w'→w'.cell? ⟨bw,0,none⟩=some (.string (mkB t))→w'.cell? ⟨bw,1,none⟩=some (.string (mkB q))→(whole=false→t43 = .bool false) →
  n13c21 (.pointer (some ⟨p2,0,none⟩)) (.int .i64 0) (.bool false) t12 (.int .i64 k) (.string (mkB x)) (.bool whole) (.slice (some ⟨bw,0,none⟩) 2 2) (.bool false) (.bool (!whole)) t43 K1 next2 R w') :
 n13c24 (.pointer (some ⟨p2,0,none⟩)) (.int .i64 0) (.bool false) (.slice (some ⟨b16,0,none⟩) 2 2) (.int .i64 k) K1 next2 R w:=by
 have dk:(k:Int) < 2:=Qx
 unfold n13c24
 refine QJ dk hcell ?_
 refine callK_ret (CutSuffix_ret w u 10 Qx) ?_
 rintro _ w' ⟨rfl,rfl⟩
 rw [hu1,hu2]
 unfold n13c23
 refine Qf ?_
 refine callK_ret (words_ret hE.env x 32 Qx) ?_
 rintro _ w1 ⟨e1,rfl,hW⟩
 rw [hc] at hW ⊢
 rw [show ([t,q]:List (List UInt8)).length=2 from rfl] at hW ⊢
 refine callK_ret (ruleK_ret w1 (hE.ext e1) x t q hx hc hkw) ?_
 rintro _ w2 ⟨e2,rfl⟩
 obtain ⟨A,c,hv,_,_,_,hel⟩:=SliceOf.open hW
 injection hv with hv1 _ _
 obtain ⟨b',o',cs,hA0,_,hA,rfl⟩:=hel 0 (mkB t) rfl
 obtain ⟨b'',o'',cs,hA1,_,hAk,rfl⟩:=hel 1 (mkB q) rfl
 rw [← hv1] at hA0 hA1
 injection hA0 with hA0
 injection hA0 with g1 g2
 subst g1 g2
 injection hA1 with hA1
 injection hA1 with g1 g2
 subst g1 g2
 have ct:=hA.c1 (Ext.refl w1)
 have ck:=hAk.c1 (Ext.refl w1)
 unfold n13c22
 have e3:Ext w2 (w2.alloc (.cells (frCells ⟨mkB t,0,ByteArray.empty,0,0,[],[]⟩ nilS nilS).toArray 43)):=(Ext.refl w2).alloc _
 refine Qf ?_
 have e13:=e2.trans e3
 cases whole with
 | true =>
  refine Qf ?_
  exact hK _ _ _ _ (e1.trans e13) (e13.cell ct) (e13.cell ck) (fun h=>by cases h)
 | false =>
  refine Qp hx0 ?_
  exact hK _ _ _ _ (e1.trans e13) (e13.cell ct) (e13.cell ck) (fun _=>rfl)
end
theorem parse_k (w0:World) (hE:EnvM w0):Ret Pg 22 #[.string ⟨#[109,97,112,112,105,110,103,32,109,10,109,97,112,32,65]⟩] w0 fun r w'=>Ext w0 w'∧∃ rv,r = .tuple #[.agg (mapCells ⟨ByteArray.empty,[]⟩ rv).toArray,.int .i64 2,.int .i64 6]∧rv.oneCell'=true:=by
 refine n13s (R:=retR _) ?_;unfold n13
 refine Qf ?_
 have oV:=heap_new w0 (mapCells ⟨ByteArray.empty,[]⟩ (.slice none 0 0)).toArray 24
 have eV:Ext w0 (w0.alloc (.cells (mapCells ⟨ByteArray.empty,[]⟩ (.slice none 0 0)).toArray 24)):=(Ext.refl w0).alloc _
 change callK _ _ _ _ (w0.alloc (.cells (mapCells ⟨ByteArray.empty,[]⟩ (.slice none 0 0)).toArray 24)) _
 generalize (w0.alloc (.cells (mapCells ⟨ByteArray.empty,[]⟩ (.slice none 0 0)).toArray 24))=V at oV eV ⊢
 refine callK_ret (SplitAfter_ret (hE.ext eV).env [109,97,112,112,105,110,103,32,109,10,109,97,112,32,65] 10 Qj) ?_
 rintro _ w1 ⟨e1,rfl,oL⟩
 rw [k_cut] at oL ⊢
 have o1:=e1.obj oV
 have n12:V.heap.size≠w0.heap.size:=by have:=(Qk oV).1;omega
 generalize hp2:w0.heap.size=p2 at o1 n12 ⊢
 generalize V.heap.size=b16 at oL n12 ⊢
 unfold n13c25
 refine Qf ?_
 refine loop3_intro (fun a b c w=>a = .int .i64 0∧b = .bool false∧Ext w0 w∧w.heap[b16]?=some (.cells #[.string (mkB [109,97,112,112,105,110,103,32,109,10]),.string (mkB [109,97,112,32,65])] 9 (0,0))∧((c = .int .i64 0∧w.heap[p2]?=some (.cells #[.string Qy,.slice none 0 0] 24 (0,0)))∨(c = .int .i64 1∧w.heap[p2]?=some (.cells #[.string ⟨#[109]⟩,.slice none 0 0] 24 (0,0))))) (fun _ _ c _=>2 - (intOf c).toNat) ⟨rfl,rfl,eV.trans e1,oL,.inl ⟨rfl,o1⟩⟩ ?_
 rintro _ _ _ w ⟨rfl,rfl,e,oL,h⟩
 rcases h with ⟨rfl,o2⟩ | ⟨rfl,o2⟩
 · refine Qf ?_
   refine pre_k (k:=0) (hE.ext e) Qj (u:=[109,97,112,112,105,110,103,32,109,10]) (by rw [(cells_of_heap oL).1];rfl) Qj (whole:=true) Qj (x:=[109,97,112,112,105,110,103,32,109]) Qj Qj Qj (t:=[109,97,112,112,105,110,103]) (q:=[109]) Qj Qj ?_
   intro w2 t12 bw t43 e2 ct cq _
   unfold n13c21 n13c20 n13c19
   refine Qf ?_
   unfold n13c17 n13c16 n13c15
   have dm:decide (mkB [109,97,112,112,105,110,103]=⟨#[109,97,112,112,105,110,103]⟩)=true:=Qj
   refine Qf ?_
   try unfold X0
   rw [op_indexAt Tryz.underlying94 ty9 bw 0 2 2 .i64 0 Qj Qj,show 0+(0:Int).toNat*1=0 from rfl]
   refine QJ ct dm ?_
   try unfold X0
   rw [op_indexAt Tryz.underlying94 ty9 bw 0 2 2 .i64 1 Qj Qj,show 0+(1:Int).toNat*1=1 from rfl]
   refine Qp cq ?_
   refine callK_ret (names1_ret w2 (mkB [109])) ?_
   rintro _ w3 ⟨rfl,e3⟩
   rw [show nameB (mkB [109])=true from rfl]
   unfold n13c14 n13c12
   have q:=cells_of_heap ((e2.trans e3).obj o2)
   refine Qp dm ?_
   try unfold X0
   rw [op_indexAt Tryz.underlying94 ty9 bw 0 2 2 .i64 1 Qj Qj,show 0+(1:Int).toNat*1=1 from rfl]
   refine QQ (e3.cell cq) q.1 q.2 ?_
   refine ⟨⟨by trivial,by trivial,(e.trans (e2.trans e3)).setCell (p:=⟨p2,0,none⟩) (show w0.heap.size≤p2 by omega) _,?_,.inr ⟨by trivial,?_⟩⟩,by decide⟩
   · exact (e2.trans e3).obj oL
   · exact heap_set (o:=0) ((e2.trans e3).obj o2) (.string (mkB [109]))
 · refine Qf ?_
   refine pre_k (k:=1) (hE.ext e) Qj (u:=[109,97,112,32,65]) (by rw [(cells_of_heap oL).1];rfl) Qj (whole:=false) Qj (x:=[109,97,112,32,65]) Qj Qj Qj (t:=[109,97,112]) (q:=[65]) Qj Qj ?_
   intro w2 t12 bw t43 e2 ct cq h43
   rw [h43 rfl]
   unfold n13c21 n13c20 n13c19
   have q2:=cells_of_heap (e2.obj o2)
   unfold n13c1
   refine QJ q2.1 q2.2 ?_
   exact ⟨((e.trans e2).setCell (p:=⟨p2,0,none⟩) (show w0.heap.size≤p2 by omega) _).setCell (p:=⟨p2,1,none⟩) (show w0.heap.size≤p2 by omega) _,_,rfl,rfl⟩
theorem kn2_ret (w0:World) (hE:EnvM w0):Ret Pg 12 #[] w0 fun r w'=>r = .bool true∧Ext w0 w':=by
 refine n41s (R:=retR _) ?_;unfold n41
 refine callK_ret (plain_ret w0) ?_
 rintro v1 w1 ⟨_,_,hP1⟩
 refine zcr (print_k w1 hP1) fun w2 e2=>?_
 unfold kTxt
 have E2:=hP1.e.trans e2
 clear hP1 e2
 unfold n41c36 joinK
 refine Qf ?_
 unfold n41c35 joinK
 refine Qf ?_
 refine callK_ret (plain_ret w2) ?_
 rintro v3 w3 ⟨_,_,hP3⟩
 unfold n41c34
 refine callK_ret (dsmall_ret w3) ?_
 rintro v4 w4 ⟨hD4,e4⟩
 refine callK_ret (dsmall_ret w4) ?_
 rintro v5 w5 ⟨hD5,e5⟩
 refine zcr (mValid_ret w5 _ _ _ plainM smallD smallD (hP3.val.ext (e4.trans e5)) (hD4.ext e5) hD5 (k_in _ (by simp))) fun w6 e6=>?_
 rw [k_plain]
 have E6:=E2.trans (hP3.e.trans (e4.trans (e5.trans e6)))
 clear hP3 hD4 hD5 e4 e5 e6 E2
 refine Qf ?_
 unfold n41c33
 refine Qf ?_
 refine callK_ret (plain_ret w6) ?_
 rintro v7 w7 ⟨bF1,bM1,hP7⟩
 refine callK_ret (plain_ret w7) ?_
 rintro v8 w8 ⟨bF2,bM2,hP8⟩
 unfold n41c32
 rw [hP7.v,hP8.v]
 refine Qf ?_
 have a1:=heap_new w8 #[.string ⟨#[109]⟩,.slice (some ⟨bM1,0,none⟩) 1 1] 24
 have ea:Ext w8 (w8.alloc (.cells #[.string ⟨#[109]⟩,.slice (some ⟨bM1,0,none⟩) 1 1] 24)):=(Ext.refl w8).alloc _
 have sa:(w8.alloc (.cells (Value.agg #[.string Qy,.slice none 0 0]).cells 24)).heap.size=w8.heap.size+1:=World.size_alloc ..
 have sa':(w8.alloc (.cells #[.string ⟨#[109]⟩,.slice (some ⟨bM1,0,none⟩) 1 1] 24)).heap.size=w8.heap.size+1:=World.size_alloc ..
 rw [sa]
 generalize (w8.alloc (.cells #[.string ⟨#[109]⟩,.slice (some ⟨bM1,0,none⟩) 1 1] 24))=A at a1 ea sa' ⊢
 have a2:=heap_new A #[.string ⟨#[109]⟩,.slice (some ⟨bM2,0,none⟩) 1 1] 24
 have eb:Ext A (A.alloc (.cells #[.string ⟨#[109]⟩,.slice (some ⟨bM2,0,none⟩) 1 1] 24)):=(Ext.refl A).alloc _
 rw [sa'] at a2
 generalize (A.alloc (.cells #[.string ⟨#[109]⟩,.slice (some ⟨bM2,0,none⟩) 1 1] 24))=B at a2 eb ⊢
 refine drawK_intro ?_
 have eD:Ext B (Sw.drew B):=(Ext.refl B).drew
 generalize (Sw.drew B)=D at eD ⊢
 have l8:=hP8.e.size
 have l7:=hP7.e.size
 have lF1:=hP7.lF
 have lM1:=hP7.lM
 have lF2:=hP8.lF
 have lM2:=hP8.lM
 have nF1:=(Qk hP7.oF).1
 have nM1:=(Qk hP7.oM).1
 have nF2:=(Qk hP8.oF).1
 have nM2:=(Qk hP8.oM).1
 have nn1:=hP7.ne
 have nn2:=hP8.ne
 have eBD:=(ea.trans eb).trans eD
 have o3:=(eb.trans eD).obj a1
 have o4:=eD.obj a2
 have oM1:=(hP8.e.trans eBD).obj hP7.oM
 have oF1:=(hP8.e.trans eBD).obj hP7.oF
 have oM2:=eBD.obj hP8.oM
 have oF2:D.heap[bF2]?=some (.cells #[.string ⟨#[110]⟩,.int .i64 7,.string ⟨#[]⟩,.int .i64 0,.int .i64 0,nilS,nilS,.string ⟨#[98]⟩,.int .i64 1,.string ⟨#[98]⟩,.int .i64 0,.int .i64 0,nilS,nilS] 43 (0,0)):=eBD.obj hP8.oF
 have E0:Ext w0 D:=E6.trans (hP7.e.trans (hP8.e.trans eBD))
 have h06:=E6.size
 generalize w8.heap.size=p3 at *
 unfold n41c31
 refine Qp (cells_of_heap o3).1 ?_
 rw [qV_of fun QP w' k'=>op_indexAt (k:=k') Tryz.underlying22 ty60 bM1 0 1 1 .i64 0 Qj Qj,show 0+(0:Int).toNat*3=0 from rfl]
 refine Qp (cells_of_heap oM1).1 ?_
 refine (qV_of (s:=Instr.sliceAt 58 (.slice (some ⟨bF1,0,none⟩) 2 2) none (some (.int .i64 1)) none) fun QP w' k'=>op_sliceTo Tryz.underlying58 ty43 bF1 0 2 2 .i64 1 Qj).mpr ?_
 refine Qf ?_
 rw [qV_of fun QP w' k'=>op_indexAt (k:=k') Tryz.underlying22 ty60 bM1 0 1 1 .i64 0 Qj Qj,show 0+(0:Int).toNat*3=0 from rfl]
 refine QJ (cells_of_heap oM1).1 (cells_of_heap oM1).2 ?_
 refine turnK_intro ?_
 have k1:∀ b,b≠bM1→(D.setCell ⟨bM1,2,none⟩ (.slice (some ⟨bF1,0,none⟩) 1 2)).heap[b]?=D.heap[b]?:=fun b hb=>Only.setCell D bM1 2 _ b hb
 have E1:Ext w0 (D.setCell ⟨bM1,2,none⟩ (.slice (some ⟨bF1,0,none⟩) 1 2)):=E0.setCell (p:=⟨bM1,2,none⟩) (show w0.heap.size≤bM1 by omega) _
 replace oM1:=heap_set (o:=2) oM1 (.slice (some ⟨bF1,0,none⟩) 1 2)
 replace oF1:=(k1 bF1 Qx).trans oF1
 replace oM2:=(k1 bM2 Qx).trans oM2
 replace oF2:=(k1 bF2 Qx).trans oF2
 replace o3:=(k1 p3 Qx).trans o3
 replace o4:=(k1 (p3+1) Qx).trans o4
 clear k1 E0 eD eBD
 generalize (D.setCell ⟨bM1,2,none⟩ (.slice (some ⟨bF1,0,none⟩) 1 2))=S at *
 unfold n41c30
 refine Qp (cells_of_heap o4).1 ?_
 try unfold X0
 rw [op_indexAt Tryz.underlying22 ty60 bM2 0 1 1 .i64 0 Qj Qj,show 0+(0:Int).toNat*3=0 from rfl]
 refine Qp (cells_of_heap oM2).1 ?_
 try unfold X0
 rw [op_indexAt Tryz.underlying58 ty43 bF2 0 2 2 .i64 0 Qj Qj,show 0+(0:Int).toNat*7=0 from rfl]
 refine QJ (cells_of_heap oF2).1 (cells_of_heap oF2).2 ?_
 refine (op_storeO ty43 oF2 (vs:=frCells nCopy nilS nilS) rfl Qj (by intro v hv;simp only [List.mem_cons,List.not_mem_nil,or_false] at hv;rcases hv with rfl | rfl | rfl | rfl | rfl | rfl | rfl<;>rfl)).mpr ?_
 have kk:∀ b,b≠bF2→(setCells S bF2 0 (frCells nCopy nilS nilS)).heap[b]?=S.heap[b]?:=fun b hb=>setCells_only _ _ _ b hb
 have E2:Ext w0 (setCells S bF2 0 (frCells nCopy nilS nilS)):=setCells_ext _ _ _ _ E1 Qx
 have oF2':(setCells S bF2 0 (frCells nCopy nilS nilS)).heap[bF2]?=some (.cells (frCells nCopy nilS nilS++frCells bCopy nilS nilS).toArray 43 (0,0)):=(setCells_heap (frCells nCopy nilS nilS) 0 oF2).trans rfl
 replace oF1:=(kk bF1 Qx).trans oF1
 replace oM1:=(kk bM1 Qx).trans oM1
 replace oM2:=(kk bM2 Qx).trans oM2
 replace o3:=(kk p3 Qx).trans o3
 replace o4:=(kk (p3+1) Qx).trans o4
 clear kk E1 oF2
 generalize (setCells S bF2 0 (frCells nCopy nilS nilS))=Q at *
 have hM3:MapVal Q (.agg #[.string ⟨#[109]⟩,.slice (some ⟨bM1,0,none⟩) 1 1]) shortM:=⟨_,rfl,mrs_one (r:=⟨⟨#[65]⟩,⟨#[65]⟩,[nFit]⟩) oM1 ⟨_,_,rfl,by decide,by decide,fun _=>⟨bF1,0,rfl,fun k x hx=>by
  match k,hx with
  | 0,hx =>
   cases hx
   exact ⟨_,rfl,fun j v hv=>by
    rw [(cells_of_heap oF1).1]
    have hj:j < 7:=(Qv hv).1
    have hs:0+0*7+j=j:=Qx
    rw [hs,List.getElem?_toArray,List.getElem?_append_left hj]
    exact hv,fr_nil _ _ rfl rfl⟩
  | _+1,hx=>simp at hx⟩⟩⟩
 have hM4:MapVal Q (.agg #[.string ⟨#[109]⟩,.slice (some ⟨bM2,0,none⟩) 1 1]) wrongM:=⟨_,rfl,mrs_one (r:=⟨⟨#[65]⟩,⟨#[65]⟩,[nCopy,bCopy]⟩) oM2 (frs_two oF2' rfl rfl rfl rfl)⟩
 refine drawK_intro ?_
 have eH:Ext Q (Sw.drew Q):=(Ext.refl Q).drew
 generalize (Sw.drew Q)=H at eH ⊢
 unfold n41c29 joinK
 refine Qp (cells_of_heap (eH.obj o3)).1 ?_
 have hin3:=k_in shortM (by simp)
 have hin4:=k_in wrongM (by simp)
 have go2:∀ w' p,FlR H w' p 0 (-1) 10→drawK w' fun C7 w=>n41c21 (.pointer (some ⟨p3+1,0,none⟩)) (.pointer (some ⟨p,0,none⟩)) (.bool true) C7 (retR fun r w'=>r = .bool true∧Ext w0 w') w:=by
  rintro w9 p5 ⟨e9,o5⟩
  refine drawK_intro ?_
  have eI:Ext w9 (Sw.drew w9):=(Ext.refl w9).drew
  generalize (Sw.drew w9)=I at eI ⊢
  have eQI:=eH.trans (e9.trans eI)
  replace o5:=eI.obj o5
  have oI4:=eQI.obj o4
  have hMI:=hM4.ext eQI
  have go3:∀ w' p,FlR I w' p 0 0 5→n41c13 (.pointer (some ⟨p5,0,none⟩)) (.bool true) (.pointer (some ⟨p,0,none⟩)) (.bool true) (retR fun r w'=>r = .bool true∧Ext w0 w') w':=by
   rintro w10 p7 ⟨e10,o7⟩
   replace o5:=e10.obj o5
   have E3:=E2.trans (eQI.trans e10)
   unfold n41c13 joinK
   have d1:(!(decide ((0:Int)=0)&&(decide ((-1:Int) = -1)&&(decide ((10:Int)=10)&&true))))=false:=Qj
   have d2:(!(decide ((0:Int)=0)&&(decide ((0:Int)=0)&&(decide ((5:Int)=5)&&true))))=false:=Qj
   refine QX (cells_of_heap o5).1 (cells_of_heap o7).1 d1 d2 ?_
   unfold n41c12 joinK
   refine QJ d1 d2 ?_
   unfold n41c11 joinK
   refine Qf ?_
   unfold n41c10
   refine Qf ?_
   have r1:=heap_new w10 (rowCells ⟨1,2,9⟩).toArray 78
   have er:Ext w10 (w10.alloc (.cells (rowCells ⟨1,2,9⟩).toArray 78)):=(Ext.refl w10).alloc _
   change callK _ _ _ _ ((w10.alloc (.cells (rowCells ⟨1,2,9⟩).toArray 78)).alloc _) (fun t91 w=>n41c9 (.pointer (some ⟨(w10.alloc (.cells (rowCells ⟨1,2,9⟩).toArray 78)).heap.size,0,none⟩)) t91 _ w)
   generalize (w10.alloc (.cells (rowCells ⟨1,2,9⟩).toArray 78))=X at r1 er ⊢
   have r2:=heap_new X (frCells kTab nilS (.slice (some ⟨w10.heap.size,0,none⟩) 1 1)).toArray 43
   have ex:Ext X (X.alloc (.cells (frCells kTab nilS (.slice (some ⟨w10.heap.size,0,none⟩) 1 1)).toArray 43)):=(Ext.refl X).alloc _
   change callK _ _ _ _ (X.alloc (.cells (frCells kTab nilS (.slice (some ⟨w10.heap.size,0,none⟩) 1 1)).toArray 43)) _
   generalize (X.alloc (.cells (frCells kTab nilS (.slice (some ⟨w10.heap.size,0,none⟩) 1 1)).toArray 43))=Y at r2 ex ⊢
   have hRow:RowsOf Y (.slice (some ⟨w10.heap.size,0,none⟩) 1 1) kTab.table:=slice_at (l:=kTab.table) (ex.obj r1) Qj fun k z hz=>by
    match k,hz with
    | 0,hz=>cases hz;exact ⟨_,rfl,rfl,rfl⟩
    | _+1,hz=>simp [kTab] at hz
   have hTab:FrVal Y (.agg (frCells kTab nilS (.slice (some ⟨w10.heap.size,0,none⟩) 1 1)).toArray) kTab:=⟨_,_,rfl,SliceOf.nil ..,hRow⟩
   generalize X.heap.size=p9 at *
   refine zcr (mNumber_ret Y _ kAdd 3 ⟨nilS,nilS,rfl,SliceOf.nil ..,SliceOf.nil ..⟩ Qj) fun w11 e11=>?_
   rw [k_n1]
   unfold n41c9
   refine Qp (cells_of_heap (e11.obj r2)).1 ?_
   refine zcr (mNumber_ret w11 _ kTab 2 (hTab.ext e11) Qj) fun w12 e12=>?_
   rw [k_n2]
   unfold n41c8
   refine Qp (cells_of_heap (e12.obj (e11.obj r2))).1 ?_
   refine zcr (mNumber_ret w12 _ kTab 3 (hTab.ext (e11.trans e12)) Qj) fun w13 e13=>?_
   rw [k_n3]
   have E4:=E3.trans (er.trans (ex.trans (e11.trans (e12.trans e13))))
   unfold n41c7
   refine Qf ?_
   refine callK_ret (parse_k w13 (hE.ext E4)) ?_
   rintro _ w14 ⟨e14,rv,rfl,t1⟩
   unfold n41c6 joinK
   refine Qf ?_
   unfold n41c5 joinK
   refine Qf ?_
   unfold n41c4 joinK
   refine Qf ?_
   unfold n41c3 joinK
   refine Qf ?_
   unfold n41c2 joinK
   refine Qf ?_
   unfold n41c1 joinK
   refine Qf ?_
   refine ⟨by trivial,?_⟩
   exact (E4.trans e14).alloc _
  unfold n41c21 joinK
  refine Qp (cells_of_heap oI4).1 ?_
  exact ⟨two2a (Ext.refl I) hMI hin4 k_wrong go3,two2b (Ext.refl I) hMI hin4 k_wrong go3⟩
 exact ⟨two1a (Ext.refl H) (hM3.ext eH) hin3 k_short go2,two1b (Ext.refl H) (hM3.ext eH) hin3 k_short go2⟩
theorem outs_marks {L:List (Option TypeId×Value)} {R:RT} {bs:List Nat}:∀ {w w0:World},bs.Nodup→(∀ b∈bs,MarkAt b w∧w0.heap.size≤b)→Ext w0 w →
 (∀ w',Ext w0 w'→(∀ (b:Nat) (o:Obj),(∀ d,o ≠ .deferred d)→w.heap[b]?=some o→w'.heap[b]?=some o)→outX Pg [] L R w')→outX Pg (bs.map Sw.mark) L R w:=by
 induction bs with
 | nil=>exact fun _ _ e h=>h _ e fun _ _ _ h=>h
 | cons b bs ih =>
  intro w w0 hn hm e h
  obtain ⟨hb,hn'⟩:=List.nodup_cons.1 hn
  have hmb:=hm b (List.mem_cons_self ..)
  refine outX_mark hmb.1 (ih (w0:=w0) hn' (fun c hc=>⟨?_,(hm c (List.mem_cons_of_mem _ hc)).2⟩) (e.putObj hmb.2 _) (fun w' e' h'=>h w' e' (fun c o ho hc=>h' c o ho ((World.putObj_heap_other ?_).trans hc))))
  · exact (World.putObj_heap_other (fun (e:c=b)=>hb (by rw [← e];exact hc))).trans (hm c (List.mem_cons_of_mem _ hc)).1
  · rintro rfl
    have:=hmb.1
    unfold MarkAt at this
    rw [hc] at this
    injection this with this
    exact ho _ this
theorem lasts2_marks {B:Nat} {bs:List Nat} (h:∀ b∈bs,b < B):Lasts2 B (fun w=>∀ b∈bs,MarkAt b w):=fun w w' hl hm b hb=>Lasts2.low (h b hb) _ w w' hl (hm b hb)
theorem has_nd {T:TypeId} {cs:Array Value}:∀ d,Obj.cells cs T (0,0) ≠ .deferred d:=fun _ h=>by cases h
def turnS (a:Value) (w:World):Nat:=match a with
 | .pointer (some p)=>(match w.cell? p with
  | some (.int _ t)=>(2 - t).toNat
  | _=>0)
 | _=>0
theorem flds_in {m:MapD} {n:Int} {i:Nat} {x:FrD} (h:(fldsAt m n)[i]?=some x):∃ (k:Nat) (r:MrD),n=(k:Int)∧m.rules[k]?=some r∧fldsAt m n=r.fields:=by
 unfold fldsAt at h ⊢
 by_cases hn:0≤n∧n < (m.rules.length:Int)
 · rw [if_pos hn] at h ⊢
   obtain ⟨k,rfl⟩:∃ k:Nat,n=k:=⟨n.toNat,by omega⟩
   obtain ⟨r,hr⟩:=getElem?_lt (l:=m.rules) (k:=k) Qx
   exact ⟨k,r,rfl,hr,by rw [Int.toNat_natCast,hr];rfl⟩
 · rw [if_neg hn] at h
   simp at h
section
variable {R:RT} {w2:World} {p6 p11 p20 p21:Nat} {t k n:Nat} {A:Option Addr} {cc:Nat} {ds:List Deferred} {next1:List Deferred→Value→World→Prop}
theorem src_after1 (x11:w2.heap[p11]?=some (.cells #[.slice A n cc] 61 (0,0))) (y20:w2.heap[p20]?=some (.cells #[.int .i64 (t:Int)] 3 (0,0))) (y21:w2.heap[p21]?=some (.cells #[.int .i64 (k:Int)] 3 (0,0)))
 (ht:t < 2) (h1:t=1→k=n) (hn:∀ w',w2.heap.size < w'.heap.size→w'.heap[w2.heap.size]?=some (.cells #[.int .i64 ((t+1:Nat):Int)] 3 (0,0))→Ext w2 w'→next1 ds (.pointer (some ⟨w2.heap.size,0,none⟩)) w') :
 n40c10 (.pointer (some ⟨p6,0,none⟩)) (.pointer (some ⟨p11,0,none⟩)) (.pointer (some ⟨p20,0,none⟩)) (.pointer (some ⟨p21,0,none⟩)) next1 ds R w2:=by
 have hw:IntKind.i64.wrap ((t:Int)+1)=((t+1:Nat):Int):=by rw [wrap_ok Qx Qx];omega
 have fin:n40c8 (.pointer (some ⟨p6,0,none⟩)) (.pointer (some ⟨p20,0,none⟩)) next1 ds R w2:=by
  unfold n40c8
  refine QJ (cells_of_heap y20).1 hw ?_
  exact hn _ (by simp only [World.size_alloc,World.size_setCell];omega) (by simpa using heap_new w2 #[.int .i64 ((t+1:Nat):Int)] 3) (by first | exact (Ext.refl w2).alloc _ | exact ((Ext.refl w2).alloc _).setCell (Nat.le_refl _) _)
 unfold n40c10 n40c9
 have hcase:t=0∨t=1:=Qx
 rcases hcase with rfl | rfl
 · have d1:((((0:Nat):Int)) == 1)=false:=rfl
   refine QJ (cells_of_heap y20).1 d1 ?_
   exact fin
 · have d1:((((1:Nat):Int)) == 1)=true:=rfl
   have dk:((k:Int) != (n:Int))=false:=by rw [h1 rfl];simp
   refine QY (cells_of_heap y20).1 d1 (cells_of_heap y21).1 (cells_of_heap x11).1 dk ?_
   exact fin
theorem src_after2 (x11:w2.heap[p11]?=some (.cells #[.slice A n cc] 61 (0,0))) (y20:w2.heap[p20]?=some (.cells #[.int .i64 (t:Int)] 3 (0,0))) (y21:w2.heap[p21]?=some (.cells #[.int .i64 (k:Int)] 3 (0,0)))
 (ht:t < 2) (h1:t=1→k=n) (hn:∀ w',w2.heap.size < w'.heap.size→w'.heap[w2.heap.size]?=some (.cells #[.int .i64 ((t+1:Nat):Int)] 3 (0,0))→Ext w2 w'→next1 ds (.pointer (some ⟨w2.heap.size,0,none⟩)) w') :
 n40c13 (.pointer (some ⟨p6,0,none⟩)) (.pointer (some ⟨p11,0,none⟩)) (.pointer (some ⟨p20,0,none⟩)) (.pointer (some ⟨p21,0,none⟩)) next1 ds R w2:=by
 have hw:IntKind.i64.wrap ((t:Int)+1)=((t+1:Nat):Int):=by rw [wrap_ok Qx Qx];omega
 have fin:n40c11 (.pointer (some ⟨p6,0,none⟩)) (.pointer (some ⟨p20,0,none⟩)) next1 ds R w2:=by
  unfold n40c11
  refine QJ (cells_of_heap y20).1 hw ?_
  exact hn _ (by simp only [World.size_alloc,World.size_setCell];omega) (by simpa using heap_new w2 #[.int .i64 ((t+1:Nat):Int)] 3) (by first | exact (Ext.refl w2).alloc _ | exact ((Ext.refl w2).alloc _).setCell (Nat.le_refl _) _)
 unfold n40c13 n40c12
 have hcase:t=0∨t=1:=Qx
 rcases hcase with rfl | rfl
 · have d1:((((0:Nat):Int)) == 1)=false:=rfl
   refine QJ (cells_of_heap y20).1 d1 ?_
   exact fin
 · have d1:((((1:Nat):Int)) == 1)=true:=rfl
   have dk:((k:Int) != (n:Int))=false:=by rw [h1 rfl];simp
   refine QY (cells_of_heap y20).1 d1 (cells_of_heap y21).1 (cells_of_heap x11).1 dk ?_
   exact fin
end
theorem src_turns {w0 w1:World} {p3 p4 p5 p6 p11 q5:Nat} {m:MapD} {n many:Int} {rv lv v:Value} {css:List (Cs 7)} (hE:EnvM w0) (E1:Ext w0 w1) (h3:w1.heap[p3]?=some (.cells (mapCells m rv).toArray 24 (0,0))) (hR:MrsOf w1 rv m.rules) (x4:w1.heap[p4]?=some (.cells #[.int .i64 n] 3 (0,0))) (x5:w1.heap[p5]?=some (.cells #[.int .i64 many] 3 (0,0))) (x6:w1.heap[p6]?=some (.cells #[.bool false] 4 (0,0))) (l6:w0.heap.size≤p6) (x11:w1.heap[p11]?=some (.cells #[v] 61 (0,0)))
 (hL:SliceOf w1 1 ENat v ((srcF 0 (fldsAt m n)).map (·.1))) (hFr:SrcAt q5 lv css w1) (hM:Mates 7 FrW css (fldsAt m n)) (hfl:(fldsAt m n).length≤1000000) :
 n40c17 (.pointer (some ⟨p3,0,none⟩)) (.pointer (some ⟨p4,0,none⟩)) (.pointer (some ⟨p5,0,none⟩)) (.pointer (some ⟨p6,0,none⟩)) (.pointer (some ⟨p11,0,none⟩)) (.func (.func 56) #[] #[.pointer (some ⟨q5,0,none⟩)]) [] (TrR w0) w1:=by
 have hwl:=srcF_len (fldsAt m n) 0
 have hmem:=fun q=>srcF_mem (l:=fldsAt m n) (k:=0) (q:=q)
 have hseq:=Sources_seq q5 lv css (fldsAt m n) hM hfl
 generalize srcF 0 (fldsAt m n)=want at hL hwl hmem hseq
 obtain ⟨A,cc,rfl,hlc,hcm,hlm,hel⟩:=SliceOf.open hL
 rw [List.length_map] at *
 obtain ⟨A3,c3,rfl,_,_,_,hel3⟩:=SliceOf.open hR
 unfold n40c17
 refine Qf ?_
 have oT:=heap_new w1 #[.int .i64 0] 3
 have eX:Ext w1 (w1.alloc (Obj.cells #[.int .i64 0] 3)):=ee
 generalize (w1.alloc (Obj.cells #[.int .i64 0] 3))=X at oT eX ⊢
 refine loopM1_intro (fun ds a w'=>∃ (p20:Nat) (t:Nat),a = .pointer (some ⟨p20,0,none⟩)∧t≤2∧w1.heap.size≤p20∧w'.heap[p20]?=some (.cells #[.int .i64 (t:Int)] 3 (0,0))∧Ext w1 w'∧(∃ bs:List Nat,ds=bs.map Sw.mark∧bs.Nodup∧∀ b∈bs,MarkAt b w'∧w1.heap.size≤b)) turnS ⟨w1.heap.size,0,rfl,by omega,Nat.le_refl _,oT,eX,[],rfl,by simp,by simp⟩ ?_
 rintro ds _ w2 ⟨p20,t,rfl,ht2,hp20,y20,e2,bs,rfl,hnd,hbs⟩
 have hcw:∀ (w':World) (p u:Nat),w'.heap[p]?=some (.cells #[.int .i64 (u:Int)] 3 (0,0))→turnS (.pointer (some ⟨p,0,none⟩)) w'=2 - u:=by
  intro w' p u h
  unfold turnS
  simp only
  rw [(cells_of_heap h).1 0]
  show ((2:Int) - (u:Int)).toNat=2 - u
  omega
 unfold n40c16
 by_cases ht:t < 2
 · have dt:decide ((t:Int) < 2)=true:=by simp;omega
   refine QJ (cells_of_heap y20).1 dt ?_
   unfold n40c15
   refine Qf ?_
   have l20:p20 < w2.heap.size:=(Qk y20).1
   have eB:Ext w2 (w2.alloc (Obj.cells #[.int .i64 0] 3)):=ee
   have o21:=heap_new w2 #[.int .i64 0] 3
   have hs3:(w2.alloc (Obj.cells #[.int .i64 0] 3)).heap.size=w2.heap.size+1:=by simp only [World.size_alloc]
   generalize hp21:w2.heap.size=p21 at o21 hs3 ⊢
   generalize (w2.alloc (Obj.cells #[.int .i64 0] 3))=w3 at eB o21 hs3 ⊢
   have s2:=e2.size
   let I:Nat→World→Prop:=fun k w'=>Ext w1 w'∧(∀ b∈bs,MarkAt b w')∧w'.heap[p20]?=some (.cells #[.int .i64 (t:Int)] 3 (0,0))∧w'.heap[p21]?=some (.cells #[.int .i64 (k:Int)] 3 (0,0))
   let Ix:Nat→World→Prop:=fun c w'=>c=1∧t=0∧Ext w1 w'∧(∀ b∈bs,MarkAt b w')∧w'.heap[p20]?=some (.cells #[.int .i64 (t:Int)] 3 (0,0))∧∃ k:Nat,w'.heap[p21]?=some (.cells #[.int .i64 (k:Int)] 3 (0,0))
   have hmk:Lasts2 w3.heap.size (fun w=>∀ b∈bs,MarkAt b w):=lasts2_marks fun b hb=>by have:=(Qk (hbs b hb).1).1;omega
   have hLI:∀ k,Lasts2 w3.heap.size (I k):=fun k=>(Lasts2.from Qx).and (hmk.and ((Lasts2.has _ (by simp) (by simp)).and (Lasts2.has _ (by simp) (by simp))))
   have hLX:∀ k,Lasts2 w3.heap.size (Ix k):=fun k=>(Lasts2.const _ _).and ((Lasts2.const _ _).and ((Lasts2.from Qx).and (hmk.and ((Lasts2.has _ (by simp) (by simp)).and (.ex fun k=>Lasts2.has _ (by simp) (by simp))))))
   have hfin:∀ (w4:World),Ext w1 w4→(∀ b∈bs,MarkAt b w4)→MarkAt w3.heap.size w4→∀ w5,w4.heap.size < w5.heap.size→w5.heap[w4.heap.size]?=some (.cells #[.int .i64 ((t+1:Nat):Int)] 3 (0,0))→Ext w4 w5 →
    (∃ (p20:Nat) (t':Nat),Value.pointer (some ⟨w4.heap.size,0,none⟩) = .pointer (some ⟨p20,0,none⟩)∧t'≤2∧w1.heap.size≤p20∧w5.heap[p20]?=some (.cells #[.int .i64 (t':Int)] 3 (0,0))∧Ext w1 w5∧(∃ bs':List Nat,(Sw.mark w3.heap.size::bs.map Sw.mark)=bs'.map Sw.mark∧bs'.Nodup∧∀ b∈bs',MarkAt b w5∧w1.heap.size≤b)) ∧
    turnS (.pointer (some ⟨w4.heap.size,0,none⟩)) w5 < turnS (.pointer (some ⟨p20,0,none⟩)) w2:=by
    intro w4 e4 hm4 hmk w5 hlt5 h5 e5
    have s4:=e4.size
    refine ⟨⟨w4.heap.size,t+1,rfl,by omega,by omega,h5,e4.trans e5,w3.heap.size::bs,rfl,List.nodup_cons.2 ⟨fun hin=>?_,hnd⟩,fun b hb=>?_⟩,?_⟩
    · have:=(Qk (hbs _ hin).1).1
      omega
    · rcases List.mem_cons.1 hb with rfl | hb
      · exact ⟨hmk.ext e5,by omega⟩
      · exact ⟨(hm4 b hb).ext e5,(hbs b hb).2⟩
    · rw [hcw w5 _ (t+1) h5,hcw w2 p20 t y20];omega
   refine ⟨_,_,want.length,srcX want,srcY want,SrcAt q5 lv css,I,Ix,fun _ _=>False,rfl,c56,hseq,⟨e2.trans eB,fun b hb=>(hbs b hb).1.ext eB,eB.obj y20,o21⟩,fun k w' h=>hFr.ext h.1,hLI,hLX,fun _=>Lasts2.const _ _,?_,?_,?_,?_⟩
   · intro Rk hRk j w4 hj hI4 hR4 hlt hready
     obtain ⟨q,hq⟩:=getElem?_lt hj
     obtain ⟨_,hqs,_⟩:=hmem q (List.mem_of_getElem? hq)
     obtain ⟨qi,qx⟩:=q
     simp only [Nat.sub_zero] at hqs
     rw [srcX_at hq,srcY_at hq]
     have hil:=(Qv hqs).1
     refine ⟨hready,fun w5 hbz=>?_⟩
     have hR5:=hRk _ _ (KR.busied hbz) hR4
     obtain ⟨e5,hm5,g20,g21⟩:=(hLI j).busied hbz (Nat.le_succ _) hI4
     obtain ⟨b,o,cs,rfl,_,hEl,rfl⟩:=hel j qi (by rw [List.getElem?_map,hq];rfl)
     obtain ⟨nk,r,rfl,hr,hf⟩:=flds_in hqs
     rw [hf] at hqs hil
     obtain ⟨b3,o3,cs3,rfl,_,hE3,fv,rfl,hF⟩:=hel3 nk r hr
     have u1:=SliceOf.oneCell hF
     obtain ⟨A4,c4,rfl,_,_,_,hel4⟩:=SliceOf.open hF
     obtain ⟨b5,o5,cs5,rfl,_,hE5,bv,tv,rfl,hB,hT⟩:=hel4 qi qx hqs
     have hrl:=(Qv hr).1
     have hge:decide ((j:Int)≥(want.length:Int))=false:=decide_eq_false Qx
     have hjj:((qi:Int) != (qi:Int))=false:=by simp
     have ex:w5.cell? ⟨b,o+j,none⟩=some (.int .i64 (qi:Int)):=by have:=hEl.c1 e5;simpa using this
     have dkj:(j:Int) < (want.length:Int):=Qx
     have dki:(qi:Int) < (r.fields.length:Int):=Qx
     have dkr:(nk:Int) < (m.rules.length:Int):=Qx
     have q1:(!decide (qx.fr=qx.fr))=false:=by simp
     have hw:IntKind.i64.wrap ((j:Int)+1)=((j+1:Nat):Int):=by rw [wrap_ok Qx Qx];omega
     have r21:(w5.setCell ⟨p21,0,none⟩ (.int .i64 ((j+1:Nat):Int))).heap[p21]?=some (.cells #[.int .i64 ((j+1:Nat):Int)] 3 (0,0)):=by simpa using heap_set (o:=0) g21 (.int .i64 ((j+1:Nat):Int))
     have r20:=(Only.setCell w5 p21 0 (.int .i64 ((j+1:Nat):Int)) p20 Qx).trans g20
     have e7:Ext w1 (w5.setCell ⟨p21,0,none⟩ (.int .i64 ((j+1:Nat):Int))):=e5.setCell (by show w1.heap.size≤p21;omega) _
     have hm7:∀ b∈bs,MarkAt b (w5.setCell ⟨p21,0,none⟩ (.int .i64 ((j+1:Nat):Int))):=fun b hb=>(hm5 b hb).setCell _ _
     have hR7:=hRk _ _ (KR.setCell (KR.refl _ w5) p21 0 (.int .i64 ((j+1:Nat):Int)) (.inl Qx)) hR5
     have x57:=e7.obj x5
     have g3:=hE3.c3 e5
     have g5:=hE5.c7 e5
     unfold n40c7
     simp (disch:=try exact DI) only [↓PR,QR,simprocAttr,(cells_of_heap g21).1,(cells_of_heap (e5.obj x11)).1,hge,dkj,ex,hjj,Nat.mul_one,↓n40c6,↓n40c5,(cells_of_heap (e5.obj h3)).1,(cells_of_heap (e5.obj x4)).1,dkr,g3,dki,g5,q1,↓n40c4]
     unfold n40c3
     have hcase:t=0∨t=1:=Qx
     rcases hcase with ht0 | ht1
     · have d0:((t:Int) == 0)=true:=by rw [ht0];rfl
       by_cases hmy:((j+1:Nat):Int)≥many
       · have dm:decide (((j+1:Nat):Int)≥many)=true:=by simpa using hmy
         simp (disch:=try exact DI) only [↓PR,QR,simprocAttr,(cells_of_heap g21).1,(cells_of_heap g21).2,hw,(cells_of_heap r20).1,d0,(cells_of_heap r21).1,(cells_of_heap x57).1,dm]
         exact ⟨hR7,rfl,ht0,e7,hm7,r20,j+1,r21⟩
       · have dm:decide (((j+1:Nat):Int)≥many)=false:=by simpa using hmy
         simp (disch:=try exact DI) only [↓PR,QR,simprocAttr,(cells_of_heap g21).1,(cells_of_heap g21).2,hw,(cells_of_heap r20).1,d0,(cells_of_heap r21).1,(cells_of_heap x57).1,dm]
         exact ⟨hR7,e7,hm7,r20,r21⟩
     · have d0:((t:Int) == 0)=false:=by rw [ht1];rfl
       refine QY (cells_of_heap g21).1 (cells_of_heap g21).2 hw (cells_of_heap r20).1 d0 ?_
       exact ⟨hR7,e7,hm7,r20,r21⟩
   · rintro w4 ⟨e4,hm4,q20,q21⟩ hmk
     exact src_after1 (e4.obj x11) q20 q21 ht (fun _=>rfl) (hfin w4 e4 hm4 hmk)
   · rintro c w4 ⟨rfl,ht0,e4,hm4,q20,k,q21⟩ hmk
     exact src_after2 (e4.obj x11) q20 q21 ht (fun h=>by omega) (hfin w4 e4 hm4 hmk)
   · rintro ch w4 h
     exact h.elim
 · have dt:decide ((t:Int) < 2)=false:=by simp;omega
   have q6:=e2.obj x6
   refine QJ (cells_of_heap y20).1 dt ?_
   unfold n40c14
   refine zcr (kn2_ret w2 (hE.ext (E1.trans e2))) fun w6 e6=>?_
   have q6:=e6.obj q6
   refine QJ (cells_of_heap q6).1 (cells_of_heap q6).2 ?_
   have r6:(w6.setCell ⟨p6,0,none⟩ (.bool true)).heap[p6]?=some (.cells #[.bool true] 4 (0,0)):=by simpa using heap_set (o:=0) q6 (.bool true)
   refine outs_marks (w0:=w0) hnd (fun b hb=>⟨((hbs b hb).1.ext e6).setCell _ _,by have:=(hbs b hb).2;have:=E1.size;omega⟩) ((E1.trans (e2.trans e6)).setCell (by show w0.heap.size≤p6;omega) _) (fun w' e' hh=>?_)
   have z6:=hh _ _ has_nd r6
   simp (disch:=try exact DI) only [↓PR,QR,simprocAttr,outX_nil,retV,resOne,(cells_of_heap z6).1]
   exact ⟨by trivial,e'⟩
theorem MappingSources_ret (w0:World) (hE:EnvM w0) (v:Value) (m:MapD) (n many:Int) (hm:MapVal w0 v m):Ret Pg 6 #[v,.int .i64 n,.int .i64 many] w0 fun u w'=>u = .bool true∧Ext w0 w':=by
 obtain ⟨rv,rfl,hR,t1⟩:=hm.op
 refine n40s (R:=retR _) ?_;unfold n40
 change opV Pg _ (outQ Pg [] _ (TrR w0)) w0 _
 rw [op_boxA]
 have h3a:=heap_new w0 (mapCells m rv).toArray 24
 have eA:Ext w0 (w0.alloc (.cells (mapCells m rv).toArray 24)):=(Ext.refl w0).alloc _
 generalize (w0.alloc (.cells (mapCells m rv).toArray 24))=B at h3a eA ⊢
 have s3:w0.heap.size≤B.heap.size:=eA.size
 generalize hp3:w0.heap.size=p3 at h3a ⊢
 simp (disch:=try exact DI) only [↓PR,QR,simprocAttr,fun o o' o''=>(cells_of_heap (((((Ext.refl B).alloc o).alloc o').alloc o'').obj h3a)).1]
 simp only [World.size_alloc]
 generalize hW:World.alloc (World.alloc (World.alloc B _) _) _=W
 have eBW:Ext B W:=by rw [← hW];exact (((Ext.refl B).alloc _).alloc _).alloc _
 have x4:W.heap[B.heap.size]?=some (.cells #[.int .i64 n] 3 (0,0)):=by rw [← hW];exact Qb
 have x5:W.heap[B.heap.size+1]?=some (.cells #[.int .i64 many] 3 (0,0)):=by rw [← hW];exact Qb
 have x6:W.heap[B.heap.size+1+1]?=some (.cells #[.bool false] 4 (0,0)):=by rw [← hW];exact Qb
 clear hW
 generalize hp4:B.heap.size=p4 at x4 x5 x6 ⊢
 generalize hp5:p4+1=p5 at x5 x6 ⊢
 generalize hp6:p5+1=p6 at x6 ⊢
 have eW:=eA.trans eBW
 have h3:=eBW.obj h3a
 have hV:∀ w,Ext W w→MapVal w (.agg (mapCells m rv).toArray) m:=fun w e=>⟨_,rfl,hR.ext (eW.trans e)⟩
 have l6:w0.heap.size≤p6:=Qx
 refine zcr (large_ret W _ m (hV W (Ext.refl W))) fun w1 e1=>?_
 have E1:=eW.trans e1
 cases hlg:largeM m with
 | true =>
  unfold n40c30
  refine Qf ?_
  refine zcr (kn2_ret w1 (hE.ext E1)) fun w6 e6=>?_
  have q6:=(e1.trans e6).obj x6
  refine QJ (cells_of_heap q6).1 (cells_of_heap q6).2 ?_
  have r6:(w6.setCell ⟨p6,0,none⟩ (.bool true)).heap[p6]?=some (.cells #[.bool true] 4 (0,0)):=by simpa using heap_set (o:=0) q6 (.bool true)
  simp (disch:=try exact DI) only [↓PR,QR,simprocAttr,outX_nil,retV,resOne,(cells_of_heap r6).1]
  exact ⟨by trivial,(E1.trans e6).setCell (p:=⟨p6,0,none⟩) l6 _⟩
 | false =>
  obtain ⟨hrl,_,hno⟩:=largeM_no hlg
  have hfl:∀ r∈m.rules,r.fields.length≤1000000:=fun r hr=>by have:=(largeR_no (hno r hr)).1;omega
  unfold n40c31
  refine Qp (cells_of_heap (e1.obj h3)).1 ?_
  refine callK_ret (Own_ret w1 _ m (hV w1 e1) Qx fun r hr=>⟨hfl r hr,fun x hx=>by
   obtain ⟨_,_,g1,g2⟩:=largeX_no ((largeR_no (hno r hr)).2.2.2 x hx)
   omega⟩) ?_
  rintro _ w2 ⟨⟨rv2,css,rfl,hO,hM⟩,e2⟩
  have v2:rv2.oneCell'=true:=SliceOf.oneCell (hO.slice (E:=fun _ cs (x:Cs 3)=>cs=x.1) (fun x=>x.2) (fun _ _=>rfl))
  have hMV:MapVal w2 (.agg (mapCells m rv2).toArray) m:=OwnM.val ⟨rv2,css,rfl,hO,hM⟩
  unfold n40c29
  have x4Y:(w2.alloc (.cells (mapCells m rv2).toArray 24)).heap[p4]?=some (.cells #[.int .i64 n] 3 (0,0)):=(e1.trans (e2.trans ((Ext.refl w2).alloc _))).obj x4
  refine Qp (cells_of_heap x4Y).1 ?_
  have h7:=heap_new w2 #[.string m.name,rv2] 24
  have eY:Ext w2 (w2.alloc (Obj.cells #[.string m.name,rv2] 24)):=(Ext.refl w2).alloc _
  generalize (w2.alloc (Obj.cells #[.string m.name,rv2] 24))=Y at h7 eY ⊢
  have sY:w2.heap.size < Y.heap.size:=(Qk h7).1
  have l7:w1.heap.size≤w2.heap.size:=e2.size
  generalize w2.heap.size=p7 at h7 sY l7 ⊢
  have hOY:=hO.ext eY
  refine callK_ret (Sources_ret Y _ m n (hMV.ext eY) hfl) ?_
  rintro _ w4 ⟨⟨q5,lv,css',rfl,hS,hq5,hO5,hM5⟩,e4⟩
  unfold n40c28
  refine Qf ?_
  have e24:=eY.trans e4
  refine zero_rules e4 (e4.obj h7) hOY (hM.imp fun _ _ h=>h.ext eY) Qx hfl fun w5 hZ=>?_
  have e15:Ext w1 w5:=hZ.ext (e2.trans e24) (Nat.le_refl _)
  have E5:=E1.trans e15
  have hS5:SrcAt q5 lv css' w5:=⟨(hZ.same q5 (.inr (.inl hq5))).trans hS.1,(OwnE.keep hO5 (fun b hb=>hZ.same b (.inr (.inl (hO5.lt b hb).1)))).slice (E:=fun _ cs (x:Cs 7)=>cs=x.1) (fun x=>x.2) (fun _ _=>rfl)⟩
  refine src_want (V:=w5) ((e1.trans e15).obj h3) (hR.ext (eW.trans (e1.trans e15))) ((e1.trans e15).obj x4) hfl fun w6 p11 u e6 hp11 h11 hL=>?_
  have e16:=e1.trans (e15.trans e6)
  exact src_turns hE (eW.trans e16) (e16.obj h3) (hR.ext (eW.trans e16)) (e16.obj x4) (e16.obj x5) (e16.obj x6) l6 h11 hL (hS5.ext e6) hM5 (by
   unfold fldsAt
   split
   · cases hr:m.rules[n.toNat]? with
     | none=>simp
     | some r=>exact hfl r (List.mem_of_getElem? hr)
   · simp)
end Go.Proofs.YtgalpdihjbinjaaGreatDoor
namespace Go.Sw
open Go.ChangeShapes Go.WideShapes Go.RowKit Go.ChangeAt Go.Deep
theorem list_of {α:Type} {p:Nat→α→Prop}:∀ (n:Nat),(∀ i,i < n→∃ x,p i x)→∃ l:List α,l.length=n∧∀ k x,l[k]?=some x→p k x
 | 0,_=>⟨[],rfl,fun k x h=>by simp at h⟩
 | n+1,h=>by
  obtain ⟨l,hl,hp⟩:=list_of n (fun i hi=>h i Qx)
  obtain ⟨x,hx⟩:=h n Qx
  refine ⟨l++[x],by simp [hl],fun k y hy=>?_⟩
  rw [List.getElem?_append] at hy
  split at hy
  · exact hp k y hy
  · have hk:k=n:=by
     have:=(Qv hy).1
     simp at this
     omega
    subst hk
    simp [hl] at hy
    subst hy
    exact hx
section
variable {H:Type} {enc:TypeId×Value→H} {P:Program} {w:World} {base:Nat} {spare:Nat→Bool} {held:Bool}
theorem weightsAll_mem {e:TypeId} {m:Nat} {d:DataW H}:∀ {l:List (DataW H)},d∈l→m∈d.weights P e→m∈DataW.weightsAll P e l
 | [],h,_=>by cases h
 | a::l,h,hm=>by
  rw [DataW.weightsAll,List.mem_append]
  rcases List.mem_cons.1 h with rfl | h
  · exact .inl hm
  · exact .inr (weightsAll_mem h hm)
def Reached (P:Program) (t:TypeId) (d:DataW H):Prop:=∀ m∈d.weights P t,m≤reachBytes
theorem reached_of {ts:List TypeId} {ds:List (DataW H)} (h:(DataW.weightsEach P ts ds).all (· ≤ reachBytes)=true) {j:Nat} {t:TypeId} {d:DataW H} (ht:ts[j]?=some t) (hd:ds[j]?=some d):Reached P t d:=fun m hm=>by
 have:=List.all_eq_true.1 h _ (DataW.weights_mem_each ht hd m hm)
 simpa using this
theorem slice_of_trod {α:Type} {E:World→List Value→α→Prop} {Q:α→Prop} {t e:TypeId} {n fuel:Nat} {cs:List Value} {x:DataW H×List MemPlace} (ht:P.underlying t=some (.slice e)) (hn:P.cellsOf e=n) (hb1:1≤P.bytesOf e) (h0:0 < n)
 (hE:∀ m cs' y,DataW.trod enc P w base spare held m e cs'=some y→Reached P e y.1→∃ x,E w cs' x∧Q x) (h:DataW.trod enc P w base spare held fuel t cs=some x) (hr:Reached P t x.1):∃ v l,cs=[v]∧SliceOf w n E v l∧(∀ x∈l,Q x)∧l.length≤140737488355328:=by
 rcases open_slice ht h with ⟨rfl,_⟩ | ⟨a,len,cap,m,k,D,Pl,rfl,hb,hl,hm,hmm,hx,hel⟩
 · exact ⟨_,[],rfl,SliceOf.nil _ _ _,fun x hx=>by (cases hx),Nat.zero_le _⟩
 · have hlm:len≤m:=by rw [hmm];split<;>omega
   subst hx
   have hw0:=hr ((len+(m - len))*P.bytesOf e) (by simp only [DataW.weights,ht];simp)
   have hlen:len≤140737488355328:=by
    have:len*1≤(len+(m - len))*P.bytesOf e:=Nat.mul_le_mul Qx hb1
    simp only [reachBytes] at hw0
    omega
   have hD:∀ i,i < len→Reached P e (D i):=fun i hi q hq=>hr q (by
    simp only [DataW.weights,ht,List.mem_cons,List.mem_append]
    exact .inr (.inl (weightsAll_mem (List.mem_map.2 ⟨i,List.mem_range.2 hi,rfl⟩) hq)))
   obtain ⟨l,hll,hp⟩:=list_of (p:=fun i (x:α)=>∃ cs',w.cells? base (a.add (i*n)) n=some cs'∧E w cs' x∧Q x) len (fun i hi=>by
    obtain ⟨cs',h1,h2⟩:=hel i Qx
    rw [hn] at h1
    obtain ⟨x,hx⟩:=hE _ _ _ h2 (hD i hi)
    exact ⟨x,cs',h1,hx⟩)
   refine ⟨_,l,rfl,⟨some a,cap,by rw [hll],by rw [hll];exact hl,by simp only [maxLen] at hm;omega,fun hne=>?_⟩,fun x hx=>?_,by omega⟩
   · obtain ⟨b,o,spot⟩:=a
     have hspot:spot=none:=by
      have:0 < l.length:=List.length_pos_iff.2 hne
      obtain ⟨y,hy⟩:=getElem?_lt this
      obtain ⟨cs',h1,_⟩:=hp 0 y hy
      obtain ⟨_,h2,h3⟩:=World.cells?_some h1
      have h4:=h3 0 h0
      rw [List.getElem?_eq_getElem Qx] at h4
      simpa [Addr.add] using World.cell?_spot h4
     subst hspot
     refine ⟨b,o,rfl,fun k x hx=>?_⟩
     obtain ⟨cs',h1,h2,_⟩:=hp k x hx
     obtain ⟨_,h3,h4⟩:=World.cells?_some h1
     refine ⟨cs',h3,fun j v hv=>?_,h2⟩
     have h5:=h4 j (by have:=(Qv hv).1;omega)
     rw [hv] at h5
     simpa [Addr.add_lit] using h5
   · obtain ⟨k,hk⟩:=List.getElem?_of_mem hx
     obtain ⟨_,_,_,hq⟩:=hp k x hk
     exact hq
theorem struct_of_trod {fs:Array Field} {t:TypeId} {n fuel:Nat} {cs:List Value} {x:DataW H×List MemPlace} (ht:P.underlying t=some (.struct fs)) (hn:P.cellsOf t=n) (h:DataW.trod enc P w base spare held fuel t cs=some x) (hr:Reached P t x.1) :
 cs.length=n∧∃ m,∀ (i:Nat) (ty off k:Nat),(fs[i]?).map (fun f=>(f.type,f.offset))=some (ty,off)→P.cellsOf ty=k→∃ y,DataW.trod enc P w base spare held m ty ((cs.drop off).take k)=some y∧Reached P ty y.1:=by
 obtain ⟨xs,m,_,rfl,hl,hlen,hf⟩:=DataW.trod_struct ht h
 refine ⟨hl.trans hn,m,fun i ty off k hi hk=>?_⟩
 obtain ⟨f,hfi,he⟩:=Option.map_eq_some_iff.1 hi
 injection he with h1 h2
 subst h1 h2 hk
 have hil:i < xs.length:=by rw [hlen];exact (Qk hfi).1
 refine ⟨xs[i],(hf i f hfi).trans (List.getElem?_eq_getElem hil),fun q hq=>hr q ?_⟩
 simp only [DataW.weights,ht]
 refine DataW.weights_mem_each (j:=i) (t:=f.type) (d:=xs[i].1) ?_ ?_ q hq
 · rw [List.getElem?_map,Array.getElem?_toList,hfi];rfl
 · rw [List.getElem?_map,List.getElem?_eq_getElem hil];rfl
theorem trodAll_stays (hl:laidOutB P=true) {W W':World} (he:Ext W W'):∀ {ts:List TypeId} {vs:List Value} {ds:List (DataW H)} {ps:List MemPlace},(∀ t∈ts,P.readableRec t=true∧t < P.types.size)→(∀ x∈ps,x.block < W.heap.size) →
 DataW.TrodAll enc P W 0 (fun _=>true) true ts vs ds ps→DataW.TrodAll enc P W' 0 (fun b=>decide (b < W.heap.size)) true ts vs ds ps
 | [],_,_,_,_,_,h=>by obtain ⟨rfl,rfl,rfl⟩:=trodAll_nil h;exact trodAll_mk0
 | t::ts,_,_,_,hr,hlt,h=>by
  obtain ⟨v,vs1,d,ds1,a,b,rfl,rfl,rfl,h1,h2⟩:=trodAll_cons h
  refine ⟨a,b,?_,trodAll_stays hl he (fun t ht=>hr t (List.mem_cons_of_mem _ ht)) (fun x hx=>hlt x (List.mem_append_right _ hx)) h2,rfl⟩
  exact Below.trod hl (hr t (List.mem_cons_self ..)).1 (hr t (List.mem_cons_self ..)).2 h1 ⟨he.os,he.tape,he.output,he.size,he.block⟩ (fun x hx=>hlt x (List.mem_append_left _ hx))
theorem law_post {f:Func} {s:ChangeSpec} {W W':World} {args:Array Value} {ds gs:List (DataW H)} {before:List MemPlace} {tb:TypeId} (hl:laidOutB P=true) (hr:∀ t∈f.params.toList,P.readableRec t=true∧t < P.types.size) (hs:s.vars=[])
 (hW:DataW.Whole enc P f.params.toList s.vars false W args.toList ds gs before) (he:Ext W W') (hres:f.resultTypes = #[tb]) (htb:P.underlying tb=some .bool) (hfn:(s.fn H ds).results=[.lit (.bool true)]) (hargs:(s.fn H ds).args=ds) (hvars:(s.fn H ds).vars=[]) :
 s.post enc P f false true false false W args (.bool true) W':=by
 have hW':=hW
 obtain ⟨p,q,hA,hV,rfl,_,_⟩:=hW
 rw [hs] at hV
 obtain ⟨rfl,rfl⟩:=trodVars_none hV
 have hlt:∀ x∈p,x.block < W.heap.size:=fun x hx=>hW'.lt x (by simpa using hx)
 rw [List.append_nil] at hW'
 refine ⟨ds,[],p,[],p,[],hW',?_,?_,?_,Below.frame ⟨he.os,he.tape,he.output,he.size,he.block⟩ _,fun h=>by cases h⟩
 · rw [List.append_nil,hfn,hres]
   exact trodAll_mk1 (shut_bool htb _)
 · rw [List.append_nil,hargs]
   exact trodAll_stays hl he hr hlt hA
 · rw [List.append_nil,hvars,hs]
   exact rfl
end
end Go.Sw
namespace Go.Proofs.YtgalpdihjbinjaaGreatDoor
open Sw
open Go.ChangeShapes Go.WideShapes Go.RowKit Go.ChangeAt Go.Deep
theorem cellsString:Pg.cellsOf 9=1:=Qq
theorem cellsInt:Pg.cellsOf 3=1:=Qq
end Go.Proofs.YtgalpdihjbinjaaGreatDoor
namespace Go.Proofs.YtgalpdihjbinjaaGreatDoor
open Sw
open Go.ChangeShapes Go.WideShapes Go.RowKit Go.ChangeAt Go.Deep
theorem cellsRow:Pg.cellsOf 78=3:=Qq
theorem cellsFr:Pg.cellsOf 43=7:=Qq
theorem cellsMr:Pg.cellsOf 60=3:=Qq
theorem cellsMap:Pg.cellsOf 24=2:=Qq
theorem cellsMk:Pg.cellsOf 39=1:=Qq
theorem cellsBy:Pg.cellsOf 40=1:=Qq
theorem cellsRows:Pg.cellsOf 41=1:=Qq
theorem cellsFrs:Pg.cellsOf 58=1:=Qq
theorem cellsMrs:Pg.cellsOf 22=1:=Qq
theorem cellsU8':Pg.cellsOf 5=1:=Qq
theorem bytesRow:1≤Pg.bytesOf 78:=Nat.le_of_ble_eq_true Qq
theorem bytesFr:1≤Pg.bytesOf 43:=Nat.le_of_ble_eq_true Qq
theorem bytesMr:1≤Pg.bytesOf 60:=Nat.le_of_ble_eq_true Qq
theorem bytesU8':1≤Pg.bytesOf 5:=Nat.le_of_ble_eq_true Qq
theorem range_wf {n:Int} (h:(Lit.int .i64 n).wf=true):rangeI n=true:=h
section
variable {H:Type} {enc:TypeId×Value→H} {w:World} {base:Nat} {spare:Nat→Bool} {held:Bool}
theorem byte_of' {m:Nat} {cs:List Value} {y:DataW H×List MemPlace} (h:DataW.trod enc Pg w base spare held m 5 cs=some y):∃ x:UInt8,EByte w cs x:=by
 obtain ⟨k,rfl,_,hw⟩:=DataW.trod_int Tryz.underlying5 h
 have hk:0≤k∧k≤255:=by
  have h2:(decide (IntKind.u8.min≤k)&&decide (k≤IntKind.u8.max))=true:=hw
  rw [Bool.and_eq_true,decide_eq_true_eq,decide_eq_true_eq,show IntKind.u8.min=0 from rfl,show IntKind.u8.max=255 from rfl] at h2
  exact h2
 refine ⟨UInt8.ofNat k.toNat,?_⟩
 show [Value.int .u8 k]=[Value.int .u8 ((UInt8.ofNat k.toNat).toNat:Int)]
 rw [UInt8.toNat_ofNat',Nat.mod_eq_of_lt Qx]
 congr 2
 omega
theorem row_of {m:Nat} {cs:List Value} {y:DataW H×List MemPlace} (h:DataW.trod enc Pg w base spare held m 78 cs=some y) (hr:Reached Pg 78 y.1):∃ x,ERow w cs x∧inRow x=true:=by
 obtain ⟨hl,n,hf⟩:=struct_of_trod Tryz.underlying78 cellsRow h hr
 obtain ⟨y0,h0,r0⟩:=hf 0 3 0 1 rfl cellsInt
 obtain ⟨y1,h1,r1⟩:=hf 1 3 1 1 rfl cellsInt
 obtain ⟨y2,h2,r2⟩:=hf 2 3 2 1 rfl cellsInt
 match cs,hl with
 | [c0,c1,c2],_ =>
  obtain ⟨a,e0,_,w0⟩:=DataW.trod_int Tryz.underlying3 h0
  obtain ⟨b,e1,_,w1⟩:=DataW.trod_int Tryz.underlying3 h1
  obtain ⟨c,e2,_,w2⟩:=DataW.trod_int Tryz.underlying3 h2
  simp at e0 e1 e2
  subst e0 e1 e2
  refine ⟨⟨a,b,c⟩,rfl,?_⟩
  unfold inRow
  rw [range_wf w0,range_wf w1,range_wf w2]
  rfl
theorem fr_of {m:Nat} {cs:List Value} {y:DataW H×List MemPlace} (h:DataW.trod enc Pg w base spare held m 43 cs=some y) (hr:Reached Pg 43 y.1):∃ x,EFr w cs x∧inF x=true:=by
 obtain ⟨hl,n,hf⟩:=struct_of_trod Tryz.underlying43 cellsFr h hr
 obtain ⟨y0,h0,r0⟩:=hf 0 9 0 1 rfl cellsString
 obtain ⟨y1,h1,r1⟩:=hf 1 39 1 1 rfl cellsMk
 obtain ⟨y2,h2,r2⟩:=hf 2 9 2 1 rfl cellsString
 obtain ⟨y3,h3,r3⟩:=hf 3 3 3 1 rfl cellsInt
 obtain ⟨y4,h4,r4⟩:=hf 4 3 4 1 rfl cellsInt
 obtain ⟨y5,h5,r5⟩:=hf 5 40 5 1 rfl cellsBy
 obtain ⟨y6,h6,r6⟩:=hf 6 41 6 1 rfl cellsRows
 match cs,hl with
 | [c0,c1,c2,c3,c4,c5,c6],_ =>
  obtain ⟨x0,e0,_⟩:=DataW.trod_string Tryz.underlying9 h0
  obtain ⟨x1,e1,_⟩:=DataW.trod_int Tryz.underlying39 h1
  obtain ⟨x2,e2,_⟩:=DataW.trod_string Tryz.underlying9 h2
  obtain ⟨x3,e3,_,w3⟩:=DataW.trod_int Tryz.underlying3 h3
  obtain ⟨x4,e4,_,w4⟩:=DataW.trod_int Tryz.underlying3 h4
  obtain ⟨v5,l5,e5,hS5,_,_⟩:=slice_of_trod (E:=EByte) (Q:=fun _=>True) Tryz.underlying40 cellsU8' bytesU8' Qj (fun _ _ _ h hr=>let ⟨x,hx⟩:=byte_of' h; ⟨x,hx,trivial⟩) h5 r5
  obtain ⟨v6,l6,e6,hS6,hQ6,_⟩:=slice_of_trod (E:=ERow) (Q:=fun x=>inRow x=true) Tryz.underlying41 cellsRow bytesRow Qj (fun _ _ _ h hr=>row_of h hr) h6 r6
  simp at e0 e1 e2 e3 e4 e5 e6
  subst e0 e1 e2 e3 e4 e5 e6
  refine ⟨⟨x0,x1,x2,x3,x4,l5,l6⟩,⟨_,_,rfl,hS5,hS6⟩,?_⟩
  unfold inF
  simp only [range_wf w3,range_wf w4,Bool.true_and,List.all_eq_true]
  exact hQ6
theorem mr_of {m:Nat} {cs:List Value} {y:DataW H×List MemPlace} (h:DataW.trod enc Pg w base spare held m 60 cs=some y) (hr:Reached Pg 60 y.1):∃ x,EMr w cs x∧∀ z∈x.fields,inF z=true:=by
 obtain ⟨hl,n,hf⟩:=struct_of_trod Tryz.underlying60 cellsMr h hr
 obtain ⟨y0,h0,r0⟩:=hf 0 9 0 1 rfl cellsString
 obtain ⟨y1,h1,r1⟩:=hf 1 9 1 1 rfl cellsString
 obtain ⟨y2,h2,r2⟩:=hf 2 58 2 1 rfl cellsFrs
 match cs,hl with
 | [c0,c1,c2],_ =>
  obtain ⟨a,e0,_⟩:=DataW.trod_string Tryz.underlying9 h0
  obtain ⟨b,e1,_⟩:=DataW.trod_string Tryz.underlying9 h1
  obtain ⟨v,l,e2,hS,hQ,_⟩:=slice_of_trod (E:=EFr) (Q:=fun x=>inF x=true) Tryz.underlying58 cellsFr bytesFr Qj (fun _ _ _ h hr=>fr_of h hr) h2 r2
  simp at e0 e1 e2
  subst e0 e1 e2
  exact ⟨⟨a,b,l⟩,⟨_,rfl,hS⟩,hQ⟩
def MapIn (m:MapD):Prop:=∀ r∈m.rules,∀ x∈r.fields,inF x=true
theorem map_of {m:Nat} {cs:List Value} {y:DataW H×List MemPlace} (h:DataW.trod enc Pg w base spare held m 24 cs=some y) (hr:Reached Pg 24 y.1):∃ d rv,cs=mapCells d rv∧MrsOf w rv d.rules∧MapIn d:=by
 obtain ⟨hl,n,hf⟩:=struct_of_trod Tryz.underlying24 cellsMap h hr
 obtain ⟨y0,h0,r0⟩:=hf 0 9 0 1 rfl cellsString
 obtain ⟨y1,h1,r1⟩:=hf 1 22 1 1 rfl cellsMrs
 match cs,hl with
 | [c0,c1],_ =>
  obtain ⟨a,e0,_⟩:=DataW.trod_string Tryz.underlying9 h0
  obtain ⟨v,l,e1,hS,hQ,_⟩:=slice_of_trod (E:=EMr) (Q:=fun x=>∀ z∈x.fields,inF z=true) Tryz.underlying22 cellsMr bytesMr Qj (fun _ _ _ h hr=>mr_of h hr) h1 r1
  simp at e0 e1
  subst e0 e1
  exact ⟨⟨a,l⟩,_,rfl,hS,hQ⟩
theorem map_val {r:Reach} {b0:Nat} {v:Value} {d:DataW H} {ps:List MemPlace} (hval:Value.okWide Pg w r b0 24 v) (h:DataW.Trod enc Pg w base spare held 24 v d ps) (hr:Reached Pg 24 d):∃ f,MapVal w v f∧MapIn f:=by
 obtain ⟨cs,rfl,_⟩:=okWide_struct Tryz.underlying24 hval
 obtain ⟨fuel,hf⟩:=h
 obtain ⟨f,tv,h1,h2,hs⟩:=map_of hf hr
 exact ⟨f,⟨tv,congrArg Value.agg (by rw [← h1,cells_agg]),h2⟩,hs⟩
end
end Go.Proofs.YtgalpdihjbinjaaGreatDoor
namespace Go.Proofs.YtgalpdihjbinjaaGreatDoor
open Sw
open Go.RowKit Go.Deep
def role_laid:List (String×DataW Unit):=[("math/bits.deBruijn32tab", Rows.laid_math_bits_deBruijn32tab),("math/bits.deBruijn64tab", Rows.laid_math_bits_deBruijn64tab),("internal/strconv.uint64pow10", Rows.laid_internal_strconv_uint64pow10),("unicode/utf8.acceptRanges", Rows.laid_unicode_utf8_acceptRanges),("strconv.ErrRange", Rows.laid_strconv_ErrRange),("strconv.ErrSyntax", Rows.laid_strconv_ErrSyntax),("unicode/utf8.first", Rows.laid_unicode_utf8_first)]
theorem role_own:ownKnob Pg.godebug=none:=Qq
theorem role_laidOut:laidOutB Pg=true:=Qq
theorem role_met (os:Os) (args:Array Value):laidMetH Pg role_laid ((World.laidAll Pg os role_laid).forCall (fun _ _=>0) ⟨#[],args,[]⟩).memory:=by
 rw [MakeChecks.laidMetH_plain _ _ _ Qq]
 exact laidMet_laidAll _ Qq Qq
theorem role_tab {W:World} (h:laidMetH Pg role_laid W):TabOK W:=by
 rw [MakeChecks.laidMetH_plain _ _ _ Qq] at h
 have h3:=laidMet.tail (laidMet.tail h)
 have he:(Rows.laid_internal_strconv_uint64pow10:DataW Unit)=Go.Lib.tabData .u64 Go.Lib.pow10Tab:=Qq
 rw [he] at h3
 obtain ⟨g,hg⟩:=Option.isSome_iff_exists.1 gPow
 have hty:(Pg.globals[g]?).map (·.type)=some 281:=by
  have h1:(Pg.globalNamed "internal/strconv.uint64pow10").bind (fun g=>(Pg.globals[g]?).map (·.type))=some 281:=Qq
  rw [hg] at h1
  exact h1
 exact Go.Lib.tabIs_of_head hg hty Tryz.underlying281 Tryz.underlying191 Qq Qq h3
theorem role_star : "*" ++ "errors.errorString" = "*errors.errorString" := by decide
theorem role_rowErr (u:TypeId) (h:Pg.typeName? 3 u=some "*errors.errorString"):u=292 :=
 typeName_ptr_named (nm := "errors.errorString") (by rw [role_star];kernel_rfl) Qq Qj u (by rw [role_star];exact h)
theorem role_env {W:World} (hs:W.ShapedOpen Pg) (h:laidMetH Pg role_laid W):EnvOK W:=by
 refine ⟨role_tab h,Go.Proofs.cell_of_shapedOpen_int (k := .i64) hs (of_decide_eq_true Qq) (zero := #[.int .i64 0]) (t:=3) Qq rfl Qq Qq Tryz.underlying3,?_,?_⟩
 · rw [MakeChecks.laidMetH_plain _ _ _ Qq] at h
   have h5:=h.tail.tail.tail.tail.tail
   obtain ⟨a,s,hv,_⟩:=laid_sentinel (g:=3) h5 Qq Qq Tryz.underlying162 role_rowErr Tryz.underlying292 Tryz.underlying294 rfl rfl Tryz.underlying9 Qq Qq
   refine ⟨_,by rw [World.var?_cell (show Pg.globalNamed "strconv.ErrSyntax" = some 3 by kernel_rfl) hv 0];rfl,.inr ⟨_,_,rfl⟩⟩
 · rw [MakeChecks.laidMetH_plain _ _ _ Qq] at h
   have h5:=h.tail.tail.tail.tail
   obtain ⟨a,s,hv,_⟩:=laid_sentinel (g:=4) h5 Qq Qq Tryz.underlying162 role_rowErr Tryz.underlying292 Tryz.underlying294 rfl rfl Tryz.underlying9 Qq Qq
   refine ⟨_,by rw [World.var?_cell (show Pg.globalNamed "strconv.ErrRange" = some 4 by kernel_rfl) hv 0];rfl,.inr ⟨_,_,rfl⟩⟩
def deB64:List Int:=[0,1,56,2,57,49,28,3,61,58,42,50,38,29,17,4,62,47,59,36,45,43,51,22,53,39,33,30,24,18,12,5,63,55,48,27,60,41,37,16,46,35,44,21,52,32,23,11,54,26,40,15,34,20,31,10,25,14,19,9,13,8,7,6]
theorem map_env {W:World} (hs:W.ShapedOpen Pg) (h:laidMetH Pg role_laid W):EnvM W:=by
 refine ⟨role_env hs h,?_⟩
 rw [MakeChecks.laidMetH_plain _ _ _ Qq] at h
 have h2:=laidMet.tail h
 have he:(Rows.laid_math_bits_deBruijn64tab:DataW Unit)=Go.Lib.tabData .u8 deB64:=Qq
 rw [he] at h2
 have hg:Pg.globalNamed "math/bits.deBruijn64tab" = some 7:=Qq
 have hv:=Go.Lib.tabIs_of_head hg (t:=306) Qq Tryz.underlying306 Tryz.underlying5 Qq Qq h2
 rw [World.var?_cell hg hv 15]
 rfl
theorem handed_and {H:Type} {enc:TypeId×Value→H} {a:Assume} {C:Checked} {os:Os} {f:FuncId} {fn:Func} {s:ChangeSpec} {conds:List PathCond} {apart fresh handsOn again:Bool} {X:World→Array Value→Prop}
 (hX:∀ (w w':World) (args:Array Value),w.heap=w'.heap→X w args→X w' args)
 (own:ownKnob C.prog.godebug=none) (started:os.Started) (noInit:C.prog.inits.idxOf? f=none) (hfn:C.prog.funcs[f]?=some fn)
 (witness:∃ (w:World) (tape:Tape) (i:Input),w.os=os∧(w.forCall tape i).Shaped C.prog∧i.vars=[]∧Input.okWide C.prog (w.forCall tape i) .any w.heap.size f i ∧
  ((s.pre enc C.prog fn conds apart (w.forCall tape i).memory i.args∧X (w.forCall tape i).memory i.args)∧sizedMet enc C.prog fn (OpenSpec.ofChange s) apart (w.forCall tape i).memory i.args)∧a.holds C.prog (lone (Frame.enter C.prog f i.args .normal) [] (w.forCall tape i)))
 (contract:∀ (W:World) (base:Nat) (args:Array Value) (ds gs:List (DataW H)) (before:List MemPlace),
  (∀ (j:Nat) t v,fn.params[j]?=some t→args[j]?=some v→Value.okWide C.prog W .any base t v) →
  DataW.Whole enc C.prog fn.params.toList s.vars apart W args.toList ds gs before →
  conds.all (PathCond.test C.prog ⟨fn.params.toList,ds,s.plain.varTypes C.prog,gs⟩)=true →
  (DataW.weightsEach C.prog (fn.params.toList++s.plain.varTypes C.prog) (ds++gs)).all (· ≤ reachBytes)=true→X W args→W.ShapedOpen C.prog →
  a.holds C.prog (lone (Frame.enter C.prog f args .normal) [] W) →
  Calls C.prog f args W fun e W'=>∃ v,e = .returned v∧s.post enc C.prog fn apart fresh handsOn again W args v W') :
 ReturnsInHanded a C os f .any (fun w args=>(s.pre enc C.prog fn conds apart w args∧X w args)∧sizedMet enc C.prog fn (OpenSpec.ofChange s) apart w args) (s.post enc C.prog fn apart fresh handsOn again):=by
 refine returnsInHanded_of_calls own started noInit witness ?_
 intro w tape i _ hsh _ hok hpre hholds
 obtain ⟨_,_,_,fn',hfn',_,_,_,_,hval⟩:=hok
 have e:fn'=fn:=Option.some.inj (hfn'.symm.trans hfn)
 subst e
 obtain ⟨⟨⟨ds,gs,before,hw,hc⟩,hx⟩,hz⟩:=hpre
 have hw':=DataW.Whole.of_heap (w':=w.forCall tape i) (by rfl) hw
 refine (contract (w.forCall tape i) w.heap.size i.args ds gs before hval hw' hc (hz.weights hw) (hX _ _ _ (by rfl) hx) hsh hholds).mono fun e W' ⟨v,he,hp⟩=>?_
 subst he
 exact ChangeSpec.post_blind hp
end Go.Proofs.YtgalpdihjbinjaaGreatDoor
namespace Go.Proofs.YtgalpdihjbinjaaGreatDoor
open Sw
open Go.ChangeShapes Go.WideShapes Go.RowKit Go.ChangeAt Go.Deep
theorem MappingSources_at (W:World) (v0:Value) (f0:MapD) (n1:Int) (n2:Int) (hf0:MapVal W v0 f0) (hs0:MapIn f0) (hE:EnvM W):Ret Pg 6 #[v0,.int .i64 n1,.int .i64 n2] W fun r w'=>r = .bool true∧Ext W w':=MappingSources_ret W hE v0 f0 n1 n2 hf0
theorem msources_lifted (os:Os) (started:os.Started) (H:Type) (enc:TypeId×Value→H) :
 ReturnsInHanded {} Tryz.checked os 6 .any (fun w args=>(Rows.mappingSourcesSpec.pre enc Pg Tryz.f6 Rows.mappingSourcesRow.domain false w args∧laidMetH Pg role_laid w)∧sizedMet enc Pg Tryz.f6 (OpenSpec.ofChange Rows.mappingSourcesSpec) false w args) (Rows.mappingSourcesSpec.post enc Pg Tryz.f6 false true false false):=by
 refine handed_and (C:=Tryz.checked) (X:=fun w _=>laidMetH Pg role_laid w) (fun _ _ _ hh h=>h.of_heap hh) role_own started Qq Tryz.func6
  (ChangeSpec.witness_shaped (enc:=enc) (C:=Tryz.checked) (os:=os) (X:=fun w _=>laidMetH Pg role_laid w) false (World.laidAll Pg os role_laid) #[.agg #[.string Qy,.slice none 0 0],.int .i64 0,.int .i64 0] 8 (World.laidAll_os _ _ _) (World.shaped_of_ZipB Qq Qq) Qq Qq Qq (role_met os _)) ?_
 intro W base args ds gs before hval hW _ hsz hL hsh _
 have hW':=hW
 obtain ⟨p,q,hA0,hV,rfl,_,_⟩:=hW
 have hA:DataW.TrodAll enc Pg W 0 (fun _=>true) true Tryz.f6.params.toList args.toList ds p:=hA0
 rw [Tryz.params6] at hA hval hsz
 obtain ⟨v0,vs0,d0,ds0,p0,q0,ha0,rfl,rfl,h0,r0⟩:=trodAll_cons hA
 obtain ⟨v1,vs1,d1,ds1,p1,q1,ha1,rfl,rfl,h1,r1⟩:=trodAll_cons r0
 obtain ⟨v2,vs2,d2,ds2,p2,q2,ha2,rfl,rfl,h2,r2⟩:=trodAll_cons r1
 obtain ⟨rfl,rfl,rfl⟩:=trodAll_nil r2
 subst ha2 ha1
 obtain rfl:args = #[v0,v1,v2]:=by cases args;simp_all
 obtain ⟨f0,hf0,hs0⟩:=map_val (hval 0 _ v0 rfl rfl) h0 (reached_of (j:=0) hsz rfl rfl)
 obtain ⟨n1,rfl,_,_,hw1⟩:=open_int Tryz.underlying3 (hval 1 _ v1 rfl rfl) h1
 obtain ⟨n2,rfl,_,_,hw2⟩:=open_int Tryz.underlying3 (hval 2 _ v2 rfl rfl) h2
 refine Calls.mono (MappingSources_at W v0 f0 n1 n2 hf0 hs0 (map_env hsh hL)) fun e W' ⟨v,he,hv,hx⟩=>?_
 subst he hv
 exact ⟨_,rfl,law_post role_laidOut (by decide +kernel) rfl hW' hx rfl Tryz.underlying4 rfl rfl rfl⟩
theorem msources_inPlace:Pg.inPlace 6=Rows.mappingSourcesRow.inPlace:=Qq
theorem msources_unfollowed:Pg.unfollowed 6=Rows.mappingSourcesRow.unfollowed:=Qq
theorem msources_recurses:Pg.recurses 6=Rows.mappingSourcesRow.recurses:=Qq
theorem msources_varsNamed:Pg.varsNamed 6=Rows.mappingSourcesRow.named:=Qq
theorem msources_facts:joinedFacts Pg 6 Tryz.f6 Rows.mappingSourcesSpec Rows.mappingSourcesRow=true:=by
 unfold joinedFacts
 rw [msources_inPlace,msources_unfollowed,msources_recurses,msources_varsNamed]
 kernel_rfl
theorem msources_holds:Rows.MappingSourcesSaid :=
 OpenClaim.holds_of_wide 6 Tryz.f6 rfl rfl rfl rfl rfl rfl rfl ⟨rfl,rfl,rfl,rfl,rfl⟩ rfl rfl rfl rfl rfl Qq Tryz.func6 msources_facts
  (of_decide_eq_true Qq) (by unfold Func.isWrapper;first | (rw [if_pos (by decide +kernel)];kernel_rfl) | (rw [if_neg (by decide +kernel)];exact ⟨rfl,rfl⟩))
  (fun os started H enc _=>msources_lifted os started H enc)
theorem msources_card:Rows.MappingSourcesCardSaid :=
 Claim7.holds_tied_plain_at .later [] [.data,.data,.data,.data,.sentinel,.sentinel,.pinned] true (true, "cedc2496089f77d4df55280aa44dc215bf5ea19b61a6b8ccb76ab88a333a5715") true
  msources_holds (fun _ h=>by cases h) Qq (fun _ h=>by cases h) mappingSources_row_tie rfl ⟨rfl,rfl⟩ Qq rfl
  (fun f fn hf hfn=>by
   obtain rfl:f=6:=Option.some.inj ((show Pg.funcNamed "phrasebook/phrasebooklaw45.MappingSources" = some 6 by kernel_rfl).symm.trans hf) |>.symm
   obtain rfl:fn=Tryz.f6:=(Option.some.inj (Tryz.func6.symm.trans hfn)).symm
   exact ⟨by kernel_rfl,fun j t ht=>by
    rw [Tryz.params6] at ht
    have hm:t∈[24,3,3]:=by simpa using Array.mem_of_getElem? ht
    have hall:([24,3,3].all fun u=>!Pg.wantsStandIn u)=true:=Qq
    exact (show Pg.wantsStandIn t=false by simpa using List.all_eq_true.1 hall t hm)⟩)
  Qq
end Go.Proofs.YtgalpdihjbinjaaGreatDoor
