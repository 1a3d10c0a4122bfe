/-
  phrasebooklaw28.RoleNames returns true for every string, and leaves its arguments as they were; no condition is asked but that the tables of the library lie as the program lays them (the card ties them).
-/
import Derived.Test.YtngflmjncplkaaaGreatDoorUa3
set_option linter.all false
set_option maxHeartbeats 4000000
set_option maxRecDepth 100000
namespace Go.Proofs.YtngflmjncplkaaaGreatDoor
open Sw
open Go.RowKit (intOf Below)
def zeroR:RolD:=⟨ByteArray.empty,[],[],[]⟩
def parseP (text:ByteArray):RolD×Int×Int:=match roleP (linesT text) with
 | (none,n)=>(zeroR,(n:Int),6)
 | (some r,n)=>if n < (linesT text).length then (zeroR,((n+1:Nat):Int),6) else if (checkR r).2=0 then (r,0,0) else (zeroR,0,(checkR r).2)
def RolObj (w:World) (c base:Nat) (r:RolD):Prop:=∃ sv cv tv,w.heap[c]?=some (.cells (rolCells r sv cv tv).toArray TRol (0,0))∧OwnE w base 50 3 staCells sv r.states∧OwnE w base 52 2 cntCells cv r.counters∧OwnE w base 71 9 stpCells tv r.steps
theorem RolObj.keep {w w':World} {c base:Nat} {r:RolD} (h:RolObj w c base r) (hc:w'.heap[c]?=w.heap[c]?) (hk:∀ b,base≤b→b < w.heap.size→w'.heap[b]?=w.heap[b]?):RolObj w' c base r:=by
 obtain ⟨sv,cv,tv,ho,h1,h2,h3⟩:=h
 exact ⟨sv,cv,tv,hc.trans ho,OwnE.keep h1 fun b hb=>hk b (World.ownsRow.lt h1 b hb).1 (World.ownsRow.lt h1 b hb).2,OwnE.keep h2 fun b hb=>hk b (World.ownsRow.lt h2 b hb).1 (World.ownsRow.lt h2 b hb).2,OwnE.keep h3 fun b hb=>hk b (World.ownsRow.lt h3 b hb).1 (World.ownsRow.lt h3 b hb).2⟩
theorem own_one {α:Type} {w:World} {base n:Nat} {T:TypeId} {enc:α→List Value} {v:Value} {l:List α} (h:OwnE w base T n enc v l) (hn:∀ x,(enc x).length=n):v.oneCell'=true:=SliceOf.oneCell (h.slice (E:=fun _ _ _=>True) hn (fun _ _=>trivial))
theorem linesT_len (s:ByteArray):(linesT s).length=(cutW 10 s).length:=by unfold linesT;rw [List.length_map]
theorem ParseS1_all {WB w1:World} {p c B:Nat} {text:ByteArray} {lv:Value} {x0 x1 x2 x3:Value} (hE:EnvOK WB) (eB:Ext WB w1) (hb:WB.heap.size≤p) (hz:text.size≤90000) (hp:p < w1.heap.size) (hr:Rd w1 p (cutW 10 text) 0 [] lv B) (hB:B < w1.heap.size) (hl:∀ A n c',lv = .slice (some A) n c'→A.block < w1.heap.size∧A.block≠c) (hcp:c≠p) {base:Nat} (hbs:base≤w1.heap.size) (ho:w1.heap[c]?=some (.cells #[x0,x1,x2,x3] TRol (0,0))) :
 Calls Pg 51 #[.pointer (some ⟨p,0,none⟩),.pointer (some ⟨c,0,none⟩)] w1 (AllR w1 p c (cutW 10 text) lv (fun w2 at_=>∃ r,roleP (linesT text)=(some r,at_)∧RolObj w2 c base r) (fun w2 n=>roleP (linesT text)=(none,n)∧∃ x0 x1 x2 x3,w2.heap[c]?=some (.cells #[x0,x1,x2,x3] TRol (0,0)))):=by
 obtain ⟨hln,hlz⟩:=lines_small text
 refine n18s ?_
 unfold n18
 have hror:=role_ror hE eB hb (fun x hx=>Nat.le_trans (hlz x hx) (by omega)) (by omega) (Nat.zero_le _) hr hB fun A n c' e=>(hl A n c' e).1
 rw [List.drop_zero] at hror
 refine callK_calls hror (fun v w2 hA=>?_) (fun ch w2 hA=>?_) (fun w2 hA=>?_)
 · obtain ⟨hs,hA⟩:=hA
   have hol:=hs.obj ho (by omega)
   cases hrp:roleP ((cutW 10 text).map spW) with
   | mk o n =>
   rw [hrp] at hA
   cases o with
   | none=>cases hA
   | some r =>
   obtain ⟨v',he,⟨sv,cv,tv,hv,h1,h2,h3⟩,ws,B',hr2,hB2,hB3⟩:=hA
   injection he with he
   subst he hv
   have f1:=own_one h1 (fun _=>rfl)
   have f2:=own_one h2 (fun _=>rfl)
   have f3:=own_one h3 (fun _=>rfl)
   simp (disch:=try exact DI) only [↓PR,QR,simprocAttr,(cells_of_heap hol).1,(cells_of_heap hol).2]
   have o5:((((w2.setCell ⟨c,0,none⟩ (.string r.name)).setCell ⟨c,1,none⟩ sv).setCell ⟨c,2,none⟩ cv).setCell ⟨c,3,none⟩ tv).heap[c]?=some (.cells (rolCells r sv cv tv).toArray TRol (0,0)):=by simpa using heap_set (o:=3) (heap_set (o:=2) (heap_set (o:=1) (heap_set (o:=0) hol (.string r.name)) sv) cv) tv
   have hs5:Save2 p c w1 ((((w2.setCell ⟨c,0,none⟩ (.string r.name)).setCell ⟨c,1,none⟩ sv).setCell ⟨c,2,none⟩ cv).setCell ⟨c,3,none⟩ tv):=((((Save2.of hs).setCell _ _).setCell _ _).setCell _ _).setCell _ _
   have hb5:∀ b,b≠c→((((w2.setCell ⟨c,0,none⟩ (.string r.name)).setCell ⟨c,1,none⟩ sv).setCell ⟨c,2,none⟩ cv).setCell ⟨c,3,none⟩ tv).heap[b]?=w2.heap[b]?:=fun b hb=>by simp only [Only.setCell _ c _ _ b hb]
   have hcl:c < w1.heap.size:=(Array.getElem?_eq_some_iff.1 ho).1
   refine ⟨hs5,.inl ⟨n,ws,B',rfl,?_,?_,r,hrp,sv,cv,tv,o5,(OwnE.keep h1 fun b hb=>hb5 b ?_).base hbs,(OwnE.keep h2 fun b hb=>hb5 b ?_).base hbs,(OwnE.keep h3 fun b hb=>hb5 b ?_).base hbs⟩⟩
   · rw [Nat.zero_add] at hr2
     exact hr2.same (hb5 p (by omega)) (hb5 B' (by omega)) fun A n c' e=>hb5 _ (hl A n c' e).2
   · have:=(roleP_read hrp).2.2.2.2.2;rw [List.length_map] at this;exact this
   · have:=(World.ownsRow.lt h1 b hb).1;omega
   · have:=(World.ownsRow.lt h2 b hb).1;omega
   · have:=(World.ownsRow.lt h3 b hb).1;omega
 · obtain ⟨hs,hA⟩:=hA
   cases hrp:roleP ((cutW 10 text).map spW) with
   | mk o n =>
   rw [hrp] at hA
   cases o with
   | some r=>obtain ⟨v',he,_⟩:=hA;cases he
   | none =>
   injection hA with hA
   subst hA
   refine ⟨Save2.of hs,.inr ⟨n,by simp,hrp,x0,x1,x2,x3,hs.obj ho (by omega)⟩⟩
 · obtain ⟨hs,hA⟩:=hA
   cases hrp:roleP ((cutW 10 text).map spW) with
   | mk o n =>
   rw [hrp] at hA
   cases o with
   | some r=>obtain ⟨v',he,_⟩:=hA;cases he
   | none=>cases hA
theorem roleP_pos {L:List (List ByteArray)} {n:Nat} (h:roleP L=(none,n)):0 < n:=by
 match L,h with
 | [],h=>injection h with _ h;omega
 | []::L,h=>injection h with _ h;omega
 | (k::ws)::L,h =>
  by_cases hk:k=kRole
  case neg=>rw [roleP_eq,if_neg hk] at h;injection h with _ h;omega
  subst hk
  rw [roleP_eq,if_pos rfl] at h
  cases hn:rnameP ws with
  | none=>rw [hn] at h;injection h with _ h;omega
  | some nm =>
  rw [hn] at h
  simp only at h
  unfold countersP at h
  cases hc:manyP kCounter cntP L with
  | mk o k1 =>
  rw [hc] at h
  cases o with
  | none=>injection h with _ h;omega
  | some cs =>
  simp only at h
  unfold statesP at h
  cases hs:manyP kState staP (L.drop k1) with
  | mk o k2 =>
  rw [hs] at h
  cases o with
  | none=>injection h with _ h;omega
  | some ss =>
  unfold stepsP at h
  injection h with _ h
  omega
theorem RolOwn.zero (w:World) (base:Nat):RolOwn w base (.agg #[.string ByteArray.empty,.slice none 0 0,.slice none 0 0,.slice none 0 0]) zeroR:=⟨_,_,_,rfl,OwnE.nil _ _ _ _ _,OwnE.nil _ _ _ _ _,OwnE.nil _ _ _ _ _⟩
theorem Parse_ret {w0:World} {text:ByteArray} (hE:EnvOK w0) (hz:text.size≤90000):Ret Pg 19 #[.string text] w0 fun u w'=>(∃ v,u = .tuple #[v,.int .i64 (parseP text).2.1,.int .i64 (parseP text).2.2]∧RolOwn w' w0.heap.size v (parseP text).1)∧Ext w0 w':=by
 obtain ⟨hln,hlz⟩:=lines_small text
 refine n17s (R:=retR _) ?_;unfold n17
 simp (disch:=try exact DI) only [↓PR,QR,simprocAttr]
 have e0:Ext w0 (World.alloc w0 (.cells #[.string ByteArray.empty,.slice none 0 0,.slice none 0 0,.slice none 0 0] TRol)):=(Ext.refl w0).alloc _
 have ho:=heap_new w0 #[.string ByteArray.empty,.slice none 0 0,.slice none 0 0,.slice none 0 0] TRol
 have s0:(World.alloc w0 (.cells #[.string ByteArray.empty,.slice none 0 0,.slice none 0 0,.slice none 0 0] TRol)).heap.size=w0.heap.size+1:=World.size_alloc ..
 generalize World.alloc w0 _=V at e0 ho s0 ⊢
 generalize hc:w0.heap.size=c at ho s0 ⊢
 refine callK_ret (read_ret (c:=c) (caps := #[.pointer (some ⟨c,0,none⟩)]) (Φ:=fun w2 at_=>∃ r,roleP (linesT text)=(some r,at_)∧RolObj w2 c (V.heap.size+1) r) (Ψ:=fun w2 n=>roleP (linesT text)=(none,n)∧∃ x0 x1 x2 x3,w2.heap[c]?=some (.cells #[x0,x1,x2,x3] TRol (0,0))) (hE.ext e0) hz c51 (by omega) fun w1 p lv B eV h1 h2 hr hB hcB hl=>ParseS1_all (hE.ext e0) eV (by omega) hz h2 hr hB hl (by omega) (by omega) (eV.obj ho)) ?_
 rintro t10 w' ⟨w2,hs,hbl,hsz,⟨ho1,ho2,ho3⟩,hcase⟩
 have hcw:w0.heap.size≤c:=Nat.le_of_eq hc
 have e':Ext w0 w':=⟨ho1.trans e0.os,ho2.trans e0.tape,ho3.trans e0.output,by have:=hs.size;omega,fun b hb=>(hbl b (by omega) (by omega)).trans (e0.block b hb)⟩
 have hcs:w'.heap[c]?=w2.heap[c]?:=hs.block c (by omega) (by omega)
 have bad:∀ (n:Nat) (x0 x1 x2 x3:Value),0 < n→parseP text=(zeroR,(n:Int),6)→w'.heap[c]?=some (.cells #[x0,x1,x2,x3] TRol (0,0))→n17c5 (.pointer (some ⟨c,0,none⟩)) (.int .i64 (n:Int)) (retR fun u w'=>(∃ v,u = .tuple #[v,.int .i64 (parseP text).2.1,.int .i64 (parseP text).2.2]∧RolOwn w' c v (parseP text).1)∧Ext w0 w') w':=by
  intro n x0 x1 x2 x3 hn hpp hob
  have d1:decide ((n:Int) > 0)=true:=decide_eq_true (by omega)
  unfold n17c5
  simp (disch:=try exact DI) only [↓PR,QR,simprocAttr,d1,↓n17c4,(cells_of_heap hob).1,(cells_of_heap hob).2]
  refine ⟨⟨_,by rw [hpp],by rw [hpp];exact RolOwn.zero _ _⟩,?_⟩
  exact (((e'.setCell (p:=⟨c,0,none⟩) hcw _).setCell (p:=⟨c,1,none⟩) hcw _).setCell (p:=⟨c,2,none⟩) hcw _).setCell (p:=⟨c,3,none⟩) hcw _
 rcases hcase with ⟨at_,⟨r,hrp,hob⟩,hat,rfl⟩ | ⟨n,⟨hrp,x0,x1,x2,x3,hob⟩,rfl⟩
 · rw [← linesT_len] at hat ⊢
   obtain ⟨hread,lc,ls,lt,hn1,_⟩:=roleP_read hrp
   by_cases hlt:at_ < (linesT text).length
   · rw [if_pos hlt]
     obtain ⟨sv,cv,tv,hob,_⟩:=hob
     exact bad (at_+1) _ _ _ _ (by omega) (by unfold parseP;rw [hrp];simp only;rw [if_pos hlt]) (hcs.trans hob)
   · rw [if_neg hlt]
     have hpp:parseP text=if (checkR r).2=0 then (r,0,0) else (zeroR,0,(checkR r).2):=by unfold parseP;rw [hrp];simp only;rw [if_neg hlt]
     have hob:=(hob.keep hcs fun b hb hb2=>hs.block b hb2 (by omega))
     obtain ⟨sv,cv,tv,hob,h1,h2,h3⟩:=hob
     have f1:=own_one h1 (fun _=>rfl)
     have f2:=own_one h2 (fun _=>rfl)
     have f3:=own_one h3 (fun _=>rfl)
     have hll:=linesT_len text
     unfold n17c5
     simp (disch:=try exact DI) only [↓PR,QR,simprocAttr,(cells_of_heap hob).1]
     refine zcr (Check_ret w' _ r (RolOwn.val ⟨sv,cv,tv,rfl,h1,h2,h3⟩) hread.sm ⟨by omega,by omega,by omega⟩) fun w3 e3=>?_
     have hob3:=e3.obj hob
     have E3:=e'.trans e3
     by_cases hc0:(checkR r).2=0
     · have d1:((checkR r).2 != 0)=false:=by simp [hc0]
       rw [if_pos hc0] at hpp
       simp (disch:=try exact DI) only [↓PR,QR,simprocAttr,↓n17c3,d1,↓n17c2,(cells_of_heap hob3).1,(cells_of_heap hob3).2]
       have hb5:∀ b,b≠c→((((w3.setCell ⟨c,0,none⟩ (.string r.name)).setCell ⟨c,1,none⟩ sv).setCell ⟨c,2,none⟩ cv).setCell ⟨c,3,none⟩ tv).heap[b]?=w3.heap[b]?:=fun b hb=>by simp only [Only.setCell _ c _ _ b hb]
       refine ⟨⟨_,by rw [hpp],?_⟩,?_⟩
       · rw [hpp]
         refine ⟨sv,cv,tv,rfl,(OwnE.keep (h1.ext e3) fun b hb=>hb5 b ?_).base (by omega),(OwnE.keep (h2.ext e3) fun b hb=>hb5 b ?_).base (by omega),(OwnE.keep (h3.ext e3) fun b hb=>hb5 b ?_).base (by omega)⟩
         · have:=(World.ownsRow.lt h1 b hb).1;omega
         · have:=(World.ownsRow.lt h2 b hb).1;omega
         · have:=(World.ownsRow.lt h3 b hb).1;omega
       · exact (((E3.setCell (p:=⟨c,0,none⟩) hcw _).setCell (p:=⟨c,1,none⟩) hcw _).setCell (p:=⟨c,2,none⟩) hcw _).setCell (p:=⟨c,3,none⟩) hcw _
     · have d1:((checkR r).2 != 0)=true:=by simp [hc0]
       rw [if_neg hc0] at hpp
       simp (disch:=try exact DI) only [↓PR,QR,simprocAttr,↓n17c3,d1,↓n17c1,(cells_of_heap hob3).1,(cells_of_heap hob3).2]
       refine ⟨⟨_,by rw [hpp],by rw [hpp];exact RolOwn.zero _ _⟩,?_⟩
       exact (((E3.setCell (p:=⟨c,0,none⟩) hcw _).setCell (p:=⟨c,1,none⟩) hcw _).setCell (p:=⟨c,2,none⟩) hcw _).setCell (p:=⟨c,3,none⟩) hcw _
 · have hn:0 < n:=roleP_pos hrp
   exact bad n _ _ _ _ hn (by unfold parseP;rw [hrp]) (hcs.trans hob)
theorem one_Counter (x:CntD):∀ u∈cntCells x,u.oneCell'=true:=by
 intro u hu
 simp only [List.mem_cons,List.not_mem_nil,or_false] at hu
 rcases hu with rfl | rfl<;>rfl
theorem Clone_Counter_ret (w0:World) (v:Value) (l:List CntD) (hs:SliceOf w0 2 ECnt v l) (hb:l.length≤1048576) :
 Ret Pg 55 #[v] w0 fun r w'=>OwnE w' w0.heap.size 52 2 cntCells r l∧Ext w0 w':=by
 obtain ⟨A,c,rfl,hlc,hcm,hlm,hel⟩:=SliceOf.open hs
 refine n45s (R:=retR _) ?_;unfold n45
 simp (disch:=try exact DI) only [↓PR,QR,simprocAttr]
 cases A with
 | none =>
  have:l=[]:=by
   cases l with
   | nil=>rfl
   | cons x l=>obtain ⟨_,_,_,h,_⟩:=hel 0 x rfl;cases h
  subst this
  simp only [Option.isNone_none]
  simp (disch:=try exact DI) only [↓PR,QR,simprocAttr]
  exact ⟨OwnE.nil _ _ _ _ _,ee⟩
 | some a =>
  simp only [Option.isNone_some]
  simp (disch:=try exact DI) only [↓PR,QR,simprocAttr]
  have hO:=OwnE.new w0 52 2 cntCells [] (fun x=>rfl) (by simp)
  simp only [List.flatMap_nil,List.length_nil] at hO
  have eW:Ext w0 (w0.alloc (.cells #[] 52)):=ee
  have hsz:w0.heap.size≤(w0.alloc (.cells #[] 52)).heap.size:=eW.size
  generalize w0.alloc (.cells #[] 52)=W at hO eW hsz ⊢
  cases hcs:l with
  | nil =>
   subst hcs
   simp only [List.length_nil]
   rw [op_append0 Tryz.underlying23 ty52 _ _ _ _ _ (Nat.le_refl 0)]
   simp (disch:=try exact DI) only [↓PR,QR,simprocAttr]
   exact ⟨hO,eW⟩
  | cons x0 l0 =>
   obtain ⟨b,o,_,hA,_⟩:=hel 0 x0 (by rw [hcs];rfl)
   injection hA with hA
   subst hA
   rw [← hcs]
   refine op_appendE Tryz.underlying23 ty52 rfl (by decide) (fun x=>rfl) (fun x _=>one_Counter x) hO (fun j x hx=>?_) hsz ?_ (by simp;omega) ?_
   · obtain ⟨b',o',cs,hA',hl',hE,rfl⟩:=hel j x hx
     injection hA' with hA'
     injection hA' with h3 h4
     subst h3 h4
     exact hE.ext eW
   · have:=by52
     rw [List.length_nil,Nat.zero_add]
     exact Nat.le_trans (Nat.mul_le_mul hb this) (by decide)
   · intro v' w' ho hg
     simp (disch:=try exact DI) only [↓PR,QR,simprocAttr]
     refine ⟨ho,eW.grown hg ?_⟩
     intro k hk
     have h:=hO.lt k hk
     exact h.1
theorem one_State (x:StaD):∀ u∈staCells x,u.oneCell'=true:=by
 intro u hu
 simp only [List.mem_cons,List.not_mem_nil,or_false] at hu
 rcases hu with rfl | rfl | rfl<;>rfl
theorem Clone_State_ret (w0:World) (v:Value) (l:List StaD) (hs:SliceOf w0 3 ESta v l) (hb:l.length≤1048576) :
 Ret Pg 56 #[v] w0 fun r w'=>OwnE w' w0.heap.size 50 3 staCells r l∧Ext w0 w':=by
 obtain ⟨A,c,rfl,hlc,hcm,hlm,hel⟩:=SliceOf.open hs
 refine n46s (R:=retR _) ?_;unfold n46
 simp (disch:=try exact DI) only [↓PR,QR,simprocAttr]
 cases A with
 | none =>
  have:l=[]:=by
   cases l with
   | nil=>rfl
   | cons x l=>obtain ⟨_,_,_,h,_⟩:=hel 0 x rfl;cases h
  subst this
  simp only [Option.isNone_none]
  simp (disch:=try exact DI) only [↓PR,QR,simprocAttr]
  exact ⟨OwnE.nil _ _ _ _ _,ee⟩
 | some a =>
  simp only [Option.isNone_some]
  simp (disch:=try exact DI) only [↓PR,QR,simprocAttr]
  have hO:=OwnE.new w0 50 3 staCells [] (fun x=>rfl) (by simp)
  simp only [List.flatMap_nil,List.length_nil] at hO
  have eW:Ext w0 (w0.alloc (.cells #[] 50)):=ee
  have hsz:w0.heap.size≤(w0.alloc (.cells #[] 50)).heap.size:=eW.size
  generalize w0.alloc (.cells #[] 50)=W at hO eW hsz ⊢
  cases hcs:l with
  | nil =>
   subst hcs
   simp only [List.length_nil]
   rw [op_append0 Tryz.underlying22 ty50 _ _ _ _ _ (Nat.le_refl 0)]
   simp (disch:=try exact DI) only [↓PR,QR,simprocAttr]
   exact ⟨hO,eW⟩
  | cons x0 l0 =>
   obtain ⟨b,o,_,hA,_⟩:=hel 0 x0 (by rw [hcs];rfl)
   injection hA with hA
   subst hA
   rw [← hcs]
   refine op_appendE Tryz.underlying22 ty50 rfl (by decide) (fun x=>rfl) (fun x _=>one_State x) hO (fun j x hx=>?_) hsz ?_ (by simp;omega) ?_
   · obtain ⟨b',o',cs,hA',hl',hE,rfl⟩:=hel j x hx
     injection hA' with hA'
     injection hA' with h3 h4
     subst h3 h4
     exact hE.ext eW
   · have:=by50
     rw [List.length_nil,Nat.zero_add]
     exact Nat.le_trans (Nat.mul_le_mul hb this) (by decide)
   · intro v' w' ho hg
     simp (disch:=try exact DI) only [↓PR,QR,simprocAttr]
     refine ⟨ho,eW.grown hg ?_⟩
     intro k hk
     have h:=hO.lt k hk
     exact h.1
theorem one_Step (x:StpD):∀ u∈stpCells x,u.oneCell'=true:=by
 intro u hu
 simp only [List.mem_cons,List.not_mem_nil,or_false] at hu
 rcases hu with rfl | rfl | rfl | rfl | rfl | rfl | rfl | rfl | rfl<;>rfl
theorem OwnE.setE {α:Type} {w:World} {lo n g cap len:Nat} {T:TypeId} {enc:α→List Value} {l:List α} (hn:∀ x,(enc x).length=n) (h:OwnE w lo T n enc (.slice (some ⟨g,0,none⟩) len cap) l) {k:Nat} {x y:α} (hk:l[k]?=some x) {j:Nat} (hj:j < n) (u:Value) (hy:enc y=(enc x).set j u) :
 OwnE (w.setCell ⟨g,k*n+j,none⟩ u) lo T n enc (.slice (some ⟨g,0,none⟩) len cap) (l.set k y):=by
 have key:∀ m:List α,OwnE w lo T n (Subtype.val:Cs n→List Value) (.slice (some ⟨g,0,none⟩) len cap) (m.map fun x=>⟨enc x,hn x⟩)↔OwnE w lo T n enc (.slice (some ⟨g,0,none⟩) len cap) m:=fun m=>by
  unfold OwnE
  rw [List.length_map,List.flatMap_map]
 have h1:=OwnE.set ((key l).2 h) (k:=k) (cs:=⟨enc x,hn x⟩) (by rw [List.getElem?_map,hk];rfl) hj u
 have h2:((l.map fun x=>(⟨enc x,hn x⟩:Cs n)).set k ⟨(enc x).set j u,by simp [hn x]⟩)=(l.set k y).map fun x=>⟨enc x,hn x⟩:=by
  rw [List.map_set]
  congr 1
  exact Subtype.ext hy.symm
 rw [h2] at h1
 have key':∀ (w:World) (m:List α),OwnE w lo T n (Subtype.val:Cs n→List Value) (.slice (some ⟨g,0,none⟩) len cap) (m.map fun x=>⟨enc x,hn x⟩)↔OwnE w lo T n enc (.slice (some ⟨g,0,none⟩) len cap) m:=fun w m=>by
  unfold OwnE
  rw [List.length_map,List.flatMap_map]
 exact (key' _ _).1 h1
def n20c1 (t8 t11:Value) (K8:World→Prop) (R:RT) (w:World):Prop :=
 opV Pg (Instr.fieldAt 26 t8 3) (panK R) w fun t83 w =>
 opV Pg (Instr.loadAt 24 t83) (panK R) w fun t84 w =>
 opV Pg (Instr.loadAt 71 t11) (panK R) w fun t85 w =>
 opV Pg (Instr.buildSlice 24 1 #[(0,t85)]) (panK R) w fun t86 w =>
 opV Pg (Builtin.append_ #[24,24] 24 #[t84,t86]) (panK R) w fun t87 w =>
 opV Pg (Instr.fieldAt 26 t8 3) (panK R) w fun t88 w =>
 opU Pg (Instr.storeAt 24 t88 t87) (panK R) w fun w =>
 K8 w
def n20c2 (t8 t11 t54 t81:Value) (next5:KV) (R:RT) (w:World):Prop :=
 opV Pg (Op.unary .not t81) (panK R) w fun t82 w =>
 joinK (fun (w:World) =>
 opV Pg (binS .add 3 true t54 (.int .i64 1)) (panK R) w fun t89 w =>
 next5 t89 w) fun K8 =>
 condP t82 (
 n20c1 t8 t11 K8 R w) (
 K8 w)
def n20c3 (t8 t11 t54:Value) (next5:KV) (R:RT) (w:World):Prop :=
 opV Pg (Instr.fieldAt 26 t8 3) (panK R) w fun t78 w =>
 opV Pg (Instr.loadAt 24 t78) (panK R) w fun t79 w =>
 opV Pg (Instr.loadAt 71 t11) (panK R) w fun t80 w =>
 callK Pg 57 #[t79,t80] (panK R) w fun t81 w =>
 n20c2 t8 t11 t54 t81 next5 R w
def n20c4 (t11 t70 t72 t73:Value) (C9:World→Prop) (K10:World→Prop) (R:RT) (w:World):Prop :=
 opU Pg (Instr.storeAt 69 t73 t70) (panK R) w fun w =>
 C9 w∧(
 qV Pg C9 (Instr.fieldAt 71 t11 4) fun t74 =>
 opU Pg (Instr.storeAt 9 t74 t72) (panK R) w fun w =>
 turnK w fun C11 w =>
 K10 w)
def n20c5 (t11 t71:Value) (C9:World→Prop) (K10:World→Prop) (R:RT) (w:World):Prop :=
 opV Pg (Instr.loadAt 9 t71) (panK R) w fun t72 w =>
 C9 w∧(
 qV Pg C9 (Instr.fieldAt 71 t11 4) fun t74 =>
 opU Pg (Instr.storeAt 9 t74 t72) (panK R) w fun w =>
 turnK w fun C12 w =>
 K10 w)
def n20c6 (t11 t69 t71:Value) (C9:World→Prop) (K10:World→Prop) (R:RT) (w:World):Prop :=
 qV Pg C9 (binS .sub 69 true (.int .i64 3) t69) fun t70 =>
 qV Pg C9 (Instr.fieldAt 71 t11 2) fun t73 =>
 (
 opV Pg (Instr.loadAt 9 t71) (panK R) w fun t72 w =>
 C9 w∧(
 n20c4 t11 t70 t72 t73 C9 K10 R w))∧(
 opU Pg (Instr.storeAt 69 t73 t70) (panK R) w fun w =>
 C9 w∧(
 n20c5 t11 t71 C9 K10 R w))
def n20c7 (t11 t69 t72:Value) (C9:World→Prop) (K10:World→Prop) (R:RT) (w:World):Prop :=
 qV Pg C9 (binS .sub 69 true (.int .i64 3) t69) fun t70 =>
 qV Pg C9 (Instr.fieldAt 71 t11 2) fun t73 =>
 opU Pg (Instr.storeAt 69 t73 t70) (panK R) w fun w =>
 C9 w∧(
 qV Pg C9 (Instr.fieldAt 71 t11 4) fun t74 =>
 opU Pg (Instr.storeAt 9 t74 t72) (panK R) w fun w =>
 turnK w fun C13 w =>
 K10 w)
def n20c8 (t2 t11:Value) (C9:World→Prop) (K7:World→Prop) (R:RT) (w:World):Prop :=
 qV Pg C9 (Instr.fieldAt 71 t11 2) fun t68 =>
 qV Pg C9 (Instr.fieldAt 26 t2 0) fun t71 =>
 joinK (fun (w:World) =>
 K7 w) fun K10 =>
 (
 opV Pg (Instr.loadAt 69 t68) (panK R) w fun t69 w =>
 C9 w∧(
 n20c6 t11 t69 t71 C9 K10 R w))∧(
 opV Pg (Instr.loadAt 9 t71) (panK R) w fun t72 w =>
 C9 w∧(
 opV Pg (Instr.loadAt 69 t68) (panK R) w fun t69 w =>
 C9 w∧(
 n20c7 t11 t69 t72 C9 K10 R w)))
def n20c9 (t4:Value) (R:RT) (w:World):Prop :=
 opV Pg (Instr.build 26 #[]) (panK R) w fun t67 w =>
 opU Pg (Instr.storeAt 26 t4 t67) (panK R) w fun w =>
 qW Pg 26 t4 w fun r0 =>
 R (.returned (.tuple #[r0,(.int .i64 2)])) w
def n20c10 (t1 t2 t4 t11:Value) (K7:World→Prop) (R:RT) (w:World):Prop :=
 opV Pg (Instr.fieldAt 71 t11 4) (panK R) w fun t63 w =>
 opV Pg (Instr.loadAt 9 t63) (panK R) w fun t64 w =>
 opV Pg (binS .neq 9 false t64 t1) (panK R) w fun t66 w =>
 condP t66 (
 n20c9 t4 R w) (
 drawK w fun C9 w =>
 n20c8 t2 t11 C9 K7 R w)
def n20c11 (t11 t59:Value) (K7:World→Prop) (R:RT) (w:World):Prop :=
 opV Pg (binS .eql 69 true t59 (.int .i64 3)) (panK R) w fun t76 w =>
 condP t76 (
 opV Pg (Instr.fieldAt 71 t11 2) (panK R) w fun t77 w =>
 opU Pg (Instr.storeAt 69 t77 (.int .i64 4)) (panK R) w fun w =>
 K7 w) (
 K7 w)
def n20c12 (t4 t8:Value) (R:RT) (w:World):Prop :=
 opV Pg (Instr.loadAt 26 t8) (panK R) w fun t90 w =>
 opU Pg (Instr.storeAt 26 t4 t90) (panK R) w fun w =>
 qW Pg 26 t4 w fun r0 =>
 R (.returned (.tuple #[r0,(.int .i64 0)])) w
def n20c13 (t1 t2 t4 t8 t52 t54:Value) (next5:KV) (R:RT) (w:World):Prop :=
 opV Pg (Instr.indexAt 24 t52 t54) (panK R) w fun t56 w =>
 opV Pg (Instr.loadAt 71 t56) (panK R) w fun t57 w =>
 opV Pg (Instr.alloc 71 true (.tuple #[])) (panK R) w fun t11 w =>
 opU Pg (Instr.storeAt 71 t11 t57) (panK R) w fun w =>
 opV Pg (Instr.fieldAt 71 t11 2) (panK R) w fun t58 w =>
 opV Pg (Instr.loadAt 69 t58) (panK R) w fun t59 w =>
 opV Pg (binS .eql 69 true t59 (.int .i64 1)) (panK R) w fun t61 w =>
 joinK (fun (t60:Value) (w:World) =>
 joinK (fun (w:World) =>
 n20c3 t8 t11 t54 next5 R w) fun K7 =>
 condP t60 (
 n20c10 t1 t2 t4 t11 K7 R w) (
 n20c11 t11 t59 K7 R w)) fun K6 =>
 condP t61 (
 K6 t61 w) (
 opV Pg (binS .eql 69 true t59 (.int .i64 2)) (panK R) w fun t62 w =>
 K6 t62 w)
def n20c14 (t1 t2 t4 t8:Value) (R:RT) (w:World):Prop :=
 opV Pg (Instr.fieldAt 26 t2 3) (panK R) w fun t51 w =>
 opV Pg (Instr.loadAt 24 t51) (panK R) w fun t52 w =>
 opV Pg (Builtin.len_ #[24] 3 #[t52]) (panK R) w fun t53 w =>
 loop1 (fun t54 w next5 =>
 opV Pg (binS .lss 3 false t54 t53) (panK R) w fun t55 w =>
 condP t55 (
 n20c13 t1 t2 t4 t8 t52 t54 next5 R w) (
 n20c12 t4 t8 R w)) (.int .i64 0) w
def n20c15 (t8 t42:Value) (next4:KV) (R:RT) (w:World):Prop :=
 opV Pg (Instr.fieldAt 26 t8 1) (panK R) w fun t45 w =>
 opV Pg (Instr.loadAt 22 t45) (panK R) w fun t46 w =>
 opV Pg (Instr.indexAt 22 t46 t42) (panK R) w fun t48 w =>
 opV Pg (Instr.fieldAt 50 t48 2) (panK R) w fun t49 w =>
 opU Pg (Instr.storeAt 3 t49 (.int .i64 0)) (panK R) w fun w =>
 opV Pg (binS .add 3 true t42 (.int .i64 1)) (panK R) w fun t50 w =>
 next4 t50 w
def n20c16 (t1 t2 t4 t8:Value) (R:RT) (w:World):Prop :=
 opV Pg (Instr.fieldAt 26 t8 1) (panK R) w fun t39 w =>
 opV Pg (Instr.loadAt 22 t39) (panK R) w fun t40 w =>
 opV Pg (Builtin.len_ #[22] 3 #[t40]) (panK R) w fun t41 w =>
 loop1 (fun t42 w next4 =>
 opV Pg (binS .lss 3 false t42 t41) (panK R) w fun t43 w =>
 condP t43 (
 n20c15 t8 t42 next4 R w) (
 n20c14 t1 t2 t4 t8 R w)) (.int .i64 0) w
def n20c17 (t1 t34 t37:Value) (C2:World→Prop) (K3:KV) (R:RT) (w:World):Prop :=
 qV Pg C2 (Instr.build 26 #[(0,t1),(2,t34),(1,t37)]) fun t38 =>
 opV Pg (Instr.alloc 26 true (.tuple #[])) (panK R) w fun t8 w =>
 C2 w∧(
 opU Pg (Instr.storeAt 26 t8 t38) (panK R) w fun w =>
 turnK w fun C14 w =>
 K3 t8 w)
def n20c18 (t1 t8 t34 t36:Value) (C2:World→Prop) (K3:KV) (R:RT) (w:World):Prop :=
 callK Pg 56 #[t36] (panK R) w fun t37 w =>
 C2 w∧(
 qV Pg C2 (Instr.build 26 #[(0,t1),(2,t34),(1,t37)]) fun t38 =>
 opU Pg (Instr.storeAt 26 t8 t38) (panK R) w fun w =>
 turnK w fun C15 w =>
 K3 t8 w)
def n20c19 (t1 t34 t36:Value) (C2:World→Prop) (K3:KV) (R:RT) (w:World):Prop :=
 (
 callK Pg 56 #[t36] (panK R) w fun t37 w =>
 C2 w∧(
 n20c17 t1 t34 t37 C2 K3 R w))∧(
 opV Pg (Instr.alloc 26 true (.tuple #[])) (panK R) w fun t8 w =>
 C2 w∧(
 n20c18 t1 t8 t34 t36 C2 K3 R w))
def n20c20 (t1 t8 t34 t36:Value) (C2:World→Prop) (K3:KV) (R:RT) (w:World):Prop :=
 callK Pg 56 #[t36] (panK R) w fun t37 w =>
 C2 w∧(
 qV Pg C2 (Instr.build 26 #[(0,t1),(2,t34),(1,t37)]) fun t38 =>
 opU Pg (Instr.storeAt 26 t8 t38) (panK R) w fun w =>
 turnK w fun C16 w =>
 K3 t8 w)
def n20c21 (t1 t2 t4:Value) (C2:World→Prop) (R:RT) (w:World):Prop :=
 qV Pg C2 (Instr.fieldAt 26 t2 2) fun t32 =>
 qV Pg C2 (Instr.loadAt 23 t32) fun t33 =>
 qV Pg C2 (Instr.fieldAt 26 t2 1) fun t35 =>
 qV Pg C2 (Instr.loadAt 22 t35) fun t36 =>
 joinK (fun (t8:Value) (w:World) =>
 n20c16 t1 t2 t4 t8 R w) fun K3 =>
 (
 callK Pg 55 #[t33] (panK R) w fun t34 w =>
 C2 w∧(
 n20c19 t1 t34 t36 C2 K3 R w))∧(
 opV Pg (Instr.alloc 26 true (.tuple #[])) (panK R) w fun t8 w =>
 C2 w∧(
 callK Pg 55 #[t33] (panK R) w fun t34 w =>
 C2 w∧(
 n20c20 t1 t8 t34 t36 C2 K3 R w)))
def n20c22 (t4:Value) (R:RT) (w:World):Prop :=
 opV Pg (Instr.build 26 #[]) (panK R) w fun t30 w =>
 opU Pg (Instr.storeAt 26 t4 t30) (panK R) w fun w =>
 qW Pg 26 t4 w fun r0 =>
 R (.returned (.tuple #[r0,(.int .i64 2)])) w
def n20c23 (t1 t2 t4 t22:Value) (R:RT) (w:World):Prop :=
 opV Pg (Op.unary .not t22) (panK R) w fun t23 w =>
 joinK (fun (t28:Value) (w:World) =>
 pickK t23 (.bool true) t28 fun t29 =>
 condP t29 (
 n20c22 t4 R w) (
 drawK w fun C2 w =>
 n20c21 t1 t2 t4 C2 R w)) fun K1 =>
 guardP t23 false (
 opV Pg (Instr.fieldAt 26 t2 0) (panK R) w fun t26 w =>
 opV Pg (Instr.loadAt 9 t26) (panK R) w fun t27 w =>
 opV Pg (binS .eql 9 false t1 t27) (panK R) w fun t28 w =>
 K1 t28 w) (
 K1 undef w)
def n20c24 (t1 t2 t4 t14:Value) (R:RT) (w:World):Prop :=
 opV Pg (Instr.extract t14 0) (panK R) w fun t15 w =>
 opV Pg (Instr.extract t14 1) (panK R) w fun t16 w =>
 opV Pg (binS .neq 29 true t16 (.int .i64 0)) (panK R) w fun t18 w =>
 condP t18 (
 opV Pg (Instr.build 26 #[]) (panK R) w fun t19 w =>
 opU Pg (Instr.storeAt 26 t4 t19) (panK R) w fun w =>
 qW Pg 26 t4 w fun r0 =>
 R (.returned (.tuple #[r0,t16])) w) (
 callK Pg 17 #[t1] (panK R) w fun t22 w =>
 n20c23 t1 t2 t4 t22 R w)
def n20 (t0 t1:Value) (R:RT) (w:World):Prop :=
 opV Pg (Instr.box 26 t0) (panK R) w fun t2 w =>
 opV Pg (Instr.alloc 26 true (.tuple #[])) (panK R) w fun t4 w =>
 opV Pg (Instr.loadAt 26 t2) (panK R) w fun t13 w =>
 callK Pg 12 #[t13] (panK R) w fun t14 w =>
 n20c24 t1 t2 t4 t14 R w
set_option maxHeartbeats 40000000 in
theorem n20s {t0 t1:Value} {R:RT} {w:World} (h:n20 t0 t1 R w):Calls Pg 23 #[t0,t1] w R:=by
 refine yD Tryz.func23 ?_
 refine zs<|zr<|yv h fun _ w h=>yv h fun _ w h=>zm<|zn<|zk<|zs<|zs<|zr<|yv h fun _ w h=>yc h c12 fun _ w h=>zm<|yv h fun _ w h=>yv h fun _ w h=>?_
 refine zm<|zm<|zn<|zk<|zs<|zr<|zm<|yb h fun _ w h=>zn<|zk<|yC h (fun h=>zs<|zr<|yB h fun _ w h=>zm<|yu h fun w h=>zm<|zn<|zk<|sim_ret<|sim_then_ret<|body_retCT rfl rfl rfl h) fun h=>sim_skip<|zk<|zs ?_
 refine zs<|sim_regionG<|yG 4<|zm<|yc h c17 fun _ w h=>yv h fun _ w h=>zm<|zn<|yg1 4 3 false [25,26,27,28] 28 h (fun _ T hT h=>?_) fun σ w h=>?_
 · refine zm<|yv h fun _ w h=>yv h fun _ w h=>yb h fun _ w h=>zn ?_
   exact zt hT h
 refine yG 1<|yp h fun _ h=>zn<|sim_end<|zk<|yC h (fun h=>zs<|zr<|yB h fun _ w h=>yu h fun w h=>zm<|zn<|zk<|sim_ret<|sim_then_ret<|body_retCT rfl rfl rfl h) fun h=>sim_skip<|zk<|zs<|yh [8,31,32,33,34,35,36,37,38] h fun C hC h=>yw 0 hC ?_
 refine ye 1 hC h fun _ h=>?_
 refine ye 2 hC h fun _ h=>?_
 refine ye 4 hC h fun _ h=>?_
 refine ye 5 hC h fun _ h=>?_
 refine joinK_elim h (fun K3 hK h=>?_)
 refine sim_dmeet [8,34,37,38] (fun ρ w=>K3 (ρ 8) w) (fun T hT=>?_) (fun σ w h=>?_)
 · obtain ⟨h0,h1⟩:=h
   refine sim_dloud2 3 8 rfl rfl (by kernel_rfl) (fun _ _=>rfl) (fun _ _=>rfl) ?_ ?_
   · have h:=h0
     refine yc h c55 fun _ w h=>zn ?_
     obtain ⟨hC,h⟩:=h
     refine ⟨_,fun _ h=>h,hC,?_⟩
     obtain ⟨h0,h1⟩:=h
     refine sim_dloud2 6 8 rfl rfl (by kernel_rfl) (fun _ _=>rfl) (fun _ _=>rfl) ?_ ?_
     · have h:=h0
       refine yc h c56 fun _ w h=>zn ?_
       obtain ⟨hC,h⟩:=h
       refine ⟨_,fun _ h=>h,hC,?_⟩
       refine ye 7 hC h fun _ h=>?_
       refine yo 8 ?_
       refine yv h fun _ w h=>zn ?_
       obtain ⟨hC,h⟩:=h
       refine ⟨hC,?_⟩
       refine yq 9 1 ?_
       refine yu h fun w h=>zn ?_
       obtain ⟨C14,hC,h⟩:=h
       refine ⟨C14,hC,?_⟩
       refine yz ?_
       exact zt hT h
     have h:=h1
     refine yv h fun _ w h=>zn ?_
     obtain ⟨hC,h⟩:=h
     refine ⟨_,fun _ h=>h,hC,?_⟩
     refine yo 6 ?_
     refine yc h c56 fun _ w h=>zn ?_
     obtain ⟨hC,h⟩:=h
     refine ⟨hC,?_⟩
     refine ye 7 hC h fun _ h=>?_
     refine yq 9 1 ?_
     refine yu h fun w h=>zn ?_
     obtain ⟨C15,hC,h⟩:=h
     refine ⟨C15,hC,?_⟩
     refine yz ?_
     exact zt hT h
   have h:=h1
   refine yv h fun _ w h=>zn ?_
   obtain ⟨hC,h⟩:=h
   refine ⟨_,fun _ h=>h,hC,?_⟩
   refine yo 3 ?_
   refine yc h c55 fun _ w h=>zn ?_
   obtain ⟨hC,h⟩:=h
   refine ⟨hC,?_⟩
   refine yo 6 ?_
   refine yc h c56 fun _ w h=>zn ?_
   obtain ⟨hC,h⟩:=h
   refine ⟨hC,?_⟩
   refine ye 7 hC h fun _ h=>?_
   refine yq 9 1 ?_
   refine yu h fun w h=>zn ?_
   obtain ⟨C16,hC,h⟩:=h
   refine ⟨C16,hC,?_⟩
   refine yz ?_
   exact zt hT h
 subst hK
 refine zk<|zs<|zs<|zr<|yv h fun _ w h=>yv h fun _ w h=>yx h fun _ w h=>zm<|zn<|zk<|sim_block<|yl1 [9,42,43,44,45,46,47,48,49,50] 42 h fun σ w next h=>zs<|zr<|yb h fun _ w h=>?_
 refine zn<|zk<|zs<|yC h (fun h=>?_) fun h=>?_
 · refine sim_skip<|zk<|zs<|sim_block<|zs<|zr<|zm<|zm<|zn<|zk<|zr<|yv h fun _ w h=>yv h fun _ w h=>zm<|yv h fun _ w h=>?_
   exact yv h fun _ w h=>yu h fun w h=>zn<|sim_block_normal<|zk<|zr<|yb h fun _ w h=>zm<|zn<|zk<|⟨rfl,h⟩
 refine sim_exit<|sim_then_exit<|sim_then_exit<|sim_block_hit<|zk<|zs<|zs<|zr<|yv h fun _ w h=>yv h fun _ w h=>yx h fun _ w h=>zm<|zn<|zk<|sim_block ?_
 refine yl1 [5,11,54,55,56,57,58,59,60,61,62,63,64,65,66,67,68,69,70,71,72,73,74,75,76,77,78,79,80,81,82,83,84,85,86,87,88,89] 54 h fun σ w next h=>zs<|zr<|yb h fun _ w h=>zn<|zk<|zs<|yC h (fun h=>?_) fun h=>?_
 · refine sim_skip<|zk<|zs<|sim_block<|zs<|zr<|yv h fun _ w h=>yv h fun _ w h=>yv h fun _ w h=>yu h fun w h=>zn<|zk<|zs<|zs<|zr ?_
   refine yv h fun _ w h=>yv h fun _ w h=>zn<|zk<|sim_block<|zs<|zs<|zr<|yb h fun _ w h=>zm<|zn<|zk<|yJ1 [60,62] 60 h (fun _ _ hkK6 h=>?_) fun σ w h=>?_
   · refine yC h (fun h=>?_) fun h=>?_
     · refine sim_skip<|zk ?_
       exact zt hkK6 h
     refine zr<|yb h fun _ w h=>zm<|zn<|zk ?_
     exact zt hkK6 h
   refine zk<|yJ0 [5,63,64,65,66,67,68,69,70,71,72,73,74,75,76,77] h (fun _ _ hkK7 h=>?_) fun σ w h=>?_
   · refine yC h (fun h=>?_) fun h=>?_
     · refine zs<|zs<|zr<|yv h fun _ w h=>yv h fun _ w h=>zm<|yb h fun _ w h=>zn<|zk<|yC h (fun h=>?_) fun h=>?_
       · refine zs<|zr<|yB h fun _ w h=>yu h fun w h=>zm<|zn<|zk<|sim_ret<|sim_then_ret<|sim_then_ret<|sim_block_ret<|sim_then_ret<|sim_block_ret<|sim_then_ret<|sim_then_ret ?_
         exact sim_block_ret<|sim_then_ret<|body_retCT rfl rfl rfl h
       refine sim_skip<|zk<|yh [68,69,70,71,72,73,74] h fun C hC h=>ye 0 hC h fun _ h=>?_
       refine ye 3 hC h fun _ h=>?_
       refine joinK_elim h (fun K10 hK h=>?_)
       refine sim_dmeet [69,70,72,73,74] (fun ρ w=>K10 w) (fun T hT=>?_) (fun σ w h=>?_)
       · obtain ⟨h0,h1⟩:=h
         refine sim_dloud2 1 4 rfl rfl (by kernel_rfl) (fun _ _=>rfl) (fun _ _=>rfl) ?_ ?_
         · have h:=h0
           refine yv h fun _ w h=>zn ?_
           obtain ⟨hC,h⟩:=h
           refine ⟨_,fun _ h=>h,hC,?_⟩
           refine ye 2 hC h fun _ h=>?_
           refine ye 5 hC h fun _ h=>?_
           obtain ⟨h0,h1⟩:=h
           refine sim_dloud2 4 6 rfl rfl (by kernel_rfl) (fun _ _=>rfl) (fun _ _=>rfl) ?_ ?_
           · have h:=h0
             refine yv h fun _ w h=>zn ?_
             obtain ⟨hC,h⟩:=h
             refine ⟨_,fun _ h=>h,hC,?_⟩
             refine yo 6 ?_
             refine yu h fun w h=>zn ?_
             obtain ⟨hC,h⟩:=h
             refine ⟨hC,?_⟩
             refine ye 7 hC h fun _ h=>?_
             refine yq 8 1 ?_
             refine yu h fun w h=>zn ?_
             obtain ⟨C11,hC,h⟩:=h
             refine ⟨C11,hC,?_⟩
             refine yz ?_
             exact zt hT h
           have h:=h1
           refine yu h fun w h=>zn ?_
           obtain ⟨hC,h⟩:=h
           refine ⟨_,fun _ h=>h,hC,?_⟩
           refine yo 4 ?_
           refine yv h fun _ w h=>zn ?_
           obtain ⟨hC,h⟩:=h
           refine ⟨hC,?_⟩
           refine ye 7 hC h fun _ h=>?_
           refine yq 8 1 ?_
           refine yu h fun w h=>zn ?_
           obtain ⟨C12,hC,h⟩:=h
           refine ⟨C12,hC,?_⟩
           refine yz ?_
           exact zt hT h
         have h:=h1
         refine yv h fun _ w h=>zn ?_
         obtain ⟨hC,h⟩:=h
         refine ⟨_,fun _ h=>h,hC,?_⟩
         refine yo 1 ?_
         refine yv h fun _ w h=>zn ?_
         obtain ⟨hC,h⟩:=h
         refine ⟨hC,?_⟩
         refine ye 2 hC h fun _ h=>?_
         refine ye 5 hC h fun _ h=>?_
         refine yo 6 ?_
         refine yu h fun w h=>zn ?_
         obtain ⟨hC,h⟩:=h
         refine ⟨hC,?_⟩
         refine ye 7 hC h fun _ h=>?_
         refine yq 8 1 ?_
         refine yu h fun w h=>zn ?_
         obtain ⟨C13,hC,h⟩:=h
         refine ⟨C13,hC,?_⟩
         refine yz ?_
         exact zt hT h
       subst hK
       refine zk ?_
       exact zt hkK7 h
     refine zs<|zr<|yb h fun _ w h=>zm<|zn<|zk<|yC h (fun h=>?_) fun h=>?_
     · refine zr<|yv h fun _ w h=>yu h fun w h=>zn<|zk ?_
       exact zt hkK7 h
     refine sim_skip<|zk ?_
     exact zt hkK7 h
   refine sim_block_normal<|zk<|zs<|zr<|yv h fun _ w h=>yv h fun _ w h=>yv h fun _ w h=>yc h c57 fun _ w h=>yv h fun _ w h=>zn<|zk<|yJ0 [83,84,85,86,87,88] h (fun _ _ hkK8 h=>?_) fun σ w h=>?_
   · refine yC h (fun h=>?_) fun h=>?_
     · refine zr<|yv h fun _ w h=>yv h fun _ w h=>yv h fun _ w h=>yS h fun _ w h=>yx h fun _ w h=>yv h fun _ w h=>yu h fun w h=>zn<|zk ?_
       exact zt hkK8 h
     refine sim_skip<|zk ?_
     exact zt hkK8 h
   exact sim_block_normal<|zk<|zr<|yb h fun _ w h=>zm<|zn<|zk<|⟨rfl,h⟩
 exact sim_exit<|sim_then_exit<|sim_then_exit<|sim_block_hit<|zk<|zs<|zr<|yv h fun _ w h=>yu h fun w h=>zm<|zn<|zk<|sim_ret<|body_retCT rfl rfl rfl h
def flipS (nm:ByteArray) (s:StpD):StpD:=if speaksB s.kind then { s with kind:=3 - s.kind,peer:=nm } else if s.kind=3 then { s with kind:=4 } else s
def addS (l:List StpD) (x:StpD):List StpD:=if l.any (fun y=>decide (x=y)) then l else l++[x]
def turnL (nm peer:ByteArray):List StpD→List StpD→Option (List StpD)
 | acc,[]=>some acc
 | acc,s::l=>if speaksB s.kind&&decide (s.peer≠peer) then none else turnL nm peer (addS acc (flipS nm s)) l
def still (x:StaD):StaD:={ x with wait:=0 }
def turnP (r:RolD) (peer:ByteArray):RolD×Int:=if (checkR r).2=0 then (if nameB peer&&decide (peer≠r.name) then (match turnL r.name peer [] r.steps with
 | none=>(zeroR,2)
 | some l=>(⟨peer,r.states.map still,r.counters,l⟩,0)) else (zeroR,2)) else (zeroR,(checkR r).2)
section
variable {w0 A W:World} {p2 p4 q:Nat} {r:RolD} {sv cv tv sv' cv':Value} {peer:ByteArray} {v:Value}
abbrev TurR (w0:World) (r:RolD) (peer:ByteArray):Ending→World→Prop:=retR fun u w'=>(∃ x,u = .tuple #[x,.int .i64 (turnP r peer).2]∧RolOwn w' w0.heap.size x (turnP r peer).1)∧Ext w0 w'
theorem four_ext {a w:World} {p:Nat} (e:Ext a w) (hp:a.heap.size≤p) (v0 v1 v2 v3:Value):Ext a ((((w.setCell ⟨p,0,none⟩ v0).setCell ⟨p,1,none⟩ v1).setCell ⟨p,2,none⟩ v2).setCell ⟨p,3,none⟩ v3):=(((e.setCell (p:=⟨p,0,none⟩) hp _).setCell (p:=⟨p,1,none⟩) hp _).setCell (p:=⟨p,2,none⟩) hp _).setCell (p:=⟨p,3,none⟩) hp _
theorem four_only (w:World) (p:Nat) (v0 v1 v2 v3:Value) {b:Nat} (hb:b≠p):((((w.setCell ⟨p,0,none⟩ v0).setCell ⟨p,1,none⟩ v1).setCell ⟨p,2,none⟩ v2).setCell ⟨p,3,none⟩ v3).heap[b]?=w.heap[b]?:=by simp only [Only.setCell _ p _ _ b hb]
theorem four_obj {w:World} {p:Nat} {T:TypeId} {u0 u1 u2 u3:Value} (h:w.heap[p]?=some (.cells #[u0,u1,u2,u3] T (0,0))) (v0 v1 v2 v3:Value):((((w.setCell ⟨p,0,none⟩ v0).setCell ⟨p,1,none⟩ v1).setCell ⟨p,2,none⟩ v2).setCell ⟨p,3,none⟩ v3).heap[p]?=some (.cells #[v0,v1,v2,v3] T (0,0)):=by simpa using heap_set (o:=3) (heap_set (o:=2) (heap_set (o:=1) (heap_set (o:=0) h v0) v1) v2) v3
theorem turn_steps (hA:Ext w0 A) (hp2:A.heap[p2]?=some (.cells (rolCells r sv cv tv).toArray TRol (0,0))) (hp4:A.heap[p4]?=some (.cells #[.string ByteArray.empty,.slice none 0 0,.slice none 0 0,.slice none 0 0] TRol (0,0))) (h4:w0.heap.size≤p4) (hT:StpsOf A tv r.steps) (hl:r.steps.length≤100000)
 (hc0:(checkR r).2=0) (hpe:(nameB peer&&decide (peer≠r.name))=true) (eW:Ext A W) (hq:W.heap[q]?=some (.cells #[.string peer,sv',cv',.slice none 0 0] TRol (0,0))) (hqA:A.heap.size≤q) (hS:OwnE W A.heap.size 50 3 staCells sv' (r.states.map still)) (hC:OwnE W A.heap.size 52 2 cntCells cv' r.counters)
 (hSq:∀ b,sv'.ownBlock=some b→b≠q) (hCq:∀ b,cv'.ownBlock=some b→b≠q) :
 n20c14 (.string peer) (.pointer (some ⟨p2,0,none⟩)) (.pointer (some ⟨p4,0,none⟩)) (.pointer (some ⟨q,0,none⟩)) (TurR w0 r peer) W:=by
 have hp4A:p4 < A.heap.size:=(Array.getElem?_eq_some_iff.1 hp4).1
 have hqW:q < W.heap.size:=(Array.getElem?_eq_some_iff.1 hq).1
 have zA:=hA.size
 have zW:=eW.size
 have hT0:=hT
 obtain ⟨TA,tc,rfl,_,_,_,hel⟩:=SliceOf.open hT
 have ocs:=own_one hS (fun _=>rfl)
 have occ:=own_one hC (fun _=>rfl)
 unfold n20c14
 simp (disch:=try exact DI) only [↓PR,QR,simprocAttr,(cells_of_heap (eW.obj hp2)).1]
 refine loop1_intro (fun a w=>∃ (k:Nat) (acc:List StpD) (vv:Value),a = .int .i64 k∧k≤r.steps.length∧Ext A w∧W.heap.size≤w.heap.size∧(∀ b,b < W.heap.size→b≠q→w.heap[b]?=W.heap[b]?)∧w.heap[q]?=some (.cells #[.string peer,sv',cv',vv] TRol (0,0))∧OwnE w W.heap.size 71 9 stpCells vv acc∧acc.length≤k∧turnL r.name peer [] r.steps=turnL r.name peer acc (r.steps.drop k)) (fun a _=>r.steps.length - (intOf a).toNat) ⟨0,[],_,rfl,by omega,eW,Nat.le_refl _,fun _ _ _=>rfl,hq,OwnE.nil _ _ _ _ _,by simp,rfl⟩ ?_
 rintro _ w ⟨k,acc,vv,rfl,hk,e,hz,hkp,hqw,hO,hal,htl⟩
 have ocv:=own_one hO (fun _=>rfl)
 by_cases hlt:k < r.steps.length
 · obtain ⟨x,hx⟩:=getElem?_lt hlt
   obtain ⟨b,o,cs,rfl,_,hE,rfl⟩:=hel k x hx
   have dk:(k:Int) < (r.steps.length:Int):=by omega
   have d1:decide ((k:Int) < (r.steps.length:Int))=true:=decide_eq_true dk
   have hw:IntKind.i64.wrap ((k:Int)+1)=((k+1:Nat):Int):=by rw [wrap_ok (by omega) (by omega)];omega
   rw [List.drop_eq_getElem_cons hlt] at htl
   have hxg:r.steps[k]=x:=by rw [List.getElem?_eq_getElem hlt] at hx;injection hx
   rw [hxg,turnL] at htl
   simp (disch:=try exact DI) only [↓PR,QR,simprocAttr,d1,↓n20c13,hE.c9 e]
   generalize hV:World.alloc w _=V
   have eV:Ext w V:=by rw [← hV];exact (Ext.refl w).alloc _
   have oV:V.heap[w.heap.size]?=some (.cells (stpCells x).toArray 71 (0,0)):=by rw [← hV];exact heap_new _ _ _
   have sV:V.heap.size=w.heap.size+1:=by rw [← hV];exact World.size_alloc ..
   clear hV
   generalize hps:w.heap.size=ps at oV sV hz ⊢
   have k1:(x.kind == 1)=decide (x.kind=1):=by rw [Bool.eq_iff_iff];simp
   have k2:(x.kind == 2)=decide (x.kind=2):=by rw [Bool.eq_iff_iff];simp
   have k3:(x.kind == 3)=decide (x.kind=3):=by rw [Bool.eq_iff_iff];simp
   have fin:∀ (y:StpD) (u:World),y=flipS r.name x→turnL r.name peer [] r.steps=turnL r.name peer (addS acc y) (r.steps.drop (k+1))→Ext w u→u.heap[ps]?=some (.cells (stpCells y).toArray 71 (0,0))→n20c3 (.pointer (some ⟨q,0,none⟩)) (.pointer (some ⟨ps,0,none⟩)) (.int .i64 (k:Int)) (fun a w'=>(∃ (k:Nat) (acc:List StpD) (vv:Value),a = .int .i64 k∧k≤r.steps.length∧Ext A w'∧W.heap.size≤w'.heap.size∧(∀ b,b < W.heap.size→b≠q→w'.heap[b]?=W.heap[b]?)∧w'.heap[q]?=some (.cells #[.string peer,sv',cv',vv] TRol (0,0))∧OwnE w' W.heap.size 71 9 stpCells vv acc∧acc.length≤k∧turnL r.name peer [] r.steps=turnL r.name peer acc (r.steps.drop k))∧r.steps.length - (intOf a).toNat < r.steps.length - (intOf (Value.int .i64 (k:Int))).toNat) (TurR w0 r peer) u:=by
    intro y u hy htl eu ou
    have hms:=meas_lt (kd := .i64) hlt
    have hqu:=eu.obj hqw
    unfold n20c3
    simp (disch:=try exact DI) only [↓PR,QR,simprocAttr,(cells_of_heap hqu).1,(cells_of_heap ou).1]
    refine zcr (Contains_Step_ret u vv acc y ((hO.ext eu).slice (fun _=>rfl) (fun _ _=>rfl))) fun w1 e1=>?_
    have e01:=eu.trans e1
    have hq1:=e1.obj hqu
    have z1:=e01.size
    have keep1:∀ b,b < W.heap.size→b≠q→w1.heap[b]?=W.heap[b]?:=fun b hb hbq=>(e01.block b (by omega)).trans (hkp b hb hbq)
    unfold n20c2
    cases hany:acc.any (fun z=>decide (y=z)) with
    | true =>
     have hadd:addS acc y=acc:=by unfold addS;rw [hany,if_pos rfl]
     rw [hadd] at htl
     simp (disch:=try exact DI) only [↓PR,QR,simprocAttr,hw]
     exact ⟨⟨k+1,acc,vv,rfl,by omega,e.trans e01,by omega,keep1,hq1,hO.ext e01,by omega,htl⟩,hms⟩
    | false =>
     have hadd:addS acc y=acc++[y]:=by unfold addS;rw [hany,if_neg (by simp)]
     rw [hadd] at htl
     simp (disch:=try exact DI) only [↓PR,QR,simprocAttr,↓n20c1,(cells_of_heap hq1).1,(cells_of_heap (e1.obj ou)).1]
     generalize hY:World.alloc w1 _=Y
     have eY:Ext w1 Y:=by rw [← hY];exact (Ext.refl w1).alloc _
     have oY:ElemAt Y w1.heap.size 0 (stpCells y):=by rw [← hY];exact ElemAt.new _ _
     clear hY
     have e0Y:=e01.trans eY
     have zY:=e0Y.size
     have hby:=by71
     refine op_appendL (enc:=stpCells) (l':=[y]) Tryz.underlying24 ty71 rfl (by decide) (fun _=>rfl) (fun x _ u hu=>one_Step x u hu) (hO.ext e0Y) (o:=0) (fun j x hx=>?_) (by omega) (by simp) ?_ (by simp;omega) ?_
     · cases j with
       | zero =>
        simp only [List.getElem?_cons_zero,Option.some.injEq] at hx
        subst hx
        simpa using oY
       | succ j=>simp at hx
     · simp only [List.length_cons,List.length_nil]
       have:acc.length+1≤200000:=by omega
       exact Nat.le_trans (Nat.mul_le_mul this hby) (by decide)
     · intro g cap w4 hO4 hg hgg hgl
       have hrow:∀ b,vv.ownBlock=some b→W.heap.size≤b:=fun b hb=>(World.ownsRow.lt hO b hb).1
       have z4:=hg.size
       have sm:∀ b,b < W.heap.size→w4.heap[b]?=Y.heap[b]?:=fun b hb=>hg.block b (by omega) fun e=>by have:=hrow b e.symm;omega
       have hgW:W.heap.size≤g:=by
        rcases hgg with e | e
        · exact hrow g e
        · omega
       have hq4:w4.heap[q]?=some (.cells #[.string peer,sv',cv',vv] TRol (0,0)):=(sm q hqW).trans (eY.obj hq1)
       simp (disch:=try exact DI) only [↓PR,QR,simprocAttr,(cells_of_heap hq4).1,(cells_of_heap hq4).2,hw]
       have hq5:(w4.setCell ⟨q,3,none⟩ (.slice (some ⟨g,0,none⟩) (acc.length+[y].length) cap)).heap[q]?=some (.cells #[.string peer,sv',cv',.slice (some ⟨g,0,none⟩) (acc.length+[y].length) cap] TRol (0,0)):=by simpa using heap_set (o:=3) hq4 (.slice (some ⟨g,0,none⟩) (acc.length+[y].length) cap)
       refine ⟨⟨k+1,acc++[y],_,rfl,by omega,?_,by first | omega | (simp only [World.size_setCell];omega),fun b hb hbq=>?_,hq5,OwnE.keep hO4 fun b hb=>?_,by simp;omega,htl⟩,hms⟩
       · exact (((e.trans e0Y).grown hg fun b hb=>by have:=hrow b hb;omega)).setCell (p:=⟨q,3,none⟩) hqA _
       · exact (Only.setCell w4 q 3 _ b hbq).trans ((sm b hb).trans ((eY.block b (by omega)).trans (keep1 b hb hbq)))
       · injection hb with hb
         have hb:g=b:=hb
         exact Only.setCell w4 q 3 _ b (by omega)
   have fl1:∀ kd:Int,speaksB kd=true→kd=1∨kd=2:=fun kd h=>by unfold speaksB at h;simpa using h
   cases hsp:speaksB x.kind with
   | true =>
    rw [hsp,Bool.true_and] at htl
    have hkk:=fl1 _ hsp
    have cond:(decide (x.kind=1)||decide (x.kind=2))=true:=hsp
    have c6:n20c10 (.string peer) (.pointer (some ⟨p2,0,none⟩)) (.pointer (some ⟨p4,0,none⟩)) (.pointer (some ⟨ps,0,none⟩)) (fun w=>n20c3 (.pointer (some ⟨q,0,none⟩)) (.pointer (some ⟨ps,0,none⟩)) (.int .i64 (k:Int)) (fun a w'=>(∃ (k:Nat) (acc:List StpD) (vv:Value),a = .int .i64 k∧k≤r.steps.length∧Ext A w'∧W.heap.size≤w'.heap.size∧(∀ b,b < W.heap.size→b≠q→w'.heap[b]?=W.heap[b]?)∧w'.heap[q]?=some (.cells #[.string peer,sv',cv',vv] TRol (0,0))∧OwnE w' W.heap.size 71 9 stpCells vv acc∧acc.length≤k∧turnL r.name peer [] r.steps=turnL r.name peer acc (r.steps.drop k))∧r.steps.length - (intOf a).toNat < r.steps.length - (intOf (Value.int .i64 (k:Int))).toNat) (TurR w0 r peer) w) (TurR w0 r peer) V:=by
     unfold n20c10
     by_cases hpp:x.peer=peer
     · have d2:decide (x.peer=peer)=true:=decide_eq_true hpp
       rw [show decide (x.peer≠peer)=false by simp [hpp],if_neg (by simp)] at htl
       simp (disch:=try exact DI) only [↓PR,QR,simprocAttr,(cells_of_heap oV).1,d2]
       refine drawK_introB ps ps (w1:=V) (fun _ _ _ _=>rfl) ?_
       have eD:Ext V (Sw.drew V):=(Ext.refl V).drew
       have hKD:KB V ps ps (Sw.drew V):=fun _ _ _ _=>rfl
       have oD:=eD.obj oV
       have sD:=eD.size
       generalize Sw.drew V=D at eD hKD oD sD ⊢
       have ewV:=e.trans eV
       have hp2V:=ewV.obj hp2
       have hp2n:p2≠ps:=by
        have:=(Array.getElem?_eq_some_iff.1 hp2).1
        omega
       have hws:IntKind.i64.wrap (3 - x.kind)=3 - x.kind:=wrap_ok (by omega) (by omega)
       have hK2:∀ v,KB V ps ps (D.setCell ⟨ps,2,none⟩ v):=fun v b hb h1 h2=>(Only.setCell D ps 2 v b h1).trans (hKD b hb h1 h2)
       have cD:=cells_of_heap oD
       have cp:=cells_of_heap (eD.obj hp2V)
       have fin2:=fin { x with kind:=3 - x.kind,peer:=r.name } ((D.setCell ⟨ps,2,none⟩ (.int .i64 (3 - x.kind))).setCell ⟨ps,4,none⟩ (.string r.name)) (by unfold flipS;rw [hsp,if_pos rfl]) (by rw [htl];unfold flipS;rw [hsp,if_pos rfl]) (((eV.trans eD).setCell (p:=⟨ps,2,none⟩) (by show w.heap.size≤ps;omega) _).setCell (p:=⟨ps,4,none⟩) (by show w.heap.size≤ps;omega) _) (by simpa using heap_set (o:=4) (heap_set (o:=2) oD (.int .i64 (3 - x.kind))) (.string r.name))
       unfold n20c8
       simp (disch:=try exact DI) only [↓PR,QR,simprocAttr,hKD,cD.1,cD.2,cp.1,true_and]
       refine ⟨?_,?_⟩
       · unfold n20c6
         simp (disch:=try exact DI) only [↓PR,QR,simprocAttr,hKD,hK2,cD.1,cD.2,cp.1,hws,true_and]
         refine ⟨?_,?_⟩
         · unfold n20c4
           simp (disch:=try exact DI) only [↓PR,QR,simprocAttr,hKD,hK2,cD.1,cD.2,true_and]
           refine turnK_intro ?_
           exact fin2
         · unfold n20c5
           simp (disch:=try exact DI) only [↓PR,QR,simprocAttr,hKD,hK2,cD.1,cD.2,cp.1,true_and]
           refine turnK_intro ?_
           exact fin2
       · unfold n20c7
         simp (disch:=try exact DI) only [↓PR,QR,simprocAttr,hKD,hK2,cD.1,cD.2,hws,true_and]
         refine turnK_intro ?_
         exact fin2
     · have d2:decide (x.peer=peer)=false:=decide_eq_false hpp
       rw [show decide (x.peer≠peer)=true by simp [hpp],if_pos rfl] at htl
       have htp:turnP r peer=(zeroR,2):=by unfold turnP;rw [if_pos hc0,if_pos hpe,htl]
       have o4:=(e.trans eV).obj hp4
       simp (disch:=try exact DI) only [↓PR,QR,simprocAttr,(cells_of_heap oV).1,d2,↓n20c9,(cells_of_heap o4).1,(cells_of_heap o4).2]
       exact ⟨⟨_,by rw [htp],by rw [htp];exact RolOwn.zero _ _⟩,four_ext (hA.trans (e.trans eV)) h4 _ _ _ _⟩
    rcases hkk with h1 | h2
    · have d1:decide (x.kind=1)=true:=decide_eq_true h1
      simp (disch:=try exact DI) only [↓PR,QR,simprocAttr,(cells_of_heap oV).1,k1,d1]
      exact c6
    · have d1:decide (x.kind=1)=false:=decide_eq_false (by omega)
      have d2:decide (x.kind=2)=true:=decide_eq_true h2
      simp (disch:=try exact DI) only [↓PR,QR,simprocAttr,(cells_of_heap oV).1,k1,d1,k2,d2]
      exact c6
   | false =>
    rw [hsp,Bool.false_and,if_neg (by simp)] at htl
    have hnk:¬ x.kind=1∧¬ x.kind=2:=by unfold speaksB at hsp;simpa using hsp
    have d1:decide (x.kind=1)=false:=decide_eq_false hnk.1
    have d2:decide (x.kind=2)=false:=decide_eq_false hnk.2
    simp (disch:=try exact DI) only [↓PR,QR,simprocAttr,(cells_of_heap oV).1,k1,d1,k2,d2,↓n20c11,k3]
    by_cases h3:x.kind=3
    · have d3:decide (x.kind=3)=true:=decide_eq_true h3
      simp (disch:=try exact DI) only [↓PR,QR,simprocAttr,d3,(cells_of_heap oV).1,(cells_of_heap oV).2]
      refine fin { x with kind:=4 } _ (by unfold flipS;rw [hsp,if_neg (by simp),if_pos h3]) ?_ ?_ ?_
      · rw [htl];unfold flipS;rw [hsp,if_neg (by simp),if_pos h3]
      · exact eV.setCell (p:=⟨ps,2,none⟩) (by show w.heap.size≤ps;omega) _
      · exact heap_set (o:=2) oV _
    · have d3:decide (x.kind=3)=false:=decide_eq_false h3
      simp (disch:=try exact DI) only [↓PR,QR,simprocAttr,d3]
      refine fin x _ (by unfold flipS;rw [hsp,if_neg (by simp),if_neg h3]) ?_ eV oV
      rw [htl];unfold flipS;rw [hsp,if_neg (by simp),if_neg h3]
 · obtain rfl:k=r.steps.length:=by omega
   have d1:decide ((r.steps.length:Int) < (r.steps.length:Int))=false:=decide_eq_false (by omega)
   rw [List.drop_length,turnL] at htl
   have htp:turnP r peer=(⟨peer,r.states.map still,r.counters,acc⟩,0):=by unfold turnP;rw [if_pos hc0,if_pos hpe,htl]
   have o4:=e.obj hp4
   have hqp:q≠p4:=by omega
   simp (disch:=try exact DI) only [↓PR,QR,simprocAttr,d1,↓n20c12,(cells_of_heap hqw).1,(cells_of_heap o4).1,(cells_of_heap o4).2]
   refine ⟨⟨_,by rw [htp],?_⟩,four_ext (hA.trans e) h4 _ _ _ _⟩
   rw [htp]
   refine ⟨sv',cv',vv,rfl,(OwnE.keep hS fun b hb=>?_).base zA,(OwnE.keep hC fun b hb=>?_).base zA,(OwnE.keep hO fun b hb=>?_).base (by omega)⟩
   · obtain ⟨a1,a2⟩:=World.ownsRow.lt hS b hb
     exact (four_only w p4 _ _ _ _ (by omega)).trans (hkp b a2 (hSq b hb))
   · obtain ⟨a1,a2⟩:=World.ownsRow.lt hC b hb
     exact (four_only w p4 _ _ _ _ (by omega)).trans (hkp b a2 (hCq b hb))
   · obtain ⟨a1,a2⟩:=World.ownsRow.lt hO b hb
     exact four_only w p4 _ _ _ _ (by omega)
end
section
variable {w0 A W:World} {p2 p4 q:Nat} {r:RolD} {sv cv tv sv' cv':Value} {peer:ByteArray} {v:Value}
theorem turn_states (hA:Ext w0 A) (hp2:A.heap[p2]?=some (.cells (rolCells r sv cv tv).toArray TRol (0,0))) (hp4:A.heap[p4]?=some (.cells #[.string ByteArray.empty,.slice none 0 0,.slice none 0 0,.slice none 0 0] TRol (0,0))) (h4:w0.heap.size≤p4) (hT:StpsOf A tv r.steps) (hl:r.steps.length≤100000) (hls:r.states.length≤100000)
 (hc0:(checkR r).2=0) (hpe:(nameB peer&&decide (peer≠r.name))=true) (eW:Ext A W) (hq:W.heap[q]?=some (.cells #[.string peer,sv',cv',.slice none 0 0] TRol (0,0))) (hqA:A.heap.size≤q) (hS:OwnE W A.heap.size 50 3 staCells sv' r.states) (hC:OwnE W A.heap.size 52 2 cntCells cv' r.counters)
 (hSq:∀ b,sv'.ownBlock=some b→b≠q) (hCq:∀ b,cv'.ownBlock=some b→b≠q) (hSC:∀ b,sv'.ownBlock=some b→cv'.ownBlock≠some b) :
 n20c16 (.string peer) (.pointer (some ⟨p2,0,none⟩)) (.pointer (some ⟨p4,0,none⟩)) (.pointer (some ⟨q,0,none⟩)) (TurR w0 r peer) W:=by
 have ocs:=own_one hS (fun _=>rfl)
 have occ:=own_one hC (fun _=>rfl)
 obtain ⟨SA,sc,hsv,_⟩:=SliceOf.open (hS.slice (E:=fun _ _ _=>True) (fun _=>rfl) (fun _ _=>trivial))
 unfold n20c16
 simp (disch:=try exact DI) only [↓PR,QR,simprocAttr,(cells_of_heap hq).1,hsv]
 refine loop1_intro (fun a w=>∃ (k:Nat),a = .int .i64 k∧k≤r.states.length∧Ext A w∧w.heap[q]?=some (.cells #[.string peer,sv',cv',.slice none 0 0] TRol (0,0))∧OwnE w A.heap.size 50 3 staCells sv' ((r.states.take k).map still++r.states.drop k)∧OwnE w A.heap.size 52 2 cntCells cv' r.counters) (fun a _=>r.states.length - (intOf a).toNat) ⟨0,rfl,by omega,eW,hq,by simpa using hS,hC⟩ ?_
 rintro _ w ⟨k,rfl,hk,e,hqw,hSw,hCw⟩
 by_cases hlt:k < r.states.length
 · obtain ⟨x,hx⟩:=getElem?_lt hlt
   have dk:(k:Int) < (r.states.length:Int):=by omega
   have d1:decide ((k:Int) < (r.states.length:Int))=true:=decide_eq_true dk
   have hw:IntKind.i64.wrap ((k:Int)+1)=((k+1:Nat):Int):=by rw [wrap_ok (by omega) (by omega)];omega
   have hlen:((r.states.take k).map still++r.states.drop k).length=r.states.length:=by simp;omega
   have hxk:((r.states.take k).map still++r.states.drop k)[k]?=some x:=by
    rw [List.getElem?_append_right (by simp;omega)]
    simp only [List.length_map,List.length_take]
    rw [show k - min k r.states.length=0 by omega,List.getElem?_drop,Nat.add_zero]
    exact hx
   obtain ⟨g,cap,hgv,hg1,hg2,_,hfr0,hE⟩:=hSw.row (fun _=>rfl) (by omega)
   rw [hlen] at hgv
   have hg':sv'.ownBlock=some g:=by rw [hgv];rfl
   obtain ⟨b1,b2⟩:=World.ownsRow.lt hSw g hg'
   have hc2:w.cell? ⟨g,k*3+2,none⟩=some (.int .i64 x.wait):=hE k x hxk 2 _ rfl
   have hfr:w.frozen? ⟨g,k*3+2,none⟩=false:=hfr0 _
   have hset:OwnE (w.setCell ⟨g,k*3+2,none⟩ (.int .i64 0)) A.heap.size 50 3 staCells sv' (((r.states.take k).map still++r.states.drop k).set k (still x)):=by
    rw [hgv] at hSw ⊢
    exact OwnE.setE (enc:=staCells) (n:=3) (fun _=>rfl) hSw hxk (y:=still x) (j:=2) (by decide) (.int .i64 0) rfl
   have hnext:((r.states.take k).map still++r.states.drop k).set k (still x)=(r.states.take (k+1)).map still++r.states.drop (k+1):=by
    rw [take_snoc hx,List.map_append,List.set_append_right _ _ (by simp;omega)]
    simp only [List.length_map,List.length_take,List.map_cons,List.map_nil]
    rw [show k - min k r.states.length=0 by omega,List.drop_eq_getElem_cons hlt,List.set_cons_zero,List.append_assoc]
    rfl
   rw [hnext] at hset
   have hgq:g≠q:=hSq g hg'
   have hqs:=(Only.setCell w g (k*3+2) (.int .i64 0) q (Ne.symm hgq)).trans hqw
   have hcs:OwnE (w.setCell ⟨g,k*3+2,none⟩ (.int .i64 0)) A.heap.size 52 2 cntCells cv' r.counters:=OwnE.keep hCw fun b hb=>Only.setCell w g _ _ b fun e=>by subst e;exact hSC b hg' hb
   have hes:Ext A (w.setCell ⟨g,k*3+2,none⟩ (.int .i64 0)):=e.setCell (p:=⟨g,k*3+2,none⟩) b1 _
   simp (disch:=try exact DI) only [↓PR,QR,simprocAttr,d1,↓n20c15,(cells_of_heap hqw).1,hgv,hc2,hfr,hw]
   exact ⟨⟨k+1,rfl,by omega,hes,by rw [← hgv];first | exact hqw | exact hqs,by rw [← hgv];exact hset,hcs⟩,meas_lt (kd := .i64) hlt⟩
 · obtain rfl:k=r.states.length:=by omega
   have d1:decide ((r.states.length:Int) < (r.states.length:Int))=false:=decide_eq_false (by omega)
   rw [List.take_length,List.drop_length,List.append_nil] at hSw
   simp (disch:=try exact DI) only [↓PR,QR,simprocAttr,d1]
   exact turn_steps hA hp2 hp4 h4 hT hl hc0 hpe e hqw hqA hSw hCw hSq hCq
theorem Turn_ret (w0:World) (v:Value) (r:RolD) (peer:ByteArray) (hr:RolVal w0 v r) (hsm:∀ x∈r.steps,StpSm x) (hl:r.counters.length≤100000∧r.states.length≤100000∧r.steps.length≤100000):Ret Pg 23 #[v,.string peer] w0 fun u w'=>(∃ x,u = .tuple #[x,.int .i64 (turnP r peer).2]∧RolOwn w' w0.heap.size x (turnP r peer).1)∧Ext w0 w':=by
 obtain ⟨sv,cv,tv,rfl,hS,hC,hT,o1,o2,o3⟩:=hr.op
 obtain ⟨A1,c1,rfl,_⟩:=SliceOf.open hS
 obtain ⟨A2,c2,rfl,_⟩:=SliceOf.open hC
 obtain ⟨A3,c3,rfl,_⟩:=SliceOf.open hT
 refine n20s (R:=retR _) ?_;unfold n20
 rw [op_boxA]
 have hp2:=heap_new w0 (rolCells r (.slice A1 r.states.length c1) (.slice A2 r.counters.length c2) (.slice A3 r.steps.length c3)).toArray TRol
 have eW:Ext w0 (w0.alloc (.cells (rolCells r (.slice A1 r.states.length c1) (.slice A2 r.counters.length c2) (.slice A3 r.steps.length c3)).toArray TRol)):=ee
 have sW:(w0.alloc (.cells (rolCells r (.slice A1 r.states.length c1) (.slice A2 r.counters.length c2) (.slice A3 r.steps.length c3)).toArray TRol)).heap.size=w0.heap.size+1:=World.size_alloc ..
 generalize (w0.alloc (.cells (rolCells r (.slice A1 r.states.length c1) (.slice A2 r.counters.length c2) (.slice A3 r.steps.length c3)).toArray TRol))=W0 at hp2 eW sW ⊢
 simp (disch:=try exact DI) only [↓PR,QR,simprocAttr,fun o=>(cells_of_heap (((Ext.refl W0).alloc o).obj hp2)).1]
 have eV:Ext W0 (World.alloc W0 (.cells #[.string ByteArray.empty,.slice none 0 0,.slice none 0 0,.slice none 0 0] TRol)):=(Ext.refl W0).alloc _
 have hp4:=heap_new W0 #[.string ByteArray.empty,.slice none 0 0,.slice none 0 0,.slice none 0 0] TRol
 generalize World.alloc W0 _=V at eV hp4 ⊢
 generalize hp4e:W0.heap.size=p4 at hp4 ⊢
 have h4:w0.heap.size≤p4:=by omega
 have e0V:=eW.trans eV
 refine zcr (Check_ret V _ r ⟨_,_,_,rfl,hS.ext e0V,hC.ext e0V,hT.ext e0V⟩ hsm ⟨by omega,by omega,by omega⟩) fun w1 e1=>?_
 have E1:=e0V.trans e1
 have q4:=e1.obj hp4
 have q2:=(eV.trans e1).obj hp2
 by_cases hc0:(checkR r).2=0
 case neg =>
  have d1:((checkR r).2 != 0)=true:=by simp [hc0]
  have htp:turnP r peer=(zeroR,(checkR r).2):=by unfold turnP;rw [if_neg hc0]
  simp (disch:=try exact DI) only [↓PR,QR,simprocAttr,↓n20c24,d1,(cells_of_heap q4).1,(cells_of_heap q4).2]
  exact ⟨⟨_,by rw [htp],by rw [htp];exact RolOwn.zero _ _⟩,four_ext E1 h4 _ _ _ _⟩
 have d1:((checkR r).2 != 0)=false:=by simp [hc0]
 simp (disch:=try exact DI) only [↓PR,QR,simprocAttr,↓n20c24,d1]
 refine zcr (Name_ret w1 peer) fun w2 e2=>?_
 have E2:=E1.trans e2
 have q4:=e2.obj q4
 have q2:=e2.obj q2
 have bad:(nameB peer&&decide (peer≠r.name))=false→n20c22 (.pointer (some ⟨p4,0,none⟩)) (TurR w0 r peer) w2:=fun hb=>by
  have htp:turnP r peer=(zeroR,2):=by unfold turnP;rw [if_pos hc0,hb,if_neg (by simp)]
  unfold n20c22
  simp (disch:=try exact DI) only [↓PR,QR,simprocAttr,(cells_of_heap q4).1,(cells_of_heap q4).2]
  exact ⟨⟨_,by rw [htp],by rw [htp];exact RolOwn.zero _ _⟩,four_ext E2 h4 _ _ _ _⟩
 unfold n20c23
 cases hnm:nameB peer with
 | false =>
  simp (disch:=try exact DI) only [↓PR,QR,simprocAttr]
  exact bad (by rw [hnm];rfl)
 | true =>
 by_cases hpn:peer=r.name
 · have d2:decide (peer=r.name)=true:=decide_eq_true hpn
   simp (disch:=try exact DI) only [↓PR,QR,simprocAttr,(cells_of_heap q2).1,d2]
   exact bad (by simp [hpn])
 have d2:decide (peer=r.name)=false:=decide_eq_false hpn
 have hpe:(nameB peer&&decide (peer≠r.name))=true:=by rw [hnm];simp [hpn]
 clear bad
 simp (disch:=try exact DI) only [↓PR,QR,simprocAttr,(cells_of_heap q2).1,d2]
 refine drawK_intro ?_
 have eD:Ext w2 (Sw.drew w2):=(Ext.refl w2).drew
 have ED:=E2.trans eD
 have q4:=eD.obj q4
 have q2:=eD.obj q2
 generalize Sw.drew w2=D at eD ED q4 q2 ⊢
 have fin:∀ (w:World) (q:Nat) (sv' cv':Value) (x0 x1 x2 x3:Value),Ext D w→D.heap.size≤q→w.heap[q]?=some (.cells #[x0,x1,x2,x3] TRol (0,0))→OwnE w D.heap.size 50 3 staCells sv' r.states→OwnE w D.heap.size 52 2 cntCells cv' r.counters→(∀ b,sv'.ownBlock=some b→b≠q)→(∀ b,cv'.ownBlock=some b→b≠q)→(∀ b,sv'.ownBlock=some b→cv'.ownBlock≠some b) →
  opU Pg (Instr.storeAt 26 (.pointer (some ⟨q,0,none⟩)) (.agg #[.string peer,sv',cv',.slice none 0 0])) (panK (TurR w0 r peer)) w fun w=>turnK w fun C11 w=>n20c16 (.string peer) (.pointer (some ⟨w0.heap.size,0,none⟩)) (.pointer (some ⟨p4,0,none⟩)) (.pointer (some ⟨q,0,none⟩)) (TurR w0 r peer) w:=by
  intro w q sv' cv' x0 x1 x2 x3 e hq ho h1 h2 n1 n2 n3
  have f1:=own_one h1 (fun _=>rfl)
  have f2:=own_one h2 (fun _=>rfl)
  simp (disch:=try exact DI) only [↓PR,QR,simprocAttr,(cells_of_heap ho).1,(cells_of_heap ho).2]
  refine turnK_intro ?_
  refine turn_states ED q2 q4 h4 (hT.ext ED) hl.2.2 hl.2.1 hc0 hpe (four_ext e hq _ _ _ _) (four_obj ho _ _ _ _) hq (OwnE.keep h1 fun b hb=>four_only w q _ _ _ _ (n1 b hb)) (OwnE.keep h2 fun b hb=>four_only w q _ _ _ _ (n2 b hb)) n1 n2 n3
 unfold n20c21
 simp (disch:=try exact DI) only [↓PR,QR,simprocAttr,(cells_of_heap q2).1]
 refine ⟨?_,?_⟩
 · refine callK_ret (Clone_Counter_ret D _ _ (hC.ext ED) (by omega)) ?_
   rintro cv' w3 ⟨hO3,e3⟩
   refine ⟨e3,?_⟩
   unfold n20c19
   refine ⟨?_,?_⟩
   · refine callK_ret (Clone_State_ret w3 _ _ ((hS.ext ED).ext e3) (by omega)) ?_
     rintro sv' w4 ⟨hO4,e4⟩
     have e34:=e3.trans e4
     refine ⟨e34,?_⟩
     unfold n20c17
     have f1:=own_one hO4 (fun _=>rfl)
     have f2:=own_one hO3 (fun _=>rfl)
     have s3:=e3.size
     have s4:=e4.size
     have ha:Ext D (w4.alloc (.cells #[.string ByteArray.empty,.slice none 0 0,.slice none 0 0,.slice none 0 0] TRol)):=e34.alloc _
     have h:=fin _ w4.heap.size sv' cv' _ _ _ _ ha (by omega) (heap_new w4 _ _) ((hO4.base s3).ext ((Ext.refl w4).alloc _)) ((hO3.ext e4).ext ((Ext.refl w4).alloc _)) (fun b hb=>by have:=(World.ownsRow.lt hO4 b hb).2;omega) (fun b hb=>by have:=(World.ownsRow.lt hO3 b hb).2;omega) (fun b hb hb2=>by have:=(World.ownsRow.lt hO4 b hb).1;have:=(World.ownsRow.lt hO3 b hb2).2;omega)
     simp (disch:=try exact DI) only [↓PR,QR,simprocAttr]
     refine ⟨ha,?_⟩
     first | exact h | (simp (disch:=try exact DI) only [↓PR,QR,simprocAttr] at h;exact h)
   · simp (disch:=try exact DI) only [↓PR,QR,simprocAttr]
     refine ⟨e3.alloc _,?_⟩
     have e4:Ext w3 (w3.alloc (.cells #[.string ByteArray.empty,.slice none 0 0,.slice none 0 0,.slice none 0 0] TRol)):=(Ext.refl w3).alloc _
     have o4:=heap_new w3 #[.string ByteArray.empty,.slice none 0 0,.slice none 0 0,.slice none 0 0] TRol
     have s4:(w3.alloc (.cells #[.string ByteArray.empty,.slice none 0 0,.slice none 0 0,.slice none 0 0] TRol)).heap.size=w3.heap.size+1:=World.size_alloc ..
     generalize World.alloc w3 _=w4 at e4 o4 s4 ⊢
     have e34:=e3.trans e4
     unfold n20c18
     refine callK_ret (Clone_State_ret w4 _ _ ((hS.ext ED).ext e34) (by omega)) ?_
     rintro sv' w5 ⟨hO5,e5⟩
     have e35:=e34.trans e5
     refine ⟨e35,?_⟩
     have f1:=own_one hO5 (fun _=>rfl)
     have f2:=own_one hO3 (fun _=>rfl)
     have s3:=e3.size
     have h:=fin w5 w3.heap.size sv' cv' _ _ _ _ e35 (by omega) (e5.obj o4) (hO5.base (by omega)) (hO3.ext (e4.trans e5)) (fun b hb=>by have:=(World.ownsRow.lt hO5 b hb).1;omega) (fun b hb=>by have:=(World.ownsRow.lt hO3 b hb).2;omega) (fun b hb hb2=>by have:=(World.ownsRow.lt hO5 b hb).1;have:=(World.ownsRow.lt hO3 b hb2).2;omega)
     have o5:=cells_of_heap (e5.obj o4)
     simp (disch:=try exact DI) only [↓PR,QR,simprocAttr,o5.1,o5.2]
     simp (disch:=try exact DI) only [↓PR,QR,simprocAttr,o5.1,o5.2] at h
     exact h
 · simp (disch:=try exact DI) only [↓PR,QR,simprocAttr]
   refine ⟨(Ext.refl D).alloc _,?_⟩
   have e3:Ext D (D.alloc (.cells #[.string ByteArray.empty,.slice none 0 0,.slice none 0 0,.slice none 0 0] TRol)):=(Ext.refl D).alloc _
   have o3:=heap_new D #[.string ByteArray.empty,.slice none 0 0,.slice none 0 0,.slice none 0 0] TRol
   have s3:(D.alloc (.cells #[.string ByteArray.empty,.slice none 0 0,.slice none 0 0,.slice none 0 0] TRol)).heap.size=D.heap.size+1:=World.size_alloc ..
   generalize World.alloc D _=w3 at e3 o3 s3 ⊢
   refine callK_ret (Clone_Counter_ret w3 _ _ ((hC.ext ED).ext e3) (by omega)) ?_
   rintro cv' w4 ⟨hO4,e4⟩
   have e34:=e3.trans e4
   refine ⟨e34,?_⟩
   unfold n20c20
   refine callK_ret (Clone_State_ret w4 _ _ ((hS.ext ED).ext e34) (by omega)) ?_
   rintro sv' w5 ⟨hO5,e5⟩
   have e35:=e34.trans e5
   refine ⟨e35,?_⟩
   have f1:=own_one hO5 (fun _=>rfl)
   have f2:=own_one hO4 (fun _=>rfl)
   have s4:=e4.size
   have h:=fin w5 D.heap.size sv' cv' _ _ _ _ e35 (Nat.le_refl _) ((e4.trans e5).obj o3) (hO5.base (by omega)) ((hO4.ext e5).base (by omega)) (fun b hb=>by have:=(World.ownsRow.lt hO5 b hb).1;omega) (fun b hb=>by have:=(World.ownsRow.lt hO4 b hb).1;omega) (fun b hb hb2=>by have:=(World.ownsRow.lt hO5 b hb).1;have:=(World.ownsRow.lt hO4 b hb2).2;omega)
   have o5:=cells_of_heap ((e4.trans e5).obj o3)
   simp (disch:=try exact DI) only [↓PR,QR,simprocAttr,o5.1,o5.2]
   simp (disch:=try exact DI) only [↓PR,QR,simprocAttr,o5.1,o5.2] at h
   exact h
end
def n8c1 (t18:Value) (K14:KV) (R:RT) (w:World):Prop :=
 opV Pg (Instr.fieldAt 26 t18 3) (panK R) w fun t126 w =>
 opV Pg (Instr.loadAt 24 t126) (panK R) w fun t127 w =>
 opV Pg (Instr.indexAt 24 t127 (.int .i64 1)) (panK R) w fun t128 w =>
 opV Pg (Instr.loadAt 71 t128) (panK R) w fun t129 w =>
 opV Pg (Instr.build 71 #[(0,(.string { data := #[98] })),(1,(.string { data := #[97] })),(2,(.int .i64 4))]) (panK R) w fun t130 w =>
 opV Pg (binS .eql 71 false t129 t130) (panK R) w fun t131 w =>
 K14 t131 w
def n8c2 (t18 t116 t123:Value) (R:RT) (w:World):Prop :=
 pickK t116 t123 (.bool false) fun t124 =>
 joinK (fun (t131:Value) (w:World) =>
 pickK t124 t131 (.bool false) fun t132 =>
 R (.returned t132) w) fun K14 =>
 guardP t124 true (
 n8c1 t18 K14 R w) (
 K14 undef w)
def n8c3 (t18:Value) (K13:KV) (R:RT) (w:World):Prop :=
 opV Pg (Instr.fieldAt 26 t18 3) (panK R) w fun t118 w =>
 opV Pg (Instr.loadAt 24 t118) (panK R) w fun t119 w =>
 opV Pg (Instr.indexAt 24 t119 (.int .i64 0)) (panK R) w fun t120 w =>
 opV Pg (Instr.loadAt 71 t120) (panK R) w fun t121 w =>
 opV Pg (Instr.build 71 #[(0,(.string { data := #[97] })),(1,(.string { data := #[98] })),(2,(.int .i64 2)),(3,(.string { data := #[109] })),(4,(.string { data := #[99] })),(5,(.string { data := #[110] })),(7,(.int .i64 1)),(8,(.int .i64 1))]) (panK R) w fun t122 w =>
 opV Pg (binS .eql 71 false t121 t122) (panK R) w fun t123 w =>
 K13 t123 w
def n8c4 (t18 t110 t115:Value) (R:RT) (w:World):Prop :=
 pickK t110 t115 (.bool false) fun t116 =>
 joinK (fun (t123:Value) (w:World) =>
 n8c2 t18 t116 t123 R w) fun K13 =>
 guardP t116 true (
 n8c3 t18 K13 R w) (
 K13 undef w)
def n8c5 (t18 t109:Value) (R:RT) (w:World):Prop :=
 opV Pg (binS .eql 3 true t109 (.int .i64 0)) (panK R) w fun t110 w =>
 joinK (fun (t115:Value) (w:World) =>
 n8c4 t18 t110 t115 R w) fun K12 =>
 guardP t110 true (
 opV Pg (Instr.fieldAt 26 t18 3) (panK R) w fun t112 w =>
 opV Pg (Instr.loadAt 24 t112) (panK R) w fun t113 w =>
 opV Pg (Builtin.len_ #[24] 3 #[t113]) (panK R) w fun t114 w =>
 opV Pg (binS .eql 3 true t114 (.int .i64 2)) (panK R) w fun t115 w =>
 K12 t115 w) (
 K12 undef w)
def n8c6 (t105:Value) (R:RT) (w:World):Prop :=
 opV Pg (Instr.extract t105 0) (panK R) w fun t106 w =>
 opV Pg (Instr.extract t105 1) (panK R) w fun t107 w =>
 opV Pg (Instr.alloc 26 true (.tuple #[])) (panK R) w fun t18 w =>
 opU Pg (Instr.storeAt 26 t18 t106) (panK R) w fun w =>
 callK Pg 15 #[t107] (panK R) w fun t109 w =>
 n8c5 t18 t109 R w
def n8c7 (t98 t101:Value) (R:RT) (w:World):Prop :=
 pickK t98 (.bool true) t101 fun t102 =>
 condP t102 (
 R (.returned (.bool false)) w) (
 callK Pg 35 #[] (panK R) w fun t104 w =>
 callK Pg 23 #[t104,(.string { data := #[115] })] (panK R) w fun t105 w =>
 n8c6 t105 R w)
def n8c8 (t68 t94 t97:Value) (R:RT) (w:World):Prop :=
 pickK t94 (.bool true) t97 fun t98 =>
 joinK (fun (t101:Value) (w:World) =>
 n8c7 t98 t101 R w) fun K11 =>
 guardP t98 false (
 opV Pg (binS .neq 29 true t68 (.int .i64 6)) (panK R) w fun t101 w =>
 K11 t101 w) (
 K11 undef w)
def n8c9 (t67 t68 t90 t93:Value) (R:RT) (w:World):Prop :=
 pickK t90 (.bool true) t93 fun t94 =>
 joinK (fun (t97:Value) (w:World) =>
 n8c8 t68 t94 t97 R w) fun K10 =>
 guardP t94 false (
 opV Pg (binS .neq 3 true t67 (.int .i64 3)) (panK R) w fun t97 w =>
 K10 t97 w) (
 K10 undef w)
def n8c10 (t63 t67 t68 t86 t89:Value) (R:RT) (w:World):Prop :=
 pickK t86 (.bool true) t89 fun t90 =>
 joinK (fun (t93:Value) (w:World) =>
 n8c9 t67 t68 t90 t93 R w) fun K9 =>
 guardP t90 false (
 opV Pg (binS .neq 29 true t63 (.int .i64 292)) (panK R) w fun t93 w =>
 K9 t93 w) (
 K9 undef w)
def n8c11 (t62 t63 t67 t68 t82 t85:Value) (R:RT) (w:World):Prop :=
 pickK t82 (.bool true) t85 fun t86 =>
 joinK (fun (t89:Value) (w:World) =>
 n8c10 t63 t67 t68 t86 t89 R w) fun K8 =>
 guardP t86 false (
 opV Pg (binS .neq 3 true t62 (.int .i64 0)) (panK R) w fun t89 w =>
 K8 t89 w) (
 K8 undef w)
def n8c12 (t58 t62 t63 t67 t68 t78 t81:Value) (R:RT) (w:World):Prop :=
 pickK t78 (.bool true) t81 fun t82 =>
 joinK (fun (t85:Value) (w:World) =>
 n8c11 t62 t63 t67 t68 t82 t85 R w) fun K7 =>
 guardP t82 false (
 opV Pg (binS .neq 29 true t58 (.int .i64 292)) (panK R) w fun t85 w =>
 K7 t85 w) (
 K7 undef w)
def n8c13 (t53 t58 t62 t63 t67 t68 t74 t77:Value) (R:RT) (w:World):Prop :=
 pickK t74 (.bool true) t77 fun t78 =>
 joinK (fun (t81:Value) (w:World) =>
 n8c12 t58 t62 t63 t67 t68 t78 t81 R w) fun K6 =>
 guardP t78 false (
 opV Pg (binS .neq 29 true t53 (.int .i64 293)) (panK R) w fun t81 w =>
 K6 t81 w) (
 K6 undef w)
def n8c14 (t47 t48 t52 t53 t57 t58 t62 t63 t65:Value) (R:RT) (w:World):Prop :=
 opV Pg (Instr.extract t65 0) (panK R) w fun t66 w =>
 opV Pg (Instr.extract t65 1) (panK R) w fun t67 w =>
 opV Pg (Instr.extract t65 2) (panK R) w fun t68 w =>
 opV Pg (Instr.alloc 26 true (.tuple #[])) (panK R) w fun t15 w =>
 opU Pg (Instr.storeAt 26 t15 t66) (panK R) w fun w =>
 opV Pg (binS .add 3 false t47 t52) (panK R) w fun t71 w =>
 opV Pg (binS .add 3 false t71 t57) (panK R) w fun t73 w =>
 opV Pg (binS .neq 3 true t73 (.int .i64 0)) (panK R) w fun t74 w =>
 joinK (fun (t77:Value) (w:World) =>
 n8c13 t53 t58 t62 t63 t67 t68 t74 t77 R w) fun K5 =>
 guardP t74 false (
 opV Pg (binS .neq 29 true t48 (.int .i64 293)) (panK R) w fun t77 w =>
 K5 t77 w) (
 K5 undef w)
def n8c15 (t47 t48 t52 t53 t57 t58 t60:Value) (R:RT) (w:World):Prop :=
 opV Pg (Instr.extract t60 0) (panK R) w fun t61 w =>
 opV Pg (Instr.extract t60 1) (panK R) w fun t62 w =>
 opV Pg (Instr.extract t60 2) (panK R) w fun t63 w =>
 opV Pg (Instr.alloc 26 true (.tuple #[])) (panK R) w fun t12 w =>
 opU Pg (Instr.storeAt 26 t12 t61) (panK R) w fun w =>
 callK Pg 19 #[(.string { data := #[114,111,108,101,32,99,10,115,116,97,116,101,32,97,10,115,116,97,116,101,32,49] })] (panK R) w fun t65 w =>
 n8c14 t47 t48 t52 t53 t57 t58 t62 t63 t65 R w
def n8c16 (t47 t48 t52 t53 t56:Value) (R:RT) (w:World):Prop :=
 opV Pg (Instr.extract t56 0) (panK R) w fun t57 w =>
 opV Pg (Instr.extract t56 1) (panK R) w fun t58 w =>
 callK Pg 19 #[(.string { data := #[114,111,108,101,32,99] })] (panK R) w fun t60 w =>
 n8c15 t47 t48 t52 t53 t57 t58 t60 R w
def n8c17 (t5 t47 t48 t51:Value) (R:RT) (w:World):Prop :=
 opV Pg (Instr.extract t51 0) (panK R) w fun t52 w =>
 opV Pg (Instr.extract t51 1) (panK R) w fun t53 w =>
 opV Pg (Instr.loadAt 26 t5) (panK R) w fun t55 w =>
 callK Pg 12 #[t55] (panK R) w fun t56 w =>
 n8c16 t47 t48 t52 t53 t56 R w
def n8c18 (t4 t5 t46:Value) (R:RT) (w:World):Prop :=
 opV Pg (Instr.extract t46 0) (panK R) w fun t47 w =>
 opV Pg (Instr.extract t46 1) (panK R) w fun t48 w =>
 opV Pg (Instr.loadAt 26 t4) (panK R) w fun t50 w =>
 callK Pg 12 #[t50] (panK R) w fun t51 w =>
 n8c17 t5 t47 t48 t51 R w
def n8c19 (t3 t4 t5:Value) (C3:World→Prop) (R:RT) (w:World):Prop :=
 qV Pg C3 (Instr.fieldAt 26 t5 1) fun t43 =>
 opU Pg (Instr.storeAt 22 t43 (Value.slice none 0 0)) (panK R) w fun w =>
 turnK w fun C4 w =>
 opV Pg (Instr.loadAt 26 t3) (panK R) w fun t45 w =>
 callK Pg 12 #[t45] (panK R) w fun t46 w =>
 n8c18 t4 t5 t46 R w
def n8c20 (t3 t4 t5 t38:Value) (C2:World→Prop) (R:RT) (w:World):Prop :=
 qV Pg C2 (Instr.indexAt 24 t38 (.int .i64 0)) fun t41 =>
 qV Pg C2 (Instr.fieldAt 71 t41 4) fun t42 =>
 opU Pg (Instr.storeAt 9 t42 (.string { data := #[99] })) (panK R) w fun w =>
 turnK w fun C3 w =>
 n8c19 t3 t4 t5 C3 R w
def n8c21 (t3 t4 t5:Value) (C2:World→Prop) (R:RT) (w:World):Prop :=
 qV Pg C2 (Instr.fieldAt 26 t3 3) fun t35 =>
 qV Pg C2 (Instr.loadAt 24 t35) fun t36 =>
 qV Pg C2 (Instr.fieldAt 26 t4 3) fun t37 =>
 qV Pg C2 (Instr.loadAt 24 t37) fun t38 =>
 qV Pg C2 (Instr.indexAt 24 t36 (.int .i64 0)) fun t39 =>
 qV Pg C2 (Instr.fieldAt 71 t39 7) fun t40 =>
 opU Pg (Instr.storeAt 3 t40 (.int .i64 2)) (panK R) w fun w =>
 C2 w∧(
 n8c20 t3 t4 t5 t38 C2 R w)
def n8c22 (t32 t33 t34:Value) (R:RT) (w:World):Prop :=
 opV Pg (Instr.alloc 26 true (.tuple #[])) (panK R) w fun t3 w =>
 opV Pg (Instr.alloc 26 true (.tuple #[])) (panK R) w fun t4 w =>
 opV Pg (Instr.alloc 26 true (.tuple #[])) (panK R) w fun t5 w =>
 opU Pg (Instr.storeAt 26 t3 t32) (panK R) w fun w =>
 opU Pg (Instr.storeAt 26 t4 t33) (panK R) w fun w =>
 opU Pg (Instr.storeAt 26 t5 t34) (panK R) w fun w =>
 drawK w fun C2 w =>
 n8c21 t3 t4 t5 C2 R w
def n8c23 (R:RT) (w:World):Prop :=
 callK Pg 35 #[] (panK R) w fun t32 w =>
 callK Pg 35 #[] (panK R) w fun t33 w =>
 callK Pg 35 #[] (panK R) w fun t34 w =>
 n8c22 t32 t33 t34 R w
def n8c24 (t22:Value) (R:RT) (w:World):Prop :=
 opV Pg (Instr.extract t22 0) (panK R) w fun t23 w =>
 opV Pg (Instr.extract t22 1) (panK R) w fun t24 w =>
 opV Pg (binS .neq 9 true t23 (.string { data := #[114,111,108,101,32,99,10,99,111,117,110,116,101,114,32,110,32,50,10,115,116,97,116,101,32,97,10,115,116,97,116,101,32,98,32,119,97,105,116,32,53,32,102,105,110,97,108,10,115,116,101,112,32,97,32,98,32,115,101,110,100,32,109,32,115,32,119,104,101,110,32,110,32,48,32,49,32,49,10,115,116,101,112,32,98,32,97,32,116,105,109,101,111,117,116] })) (panK R) w fun t26 w =>
 joinK (fun (t30:Value) (w:World) =>
 pickK t26 (.bool true) t30 fun t31 =>
 condP t31 (
 R (.returned (.bool false)) w) (
 n8c23 R w)) fun K1 =>
 guardP t26 false (
 callK Pg 15 #[t24] (panK R) w fun t29 w =>
 opV Pg (binS .neq 3 true t29 (.int .i64 0)) (panK R) w fun t30 w =>
 K1 t30 w) (
 K1 undef w)
def n8 (R:RT) (w:World):Prop :=
 callK Pg 35 #[] (panK R) w fun t21 w =>
 callK Pg 14 #[t21] (panK R) w fun t22 w =>
 n8c24 t22 R w
set_option maxHeartbeats 40000000 in
theorem n8s {R:RT} {w:World} (h:n8 R w):Calls Pg 11 #[] w R:=by
 refine yD Tryz.func11 ?_
 refine zs<|zr<|zm<|zn<|zk<|zs<|zr<|yc h c35 fun _ w h=>yc h c14 fun _ w h=>zm<|yv h fun _ w h=>yv h fun _ w h=>zm<|zm<|zn ?_
 refine zk<|zs<|zs<|sim_regionG<|yG 3<|zm<|yb h fun _ w h=>zm<|zn<|yg1 3 2 false [28,29,30] 30 h (fun _ T hT h=>?_) fun σ w h=>?_
 · refine zm<|yc h c15 fun _ w h=>yb h fun _ w h=>zn ?_
   exact zt hT h
 refine yG 1<|yp h fun _ h=>zn<|sim_end<|zk<|yC h (fun h=>zs<|zr<|zm<|zn<|zk<|sim_ret<|sim_then_ret<|body_ret1 rfl rfl h) fun h=>sim_skip<|zk<|zs<|zr<|yc h c35 fun _ w h=>yc h c35 fun _ w h=>yc h c35 fun _ w h=>yv h fun _ w h=>?_
 refine yv h fun _ w h=>yv h fun _ w h=>yu h fun w h=>yu h fun w h=>yu h fun w h=>zn<|zk<|zs<|yh [35,36,37,38,39,40,41,42,43] h fun C hC h=>ye 0 hC h fun _ h=>?_
 refine ye 1 hC h fun _ h=>?_
 refine ye 2 hC h fun _ h=>?_
 refine ye 3 hC h fun _ h=>?_
 refine ye 4 hC h fun _ h=>?_
 refine ye 5 hC h fun _ h=>?_
 refine yo 6 ?_
 refine yu h fun w h=>zn ?_
 obtain ⟨hC,h⟩:=h
 refine ⟨hC,?_⟩
 refine ye 7 hC h fun _ h=>?_
 refine ye 8 hC h fun _ h=>?_
 refine yq 9 2 ?_
 refine yu h fun w h=>zn ?_
 obtain ⟨C3,hC,h⟩:=h
 refine ⟨C3,hC,?_⟩
 refine ye 10 hC h fun _ h=>?_
 refine yq 11 1 ?_
 refine yu h fun w h=>zn ?_
 obtain ⟨C4,hC,h⟩:=h
 refine ⟨C4,hC,?_⟩
 refine yz<|zk<|zs<|zr<|yv h fun _ w h=>yc h c12 fun _ w h=>zm<|yv h fun _ w h=>yv h fun _ w h=>zm<|zm<|zn<|zk<|zs<|zr ?_
 refine yv h fun _ w h=>yc h c12 fun _ w h=>zm<|yv h fun _ w h=>yv h fun _ w h=>zm<|zm<|zn<|zk<|zs<|zr<|yv h fun _ w h=>yc h c12 fun _ w h=>zm<|yv h fun _ w h=>?_
 refine yv h fun _ w h=>zm<|zm<|zn<|zk<|zs<|zr<|yc h c19 fun _ w h=>zm<|yv h fun _ w h=>yv h fun _ w h=>yv h fun _ w h=>yv h fun _ w h=>yu h fun w h=>zm ?_
 refine zm<|zn<|zk<|zs<|zr<|yc h c19 fun _ w h=>zm<|yv h fun _ w h=>yv h fun _ w h=>yv h fun _ w h=>yv h fun _ w h=>yu h fun w h=>zm<|zm<|zn ?_
 refine zk<|zs<|zs<|sim_regionG<|yG 7<|zm<|zm<|yb h fun _ w h=>zm<|yb h fun _ w h=>yb h fun _ w h=>zm<|zn<|yg1 2 6 false [76,77] 77 h (fun _ T hT h=>?_) fun σ w h=>?_
 · refine zm<|yb h fun _ w h=>zn ?_
   exact zt hT h
 refine yG 2<|yp h fun _ h=>zm<|zn<|yg1 2 10 false [80,81] 81 h (fun _ T hT h=>?_) fun σ w h=>?_
 · refine zm<|yb h fun _ w h=>zn ?_
   exact zt hT h
 refine yG 2<|yp h fun _ h=>zm<|zn<|yg1 2 14 false [84,85] 85 h (fun _ T hT h=>?_) fun σ w h=>?_
 · refine zm<|yb h fun _ w h=>zn ?_
   exact zt hT h
 refine yG 2<|yp h fun _ h=>zm<|zn<|yg1 2 18 false [88,89] 89 h (fun _ T hT h=>?_) fun σ w h=>?_
 · refine zm<|yb h fun _ w h=>zn ?_
   exact zt hT h
 refine yG 2<|yp h fun _ h=>zm<|zn<|yg1 2 22 false [92,93] 93 h (fun _ T hT h=>?_) fun σ w h=>?_
 · refine zm<|yb h fun _ w h=>zn ?_
   exact zt hT h
 refine yG 2<|yp h fun _ h=>zm<|zn<|yg1 2 26 false [96,97] 97 h (fun _ T hT h=>?_) fun σ w h=>?_
 · refine zm<|yb h fun _ w h=>zn ?_
   exact zt hT h
 refine yG 2<|yp h fun _ h=>zm<|zn<|yg1 2 30 false [100,101] 101 h (fun _ T hT h=>?_) fun σ w h=>?_
 · refine zm<|yb h fun _ w h=>zn ?_
   exact zt hT h
 refine yG 1<|yp h fun _ h=>zn<|sim_end<|zk<|yC h (fun h=>zs<|zr<|zm<|zn<|zk<|sim_ret<|sim_then_ret<|body_ret1 rfl rfl h) fun h=>sim_skip<|zk<|zs<|zr<|yc h c35 fun _ w h=>yc h c23 fun _ w h=>zm<|yv h fun _ w h=>?_
 refine yv h fun _ w h=>yv h fun _ w h=>yu h fun w h=>zm<|zn<|zk<|zs<|sim_regionG<|yG 4<|zm<|yc h c15 fun _ w h=>yb h fun _ w h=>zm<|zn<|yg1 4 3 true [112,113,114,115] 115 h (fun _ T hT h=>?_) fun σ w h=>?_
 · refine yv h fun _ w h=>yv h fun _ w h=>yx h fun _ w h=>yb h fun _ w h=>zn ?_
   exact zt hT h
 refine yG 2<|yp h fun _ h=>zm<|zn<|yg1 6 9 true [118,119,120,121,122,123] 123 h (fun _ T hT h=>?_) fun σ w h=>?_
 · refine yv h fun _ w h=>yv h fun _ w h=>yv h fun _ w h=>yv h fun _ w h=>yB h fun _ w h=>yb h fun _ w h=>zn ?_
   exact zt hT h
 refine yG 2<|yp h fun _ h=>zm<|zn<|yg1 6 17 true [126,127,128,129,130,131] 131 h (fun _ T hT h=>?_) fun σ w h=>?_
 · refine yv h fun _ w h=>yv h fun _ w h=>yv h fun _ w h=>yv h fun _ w h=>yB h fun _ w h=>yb h fun _ w h=>zn ?_
   exact zt hT h
 exact yG 2<|yp h fun _ h=>zm<|zn<|sim_end<|zk<|sim_ret<|body_ret1 rfl rfl h
def samS1:StpD:=⟨⟨#[97]⟩,⟨#[98]⟩,1,⟨#[109]⟩,⟨#[115]⟩,⟨#[110]⟩,0,1,1⟩
def samS2:StpD:=⟨⟨#[98]⟩,⟨#[97]⟩,3,⟨#[]⟩,⟨#[]⟩,⟨#[]⟩,0,0,0⟩
def samC:List CntD:=[⟨⟨#[110]⟩,2⟩]
def samT:List StaD:=[⟨⟨#[97]⟩,false,0⟩,⟨⟨#[98]⟩,true,5⟩]
def samR:RolD:=⟨⟨#[99]⟩,samT,samC,[samS1,samS2]⟩
theorem own_obj {α:Type} {w:World} {base b n m:Nat} {T:TypeId} {enc:α→List Value} {l:List α} {cs:Array Value} (h:w.heap[b]?=some (.cells cs T (0,0))) (hcs:cs=(l.flatMap enc).toArray) (hm:m=l.length) (hn:∀ x,(enc x).length=n) (hb:base≤b) (hl:l.length≤1000000):OwnE w base T n enc (.slice (some ⟨b,0,none⟩) m m) l:=by
 subst hcs hm
 have hfl:(l.flatMap enc).length=l.length*n:=by
  clear hl h
  induction l with
  | nil=>simp
  | cons a l ih=>rw [List.flatMap_cons,List.length_append,hn,ih,List.length_cons,Nat.add_mul];omega
 refine ⟨hfl,.inr ⟨b,_,_,rfl,hb,h,Nat.le_refl _,by simp only [maxLen];omega,by rw [List.size_toArray,hfl],?_⟩⟩
 rw [List.take_of_length_le (by show (l.flatMap enc).length≤_;omega)]
structure SamAt (w:World) (base:Nat) (v:Value) (bS bC bT:Nat):Prop where
 v:v = .agg (rolCells samR (.slice (some ⟨bS,0,none⟩) 2 2) (.slice (some ⟨bC,0,none⟩) 1 1) (.slice (some ⟨bT,0,none⟩) 2 2)).toArray
 S:w.heap[bS]?=some (.cells (samT.flatMap staCells).toArray 50 (0,0))
 C:w.heap[bC]?=some (.cells (samC.flatMap cntCells).toArray 52 (0,0))
 T:w.heap[bT]?=some (.cells ([samS1,samS2].flatMap stpCells).toArray 71 (0,0))
 le:base≤bS∧base≤bC∧base≤bT
theorem SamAt.val {w:World} {base bS bC bT:Nat} {v:Value} (h:SamAt w base v bS bC bT):RolVal w v samR:=by
 obtain ⟨hv,h1,h2,h3,l1,l2,l3⟩:=h
 exact RolOwn.val (base:=base) ⟨_,_,_,hv,own_obj (l:=samT) h1 rfl rfl (fun _=>rfl) l1 (by decide),own_obj (l:=samC) h2 rfl rfl (fun _=>rfl) l2 (by decide),own_obj (l:=[samS1,samS2]) h3 rfl rfl (fun _=>rfl) l3 (by decide)⟩
theorem SamAt.ext {w w':World} {base bS bC bT:Nat} {v:Value} (h:SamAt w base v bS bC bT) (e:Ext w w'):SamAt w' base v bS bC bT:=⟨h.v,e.obj h.S,e.obj h.C,e.obj h.T,h.le⟩
theorem sample_ret (w0:World):Ret Pg 35 #[] w0 fun r w'=>Ext w0 w'∧∃ bS bC bT,SamAt w' w0.heap.size r bS bC bT:=by
 refine n10s (R:=retR _) ?_;unfold n10
 simp (disch:=try exact DI) only [↓PR,QR,simprocAttr]
 refine ⟨(((((Ext.refl w0).alloc _).alloc _).alloc _).alloc _),w0.heap.size+1+1,w0.heap.size+1,w0.heap.size+1+1+1,⟨rfl,?_,?_,?_,by omega,by omega,by omega⟩⟩
 · simp (disch:=try exact DI) only [↓PR,QR,simprocAttr]
   rfl
 · simp (disch:=try exact DI) only [↓PR,QR,simprocAttr]
   rfl
 · simp (disch:=try exact DI) only [↓PR,QR,simprocAttr]
   rfl
def samX:RolD:={ samR with steps:=[{ samS1 with high:=2 },samS2] }
def samY:RolD:={ samR with steps:=[{ samS1 with peer:=⟨#[99]⟩ },samS2] }
def samZ:RolD:={ samR with states:=[] }
def samTurned:RolD:=⟨⟨#[115]⟩,samT.map still,samC,[⟨⟨#[97]⟩,⟨#[98]⟩,2,⟨#[109]⟩,⟨#[99]⟩,⟨#[110]⟩,0,1,1⟩,⟨⟨#[98]⟩,⟨#[97]⟩,4,⟨#[]⟩,⟨#[]⟩,⟨#[]⟩,0,0,0⟩]⟩
theorem kn_check:checkR samR=(0,0)∧checkR samX=(0,293)∧checkR samY=(0,293)∧checkR samZ=(0,292):=by decide +kernel
theorem kn_parse1:parseP ⟨#[114,111,108,101,32,99]⟩=(zeroR,0,292):=by decide +kernel
theorem kn_parse2:parseP ⟨#[114,111,108,101,32,99,10,115,116,97,116,101,32,97,10,115,116,97,116,101,32,49]⟩=(zeroR,3,6):=by decide +kernel
theorem kn_turn:turnP samR ⟨#[115]⟩=(samTurned,0):=by decide +kernel
abbrev kn_text:ByteArray:=⟨#[114,111,108,101,32,99,10,99,111,117,110,116,101,114,32,110,32,50,10,115,116,97,116,101,32,97,10,115,116,97,116,101,32,98,32,119,97,105,116,32,53,32,102,105,110,97,108,10,115,116,101,112,32,97,32,98,32,115,101,110,100,32,109,32,115,32,119,104,101,110,32,110,32,48,32,49,32,49,10,115,116,101,112,32,98,32,97,32,116,105,109,101,111,117,116]⟩
theorem kn_print:printR samR=kn_text:=by
 have d0:decB 0=⟨#[UInt8.ofNat (48+0)]⟩:=dec_one (n:=0) (by decide)
 have d1:decB 1=⟨#[UInt8.ofNat (48+1)]⟩:=dec_one (n:=1) (by decide)
 have d2:decB 2=⟨#[UInt8.ofNat (48+2)]⟩:=dec_one (n:=2) (by decide)
 have d5:decB 5=⟨#[UInt8.ofNat (48+5)]⟩:=dec_one (n:=5) (by decide)
 unfold printR
 rw [kn_check.1,if_pos rfl,← textP_eq]
 have h1:textP samR=stpT (stpT (staT (staT (cntT (⟨#[114,111,108,101,32]⟩++⟨#[99]⟩) ⟨⟨#[110]⟩,2⟩) ⟨⟨#[97]⟩,false,0⟩) ⟨⟨#[98]⟩,true,5⟩) samS1) samS2:=rfl
 rw [h1]
 have c1:∀ s,cntT s ⟨⟨#[110]⟩,2⟩=s++⟨#[10,99,111,117,110,116,101,114,32]⟩++⟨#[110]⟩++⟨#[32]⟩++decB 2:=fun s=>rfl
 have c2:∀ s,staT s ⟨⟨#[97]⟩,false,0⟩=s++⟨#[10,115,116,97,116,101,32]⟩++⟨#[97]⟩:=fun s=>rfl
 have c3:∀ s,staT s ⟨⟨#[98]⟩,true,5⟩=s++⟨#[10,115,116,97,116,101,32]⟩++⟨#[98]⟩++⟨#[32,119,97,105,116,32]⟩++decB 5++⟨#[32,102,105,110,97,108]⟩:=fun s=>rfl
 have c4:∀ s,stpT s samS1=s++⟨#[10,115,116,101,112,32]⟩++⟨#[97]⟩++⟨#[32]⟩++⟨#[98]⟩++⟨#[32]⟩++kwB 1++⟨#[32]⟩++⟨#[109]⟩++⟨#[32]⟩++⟨#[115]⟩++⟨#[32,119,104,101,110,32]⟩++⟨#[110]⟩++⟨#[32]⟩++decB 0++⟨#[32]⟩++decB 1++⟨#[32]⟩++decB 1:=fun s=>rfl
 have c5:∀ s,stpT s samS2=s++⟨#[10,115,116,101,112,32]⟩++⟨#[98]⟩++⟨#[32]⟩++⟨#[97]⟩++⟨#[32]⟩++kwB 3:=fun s=>rfl
 rw [c1,c2,c3,c4,c5,d0,d1,d2,d5]
 decide +kernel
theorem num_ret (w:World) (v:Value):Ret Pg 15 #[v] w fun r w'=>r=v∧w'=w:=by
 refine n9s (R:=retR _) ?_;unfold n9
 exact ⟨_,rfl,rfl,rfl⟩
theorem q_step0 {C:World→Prop} [ClassNe C] (b n c:Nat) (hn:0 < n) {K:Value→Prop}:qV Pg C (Instr.indexAt 24 (.slice (some ⟨b,0,none⟩) n c) (.int .i64 0)) K=K (.pointer (some ⟨b,0,none⟩)):=qV_of fun QP w k=>(op_indexN Tryz.underlying24 ty71 b 0 n c .i64 0 hn).trans (by rw [Nat.zero_mul,Nat.add_zero])
theorem known_ret (w0:World) (hE:EnvOK w0):Ret Pg 11 #[] w0 fun r w'=>r = .bool true∧Ext w0 w':=by
 obtain ⟨ck0,ckX,ckY,ckZ⟩:=kn_check
 have hsmR:∀ x∈samR.steps,StpSm x:=by
  intro x hx
  have:x=samS1∨x=samS2:=by simpa [samR] using hx
  rcases this with rfl | rfl<;>(unfold StpSm;decide)
 have hsmX:∀ x∈samX.steps,StpSm x:=by
  intro x hx
  have:x={ samS1 with high:=2 }∨x=samS2:=by simpa [samX] using hx
  rcases this with rfl | rfl<;>(unfold StpSm;decide)
 have hsmY:∀ x∈samY.steps,StpSm x:=by
  intro x hx
  have:x={ samS1 with peer:=⟨#[99]⟩ }∨x=samS2:=by simpa [samY] using hx
  rcases this with rfl | rfl<;>(unfold StpSm;decide)
 have hok:RolOk samR:=by
  refine ⟨by decide,?_,?_,?_,by decide,by decide,by decide⟩
  · intro c hc
    have:c=⟨⟨#[110]⟩,2⟩:=by simpa [samR,samC] using hc
    subst this;decide
  · intro c hc
    have:c=⟨⟨#[97]⟩,false,0⟩∨c=⟨⟨#[98]⟩,true,5⟩:=by simpa [samR,samT] using hc
    rcases this with rfl | rfl<;>decide
  · intro x hx
    refine ⟨hsmR x hx,?_⟩
    have:x=samS1∨x=samS2:=by simpa [samR] using hx
    rcases this with rfl | rfl<;>decide
 refine n8s (R:=retR _) ?_;unfold n8
 refine callK_ret (sample_ret w0) ?_
 rintro v w1 ⟨e1,bS,bC,bT,hs⟩
 refine zcr (Print_ret w1 v samR hs.val hok (hE.ext e1).tab) fun w2 e2=>?_
 rw [kn_print,ck0]
 have dk:decide (kn_text=kn_text)=true:=decide_eq_true rfl
 unfold n8c24
 simp (disch:=try exact DI) only [↓PR,QR,simprocAttr,dk]
 refine callK_ret (num_ret w2 _) ?_
 rintro _ w2' ⟨rfl,rfl⟩
 simp (disch:=try exact DI) only [↓PR,QR,simprocAttr]
 unfold n8c23
 have E2:=e1.trans e2
 refine callK_ret (sample_ret w2') ?_
 rintro vx w3 ⟨e3,bSx,bCx,bTx,hx⟩
 refine callK_ret (sample_ret w3) ?_
 rintro vy w4 ⟨e4,bSy,bCy,bTy,hy⟩
 refine callK_ret (sample_ret w4) ?_
 rintro vz w5 ⟨e5,bSz,bCz,bTz,hz⟩
 have bx3:bTx < w3.heap.size:=(Array.getElem?_eq_some_iff.1 hx.T).1
 have by4:bTy < w4.heap.size:=(Array.getElem?_eq_some_iff.1 hy.T).1
 have s45:=e5.size
 have hx:=hx.ext (e4.trans e5)
 have hy:=hy.ext e5
 have E5:=((E2.trans e3).trans e4).trans e5
 obtain ⟨rfl,hxS,hxC,hxT,lx1,lx2,lx3⟩:=hx
 obtain ⟨rfl,hyS,hyC,hyT,ly1,ly2,ly3⟩:=hy
 obtain ⟨rfl,hzS,hzC,hzT,lz1,lz2,lz3⟩:=hz
 unfold n8c22
 simp (disch:=try exact DI) only [↓PR,QR,simprocAttr]
 simp only [World.size_alloc]
 have o3:∀ a b c:Obj,(((w5.alloc a).alloc b).alloc c).heap[w5.heap.size]?=some a∧(((w5.alloc a).alloc b).alloc c).heap[w5.heap.size+1]?=some b∧(((w5.alloc a).alloc b).alloc c).heap[w5.heap.size+1+1]?=some c:=fun a b c=>by refine ⟨?_,?_,?_⟩<;>simp (disch:=try exact DI) only [↓PR,QR,simprocAttr]
 obtain ⟨oX,oY,oZ⟩:=o3 (Obj.cells (rolCells samR (.slice (some ⟨bSx,0,none⟩) 2 2) (.slice (some ⟨bCx,0,none⟩) 1 1) (.slice (some ⟨bTx,0,none⟩) 2 2)).toArray TRol) (Obj.cells (rolCells samR (.slice (some ⟨bSy,0,none⟩) 2 2) (.slice (some ⟨bCy,0,none⟩) 1 1) (.slice (some ⟨bTy,0,none⟩) 2 2)).toArray TRol) (Obj.cells (rolCells samR (.slice (some ⟨bSz,0,none⟩) 2 2) (.slice (some ⟨bCz,0,none⟩) 1 1) (.slice (some ⟨bTz,0,none⟩) 2 2)).toArray TRol)
 have eU:Ext w5 (((w5.alloc (Obj.cells (rolCells samR (.slice (some ⟨bSx,0,none⟩) 2 2) (.slice (some ⟨bCx,0,none⟩) 1 1) (.slice (some ⟨bTx,0,none⟩) 2 2)).toArray TRol)).alloc (Obj.cells (rolCells samR (.slice (some ⟨bSy,0,none⟩) 2 2) (.slice (some ⟨bCy,0,none⟩) 1 1) (.slice (some ⟨bTy,0,none⟩) 2 2)).toArray TRol)).alloc (Obj.cells (rolCells samR (.slice (some ⟨bSz,0,none⟩) 2 2) (.slice (some ⟨bCz,0,none⟩) 1 1) (.slice (some ⟨bTz,0,none⟩) 2 2)).toArray TRol)):=(((Ext.refl w5).alloc _).alloc _).alloc _
 generalize World.alloc (World.alloc (World.alloc w5 _) _) _=U at oX oY oZ eU ⊢
 clear o3
 have hxS:=eU.obj hxS
 have hxC:=eU.obj hxC
 have hxT:=eU.obj hxT
 have hyS:=eU.obj hyS
 have hyC:=eU.obj hyC
 have hyT:=eU.obj hyT
 have hzC:=eU.obj hzC
 have hzT:=eU.obj hzT
 have bl:∀ {b:Nat} {o:Obj},w5.heap[b]?=some o→b < w5.heap.size:=fun h=>(Array.getElem?_eq_some_iff.1 h).1
 have s34:=e4.size
 have hxy:bTx≠bTy:=by omega
 refine drawK_introB bTx bTy (w1:=U) (fun _ _ _ _=>rfl) ?_
 have eD:Ext U (Sw.drew U):=(Ext.refl U).drew
 have hKD:KB U bTx bTy (Sw.drew U):=fun _ _ _ _=>rfl
 generalize Sw.drew U=D at eD hKD ⊢
 have n1:w5.heap.size≠bTx:=by omega
 have n2:w5.heap.size≠bTy:=by omega
 have n3:w5.heap.size+1≠bTx:=by omega
 have n4:w5.heap.size+1≠bTy:=by omega
 have n5:w5.heap.size+1+1≠bTx:=by omega
 have n6:w5.heap.size+1+1≠bTy:=by omega
 have E6:=E5.trans eU
 have s5:=E5.size
 generalize hb:w5.heap.size=B at *
 have dX:=eD.obj oX
 have dY:=eD.obj oY
 have dZ:=eD.obj oZ
 have dxT:=eD.obj hxT
 have dyT:=eD.obj hyT
 have hK1:∀ v,KB U bTx bTy (D.setCell ⟨bTx,7,none⟩ v):=fun v b hb h1 h2=>(Only.setCell D bTx 7 v b h1).trans (hKD b hb h1 h2)
 unfold n8c21
 have i0:∀ (b:Nat) (K:Value→Prop),qV Pg (KB U bTx bTy) (Instr.indexAt 24 (.slice (some ⟨b,0,none⟩) 2 2) (.int .i64 0)) K=K (.pointer (some ⟨b,0,none⟩)):=fun b K=>q_step0 b 2 2 (by decide)
 have q7:D.cell? ⟨bTx,7,none⟩=some (.int .i64 1):=by rw [(cells_of_heap dxT).1];rfl
 have z7:D.frozen? ⟨bTx,7,none⟩=false:=(cells_of_heap dxT).2 _
 simp (disch:=try exact DI) only [↓PR,QR,simprocAttr,(cells_of_heap oX).1,(cells_of_heap oY).1,i0,q7,z7]
 refine ⟨hK1 _,?_⟩
 have f1:(D.setCell ⟨bTx,7,none⟩ (.int .i64 2)).heap[bTx]?=some (.cells ([{ samS1 with high:=2 },samS2].flatMap stpCells).toArray 71 (0,0)):=heap_set (o:=7) dxT (.int .i64 2)
 have f2:∀ b,b≠bTx→(D.setCell ⟨bTx,7,none⟩ (.int .i64 2)).heap[b]?=D.heap[b]?:=fun b hb=>Only.setCell D bTx 7 _ b hb
 have E7:Ext w0 (D.setCell ⟨bTx,7,none⟩ (.int .i64 2)):=(E6.trans eD).setCell (p:=⟨bTx,7,none⟩) (by have:=E2.size;show w0.heap.size≤bTx;omega) _
 generalize World.setCell D _ _=D1 at f1 f2 E7 ⊢
 have gX:=(f2 _ n1).trans dX
 have gY:=(f2 _ n3).trans dY
 have gZ:=(f2 _ n5).trans dZ
 have gyT:=(f2 bTy (Ne.symm hxy)).trans dyT
 unfold n8c20
 have q4:D1.cell? ⟨bTy,4,none⟩=some (.string ⟨#[115]⟩):=by rw [(cells_of_heap gyT).1];rfl
 have z4:D1.frozen? ⟨bTy,4,none⟩=false:=(cells_of_heap gyT).2 _
 simp (disch:=try exact DI) only [↓PR,QR,simprocAttr,i0,q4,z4]
 refine turnK_intro ?_
 have f3:(D1.setCell ⟨bTy,4,none⟩ (.string ⟨#[99]⟩)).heap[bTy]?=some (.cells ([{ samS1 with peer:=⟨#[99]⟩ },samS2].flatMap stpCells).toArray 71 (0,0)):=heap_set (o:=4) gyT (.string ⟨#[99]⟩)
 have f4:∀ b,b≠bTy→(D1.setCell ⟨bTy,4,none⟩ (.string ⟨#[99]⟩)).heap[b]?=D1.heap[b]?:=fun b hb=>Only.setCell D1 bTy 4 _ b hb
 have E8:Ext w0 (D1.setCell ⟨bTy,4,none⟩ (.string ⟨#[99]⟩)):=E7.setCell (p:=⟨bTy,4,none⟩) (by have:=(E2.trans e3).size;show w0.heap.size≤bTy;omega) _
 generalize World.setCell D1 _ _=D2 at f3 f4 E8 ⊢
 have gZ2:=(f4 _ n6).trans gZ
 unfold n8c19
 simp (disch:=try exact DI) only [↓PR,QR,simprocAttr,(cells_of_heap gZ2).1,(cells_of_heap gZ2).2]
 refine turnK_intro ?_
 have f5:=heap_set (o:=1) gZ2 (.slice none 0 0)
 have f6:∀ b,b≠B+1+1→(D2.setCell ⟨B+1+1,1,none⟩ (.slice none 0 0)).heap[b]?=D2.heap[b]?:=fun b hb=>Only.setCell D2 _ 1 _ b hb
 have E9:Ext w0 (D2.setCell ⟨B+1+1,1,none⟩ (.slice none 0 0)):=E8.setCell (p:=⟨B+1+1,1,none⟩) (by show w0.heap.size≤B+1+1;omega) _
 generalize World.setCell D2 _ _=D3 at f5 f6 E9 ⊢
 have kk:∀ b,b≠bTx→b≠bTy→b≠B+1+1→b < U.heap.size→D3.heap[b]?=U.heap[b]?:=fun b h1 h2 h3 h4=>(f6 b h3).trans ((f4 b h2).trans ((f2 b h1).trans (eD.block b h4)))
 have hbl:∀ {b:Nat} {o:Obj},U.heap[b]?=some o→b < U.heap.size:=fun h=>(Array.getElem?_eq_some_iff.1 h).1
 have tn:∀ {b b':Nat} {T T':TypeId} {c c':Array Value},U.heap[b]?=some (.cells c T (0,0))→U.heap[b']?=some (.cells c' T' (0,0))→T≠T'→b≠b':=fun h h' hne e=>by
  subst e
  rw [h] at h'
  simp only [Option.some.injEq,Obj.cells.injEq] at h'
  exact hne h'.2.1
 have jX:D3.heap[B]?=_:=(kk B n1 n2 (by omega) (hbl oX)).trans oX
 have jY:D3.heap[B+1]?=_:=(kk (B+1) n3 n4 (by omega) (hbl oY)).trans oY
 have jxS:D3.heap[bSx]?=_:=(kk bSx (tn hxS hxT (by decide)) (tn hxS hyT (by decide)) (tn hxS oZ (by decide)) (hbl hxS)).trans hxS
 have jxC:D3.heap[bCx]?=_:=(kk bCx (tn hxC hxT (by decide)) (tn hxC hyT (by decide)) (tn hxC oZ (by decide)) (hbl hxC)).trans hxC
 have jyS:D3.heap[bSy]?=_:=(kk bSy (tn hyS hxT (by decide)) (tn hyS hyT (by decide)) (tn hyS oZ (by decide)) (hbl hyS)).trans hyS
 have jyC:D3.heap[bCy]?=_:=(kk bCy (tn hyC hxT (by decide)) (tn hyC hyT (by decide)) (tn hyC oZ (by decide)) (hbl hyC)).trans hyC
 have jzC:D3.heap[bCz]?=_:=(kk bCz (tn hzC hxT (by decide)) (tn hzC hyT (by decide)) (tn hzC oZ (by decide)) (hbl hzC)).trans hzC
 have bz:bTz≠bTx∧bTz≠bTy:=by omega
 have jzT:D3.heap[bTz]?=_:=(kk bTz bz.1 bz.2 (tn hzT oZ (by decide)) (hbl hzT)).trans hzT
 have jxT:D3.heap[bTx]?=_:=((f6 bTx (tn hxT oZ (by decide))).trans (f4 bTx hxy)).trans f1
 have jyT:D3.heap[bTy]?=_:=(f6 bTy (tn hyT oZ (by decide))).trans f3
 have vX:RolVal D3 (.agg #[.string ⟨#[99]⟩,.slice (some ⟨bSx,0,none⟩) 2 2,.slice (some ⟨bCx,0,none⟩) 1 1,.slice (some ⟨bTx,0,none⟩) 2 2]) samX:=RolOwn.val (base:=0) ⟨_,_,_,rfl,own_obj (l:=samT) jxS rfl rfl (fun _=>rfl) (Nat.zero_le _) (by decide),own_obj (l:=samC) jxC rfl rfl (fun _=>rfl) (Nat.zero_le _) (by decide),own_obj (l:=samX.steps) jxT rfl rfl (fun _=>rfl) (Nat.zero_le _) (by decide)⟩
 have vY:RolVal D3 (.agg #[.string ⟨#[99]⟩,.slice (some ⟨bSy,0,none⟩) 2 2,.slice (some ⟨bCy,0,none⟩) 1 1,.slice (some ⟨bTy,0,none⟩) 2 2]) samY:=RolOwn.val (base:=0) ⟨_,_,_,rfl,own_obj (l:=samT) jyS rfl rfl (fun _=>rfl) (Nat.zero_le _) (by decide),own_obj (l:=samC) jyC rfl rfl (fun _=>rfl) (Nat.zero_le _) (by decide),own_obj (l:=samY.steps) jyT rfl rfl (fun _=>rfl) (Nat.zero_le _) (by decide)⟩
 have vZ:RolVal D3 (.agg #[.string ⟨#[99]⟩,.slice none 0 0,.slice (some ⟨bCz,0,none⟩) 1 1,.slice (some ⟨bTz,0,none⟩) 2 2]) samZ:=RolOwn.val (base:=0) ⟨_,_,_,rfl,OwnE.nil _ _ _ _ _,own_obj (l:=samC) jzC rfl rfl (fun _=>rfl) (Nat.zero_le _) (by decide),own_obj (l:=[samS1,samS2]) jzT rfl rfl (fun _=>rfl) (Nat.zero_le _) (by decide)⟩
 simp (disch:=try exact DI) only [↓PR,QR,simprocAttr,(cells_of_heap jX).1]
 refine zcr (Check_ret D3 _ samX vX hsmX (by decide)) fun u1 a1=>?_
 rw [ckX]
 unfold n8c18
 simp (disch:=try exact DI) only [↓PR,QR,simprocAttr,(cells_of_heap (a1.obj jY)).1]
 refine zcr (Check_ret u1 _ samY (vY.ext a1) hsmY (by decide)) fun u2 a2=>?_
 rw [ckY]
 have a12:=a1.trans a2
 unfold n8c17
 simp (disch:=try exact DI) only [↓PR,QR,simprocAttr,(cells_of_heap (a12.obj f5)).1]
 refine zcr (Check_ret u2 _ samZ (vZ.ext a12) hsmR (by decide)) fun u3 a3=>?_
 rw [ckZ]
 have E10:=E9.trans (a12.trans a3)
 unfold n8c16
 simp (disch:=try exact DI) only [↓PR,QR,simprocAttr]
 refine callK_ret (Parse_ret (hE.ext E10) (by decide)) ?_
 rintro _ u4 ⟨⟨v4,rfl,hv4⟩,a4⟩
 rw [kn_parse1] at hv4 ⊢
 obtain ⟨y1,y2,y3,rfl,g1,g2,g3⟩:=hv4.val
 have oo1:=SliceOf.oneCell g1
 have oo2:=SliceOf.oneCell g2
 have oo3:=SliceOf.oneCell g3
 unfold n8c15
 simp (disch:=try exact DI) only [↓PR,QR,simprocAttr]
 generalize hU5:World.alloc u4 _=u5
 have a5:Ext u4 u5:=by rw [← hU5];exact (Ext.refl u4).alloc _
 clear hU5
 have E11:=E10.trans (a4.trans a5)
 refine callK_ret (Parse_ret (hE.ext E11) (by decide)) ?_
 rintro _ u6 ⟨⟨v6,rfl,hv6⟩,a6⟩
 rw [kn_parse2] at hv6 ⊢
 obtain ⟨z1,z2,z3,rfl,g4,g5,g6⟩:=hv6.val
 have oo4:=SliceOf.oneCell g4
 have oo5:=SliceOf.oneCell g5
 have oo6:=SliceOf.oneCell g6
 have wr0:(IntKind.i64.wrap (IntKind.i64.wrap 0+0) != 0)=false:=by decide
 unfold n8c14
 simp (disch:=try exact DI) only [↓PR,QR,simprocAttr,wr0,↓n8c13,↓n8c12,↓n8c11,↓n8c10,↓n8c9,↓n8c8,↓n8c7]
 generalize hU7:World.alloc u6 _=u7
 have a7:Ext u6 u7:=by rw [← hU7];exact (Ext.refl u6).alloc _
 clear hU7
 have E12:=E11.trans (a6.trans a7)
 refine callK_ret (sample_ret u7) ?_
 rintro vt u8 ⟨a8,cS,cC,cT,ht⟩
 refine callK_ret (Turn_ret u8 vt samR ⟨#[115]⟩ ht.val hsmR (by decide)) ?_
 rintro _ u9 ⟨⟨xt,rfl,hxt⟩,a9⟩
 rw [kn_turn] at hxt ⊢
 obtain ⟨sv,cv,tv,rfl,g7,g8,g9⟩:=hxt
 have oo7:=own_one g7 (fun _=>rfl)
 have oo8:=own_one g8 (fun _=>rfl)
 have oo9:=own_one g9 (fun _=>rfl)
 unfold n8c6
 simp (disch:=try exact DI) only [↓PR,QR,simprocAttr]
 have oA:=heap_new u9 (rolCells samTurned sv cv tv).toArray TRol
 have a10:Ext u9 (u9.alloc (.cells (rolCells samTurned sv cv tv).toArray TRol)):=(Ext.refl u9).alloc _
 generalize u9.alloc (.cells (rolCells samTurned sv cv tv).toArray TRol)=u10 at oA a10 ⊢
 refine callK_ret (num_ret u10 _) ?_
 rintro _ u10' ⟨rfl,rfl⟩
 have E13:=E12.trans (a8.trans (a9.trans a10))
 have hT:=(g9.ext a10).slice (E:=EStp) (fun _=>rfl) (fun _ _=>rfl)
 obtain ⟨TA,tc,rfl,_,_,_,hel⟩:=SliceOf.open hT
 obtain ⟨bt,ot,cs0,rfl,_,hA0,rfl⟩:=hel 0 _ rfl
 obtain ⟨bt',ot',cs1,hA',_,hA1,rfl⟩:=hel 1 _ rfl
 injection hA' with hA'
 injection hA' with e1' e2'
 subst e1' e2'
 have l2:((samTurned.steps.length:Int) == 2)=true:=by decide
 have j0:∀ (QP:List PanicEntry→World→Prop) (w:World) (K:Value→World→Prop),opV Pg (Instr.indexAt 24 (.slice (some ⟨bt,ot,none⟩) samTurned.steps.length tc) (.int .i64 0)) QP w K=K (.pointer (some ⟨bt,ot+0*9,none⟩)) w:=fun QP w K=>op_indexN Tryz.underlying24 ty71 bt ot samTurned.steps.length tc .i64 0 (by decide)
 have j1:∀ (QP:List PanicEntry→World→Prop) (w:World) (K:Value→World→Prop),opV Pg (Instr.indexAt 24 (.slice (some ⟨bt,ot,none⟩) samTurned.steps.length tc) (.int .i64 1)) QP w K=K (.pointer (some ⟨bt,ot+1*9,none⟩)) w:=fun QP w K=>op_indexN Tryz.underlying24 ty71 bt ot samTurned.steps.length tc .i64 1 (by decide)
 generalize ot+0*9=ot0 at hA0 j0
 generalize ot+1*9=ot1 at hA1 j1
 unfold n8c5
 simp (disch:=try exact DI) only [↓PR,QR,simprocAttr,↓n8c4,(cells_of_heap oA).1,l2,↓n8c3,j0,hA0.c9 (Ext.refl _)]
 unfold n8c2
 simp (disch:=try exact DI) only [↓PR,QR,simprocAttr,↓n8c1,(cells_of_heap oA).1,j1,hA1.c9 (Ext.refl _)]
 exact ⟨by first | trivial | rfl | decide,E13⟩
def n7c1 (t5 t12:Value) (R:RT) (w:World):Prop :=
 joinK (fun (t13:Value) (w:World) =>
 joinK (fun (t14:Value) (w:World) =>
 pickK t5 (.bool true) t14 fun t15 =>
 R (.returned t15) w) fun K3 =>
 guardP t5 false (
 pickK t12 t13 (.bool false) fun t14 =>
 K3 t14 w) (
 K3 undef w)) fun K2 =>
 guardP t12 true (
 callK Pg 11 #[] (panK R) w fun t13 w =>
 K2 t13 w) (
 K2 undef w)
def n7 (t0:Value) (R:RT) (w:World):Prop :=
 opV Pg (Builtin.len_ #[9] 3 #[t0]) (panK R) w fun t4 w =>
 opV Pg (binS .gtr 3 true t4 (.int .i64 100)) (panK R) w fun t5 w =>
 joinK (fun (t12:Value) (w:World) =>
 n7c1 t5 t12 R w) fun K1 =>
 guardP t5 false (
 callK Pg 17 #[t0] (panK R) w fun t8 w =>
 callK Pg 18 #[t0] (panK R) w fun t10 w =>
 opV Pg (binS .eql 4 false t8 t10) (panK R) w fun t11 w =>
 K1 t11 w) (
 K1 undef w)
theorem n7s {t0:Value} {R:RT} {w:World} (h:n7 t0 R w):Calls Pg 4 #[t0] w R:=by
 refine yD Tryz.func4 ?_
 refine zs<|zr<|zm<|zn<|zk<|zs<|sim_regionG<|yG 4<|zm<|yx h fun _ w h=>yb h fun _ w h=>zm<|zn<|yg1 6 3 false [7,8,9,10,11,12] 12 h (fun _ T hT h=>?_) fun σ w h=>?_
 · refine zm<|yc h c17 fun _ w h=>zm<|yc h c18 fun _ w h=>yb h fun _ w h=>zm<|zn ?_
   exact zt hT h
 refine yg1 1 9 true [13] 13 h (fun _ T hT h=>?_) fun σ w h=>?_
 · refine yc h c11 fun _ w h=>zn ?_
   exact zt hT h
 refine yg1 1 3 false [14] 14 h (fun _ T hT h=>?_) fun σ w h=>?_
 · refine yp h fun _ h=>zn ?_
   exact zt hT h
 exact yG 2<|yp h fun _ h=>zm<|zn<|sim_end<|zk<|sim_ret<|body_ret1 rfl rfl h
theorem RoleNames_ret (w0:World) (s:ByteArray) (hE:EnvOK w0):Ret Pg 4 #[.string s] w0 fun r w'=>r = .bool true∧Ext w0 w':=by
 refine n7s (R:=retR _) ?_;unfold n7
 by_cases h:s.size > 100
 · have d1:decide ((s.size:Int) > 100)=true:=decide_eq_true (by omega)
   simp (disch:=try exact DI) only [↓PR,QR,simprocAttr,d1,↓n7c1]
   exact ⟨by trivial,Ext.refl _⟩
 have d1:decide ((s.size:Int) > 100)=false:=decide_eq_false (by omega)
 simp (disch:=try exact DI) only [↓PR,QR,simprocAttr,d1]
 refine zcr (Name_ret w0 s) fun w1 e1=>?_
 refine zcr (rName_ret w1 s) fun w2 e2=>?_
 have q:(nameB s == nameB s)=true:=by simp
 simp (disch:=try exact DI) only [↓PR,QR,simprocAttr,q,↓n7c1]
 refine zcr (known_ret w2 (hE.ext (e1.trans e2))) fun w3 e3=>?_
 simp (disch:=try exact DI) only [↓PR,QR,simprocAttr,d1,q]
 exact ⟨by trivial,(e1.trans e2).trans e3⟩
end Go.Proofs.YtngflmjncplkaaaGreatDoor
namespace Go.Proofs.YtngflmjncplkaaaGreatDoor
open Sw
open Go.RowKit Go.Deep
def role_laid:List (String×DataW Unit):=[("math/bits.deBruijn32tab", Rows.laid_math_bits_deBruijn32tab),("math/bits.deBruijn64tab", Rows.laid_math_bits_deBruijn64tab),("internal/strconv.uint64pow10", Rows.laid_internal_strconv_uint64pow10),("unicode/utf8.acceptRanges", Rows.laid_unicode_utf8_acceptRanges),("strconv.ErrRange", Rows.laid_strconv_ErrRange),("strconv.ErrSyntax", Rows.laid_strconv_ErrSyntax),("unicode/utf8.first", Rows.laid_unicode_utf8_first)]
theorem role_own:ownKnob Pg.godebug=none:=by kernel_rfl
theorem role_laidOut:laidOutB Pg=true:=by kernel_rfl
theorem role_met (os:Os) (args:Array Value):laidMetH Pg role_laid ((World.laidAll Pg os role_laid).forCall (fun _ _=>0) ⟨#[],args,[]⟩).memory:=by
 rw [MakeChecks.laidMetH_plain _ _ _ (by kernel_rfl)]
 exact laidMet_laidAll _ (by kernel_rfl) (by kernel_rfl)
theorem role_tab {W:World} (h:laidMetH Pg role_laid W):TabOK W:=by
 rw [MakeChecks.laidMetH_plain _ _ _ (by kernel_rfl)] at h
 have h3:=laidMet.tail (laidMet.tail h)
 have he:(Rows.laid_internal_strconv_uint64pow10:DataW Unit)=Go.Lib.tabData .u64 Go.Lib.pow10Tab:=by kernel_rfl
 rw [he] at h3
 obtain ⟨g,hg⟩:=Option.isSome_iff_exists.1 gPow
 have hty:(Pg.globals[g]?).map (·.type)=some 197:=by
  have h1:(Pg.globalNamed "internal/strconv.uint64pow10").bind (fun g=>(Pg.globals[g]?).map (·.type))=some 197:=by kernel_rfl
  rw [hg] at h1
  exact h1
 exact Go.Lib.tabIs_of_head hg hty Tryz.underlying197 Tryz.underlying161 (by kernel_rfl) (by kernel_rfl) h3
theorem role_star : "*" ++ "errors.errorString" = "*errors.errorString" := by decide
theorem role_rowErr (u:TypeId) (h:Pg.typeName? 3 u=some "*errors.errorString"):u=200 :=
 typeName_ptr_named (nm := "errors.errorString") (by rw [role_star];kernel_rfl) (by kernel_rfl) (by decide) u (by rw [role_star];exact h)
theorem role_env {W:World} (hs:W.ShapedOpen Pg) (h:laidMetH Pg role_laid W):EnvOK W:=by
 refine ⟨role_tab h,Go.Proofs.cell_of_shapedOpen_int (k := .i64) hs (of_decide_eq_true (by kernel_rfl)) (zero := #[.int .i64 0]) (t:=3) (by kernel_rfl) rfl (by kernel_rfl) (by kernel_rfl) Tryz.underlying3,?_,?_⟩
 · rw [MakeChecks.laidMetH_plain _ _ _ (by kernel_rfl)] at h
   have h5:=h.tail.tail.tail.tail.tail
   obtain ⟨a,s,hv,_⟩:=laid_sentinel (g:=1) h5 (by kernel_rfl) (by kernel_rfl) Tryz.underlying130 role_rowErr Tryz.underlying200 Tryz.underlying202 rfl rfl Tryz.underlying9 (by kernel_rfl) (by kernel_rfl)
   refine ⟨_,by rw [World.var?_cell (show Pg.globalNamed "strconv.ErrSyntax" = some 1 by kernel_rfl) hv 0];rfl,.inr ⟨_,_,rfl⟩⟩
 · rw [MakeChecks.laidMetH_plain _ _ _ (by kernel_rfl)] at h
   have h5:=h.tail.tail.tail.tail
   obtain ⟨a,s,hv,_⟩:=laid_sentinel (g:=2) h5 (by kernel_rfl) (by kernel_rfl) Tryz.underlying130 role_rowErr Tryz.underlying200 Tryz.underlying202 rfl rfl Tryz.underlying9 (by kernel_rfl) (by kernel_rfl)
   refine ⟨_,by rw [World.var?_cell (show Pg.globalNamed "strconv.ErrRange" = some 2 by kernel_rfl) hv 0];rfl,.inr ⟨_,_,rfl⟩⟩
theorem handed_and {H:Type} {enc:TypeId×Value→H} {a:Assume} {C:Checked} {os:Os} {f:FuncId} {fn:Func} {s:ChangeSpec} {conds:List PathCond} {apart fresh handsOn again:Bool} {X:World→Array Value→Prop}
 (hX:∀ (w w':World) (args:Array Value),w.heap=w'.heap→X w args→X w' args)
 (own:ownKnob C.prog.godebug=none) (started:os.Started) (noInit:C.prog.inits.idxOf? f=none) (hfn:C.prog.funcs[f]?=some fn)
 (witness:∃ (w:World) (tape:Tape) (i:Input),w.os=os∧(w.forCall tape i).Shaped C.prog∧i.vars=[]∧Input.okWide C.prog (w.forCall tape i) .any w.heap.size f i ∧
  ((s.pre enc C.prog fn conds apart (w.forCall tape i).memory i.args∧X (w.forCall tape i).memory i.args)∧sizedMet enc C.prog fn (OpenSpec.ofChange s) apart (w.forCall tape i).memory i.args)∧a.holds C.prog (lone (Frame.enter C.prog f i.args .normal) [] (w.forCall tape i)))
 (contract:∀ (W:World) (base:Nat) (args:Array Value) (ds gs:List (DataW H)) (before:List MemPlace),
  (∀ (j:Nat) t v,fn.params[j]?=some t→args[j]?=some v→Value.okWide C.prog W .any base t v) →
  DataW.Whole enc C.prog fn.params.toList s.vars apart W args.toList ds gs before →
  conds.all (PathCond.test C.prog ⟨fn.params.toList,ds,s.plain.varTypes C.prog,gs⟩)=true →
  (DataW.weightsEach C.prog (fn.params.toList++s.plain.varTypes C.prog) (ds++gs)).all (· ≤ reachBytes)=true→X W args→W.ShapedOpen C.prog →
  a.holds C.prog (lone (Frame.enter C.prog f args .normal) [] W) →
  Calls C.prog f args W fun e W'=>∃ v,e = .returned v∧s.post enc C.prog fn apart fresh handsOn again W args v W') :
 ReturnsInHanded a C os f .any (fun w args=>(s.pre enc C.prog fn conds apart w args∧X w args)∧sizedMet enc C.prog fn (OpenSpec.ofChange s) apart w args) (s.post enc C.prog fn apart fresh handsOn again):=by
 refine returnsInHanded_of_calls own started noInit witness ?_
 intro w tape i _ hsh _ hok hpre hholds
 obtain ⟨_,_,_,fn',hfn',_,_,_,_,hval⟩:=hok
 have e:fn'=fn:=Option.some.inj (hfn'.symm.trans hfn)
 subst e
 obtain ⟨⟨⟨ds,gs,before,hw,hc⟩,hx⟩,hz⟩:=hpre
 have hw':=DataW.Whole.of_heap (w':=w.forCall tape i) (by rfl) hw
 refine (contract (w.forCall tape i) w.heap.size i.args ds gs before hval hw' hc (hz.weights hw) (hX _ _ _ (by rfl) hx) hsh hholds).mono fun e W' ⟨v,he,hp⟩=>?_
 subst he
 exact ChangeSpec.post_blind hp
end Go.Proofs.YtngflmjncplkaaaGreatDoor
namespace Go.Sw
open Go.ChangeShapes Go.WideShapes Go.RowKit Go.ChangeAt Go.Deep
section
variable {H:Type} {enc:TypeId×Value→H} {P:Program} {w:World} {base:Nat} {spare:Nat→Bool} {held:Bool}
theorem open_str {r:Reach} {b0:Nat} {t:TypeId} {v:Value} {d:DataW H} {ps:List MemPlace} (ht:P.underlying t=some .string) (hval:Value.okWide P w r b0 t v) (hd:DataW.Trod enc P w base spare held t v d ps):∃ s:ByteArray,v = .string s∧d = .lit (.string s.data.toList):=by
 obtain ⟨s,rfl⟩:=okWide_string ht hval
 obtain ⟨fuel,hf⟩:=hd
 obtain ⟨s',h,hx,hs⟩:=DataW.trod_string ht hf
 simp [Value.cells] at h
 simp only [Prod.mk.injEq] at hx
 exact ⟨s,rfl,by rw [hx.1,h]⟩
theorem trodAll_stays (hl:laidOutB P=true) {W W':World} (he:Ext W W'):∀ {ts:List TypeId} {vs:List Value} {ds:List (DataW H)} {ps:List MemPlace},(∀ t∈ts,P.readableRec t=true∧t < P.types.size)→(∀ x∈ps,x.block < W.heap.size) →
 DataW.TrodAll enc P W 0 (fun _=>true) true ts vs ds ps→DataW.TrodAll enc P W' 0 (fun b=>decide (b < W.heap.size)) true ts vs ds ps
 | [],_,_,_,_,_,h=>by obtain ⟨rfl,rfl,rfl⟩:=trodAll_nil h;exact trodAll_mk0
 | t::ts,_,_,_,hr,hlt,h=>by
  obtain ⟨v,vs1,d,ds1,a,b,rfl,rfl,rfl,h1,h2⟩:=trodAll_cons h
  refine ⟨a,b,?_,trodAll_stays hl he (fun t ht=>hr t (List.mem_cons_of_mem _ ht)) (fun x hx=>hlt x (List.mem_append_right _ hx)) h2,rfl⟩
  exact Below.trod hl (hr t (List.mem_cons_self ..)).1 (hr t (List.mem_cons_self ..)).2 h1 ⟨he.os,he.tape,he.output,he.size,he.block⟩ (fun x hx=>hlt x (List.mem_append_left _ hx))
theorem law_post {f:Func} {s:ChangeSpec} {W W':World} {args:Array Value} {ds gs:List (DataW H)} {before:List MemPlace} {tb:TypeId} (hl:laidOutB P=true) (hr:∀ t∈f.params.toList,P.readableRec t=true∧t < P.types.size) (hs:s.vars=[])
 (hW:DataW.Whole enc P f.params.toList s.vars false W args.toList ds gs before) (he:Ext W W') (hres:f.resultTypes = #[tb]) (htb:P.underlying tb=some .bool) (hfn:(s.fn H ds).results=[.lit (.bool true)]) (hargs:(s.fn H ds).args=ds) (hvars:(s.fn H ds).vars=[]) :
 s.post enc P f false true false false W args (.bool true) W':=by
 have hW':=hW
 obtain ⟨p,q,hA,hV,rfl,_,_⟩:=hW
 rw [hs] at hV
 obtain ⟨rfl,rfl⟩:=trodVars_none hV
 have hlt:∀ x∈p,x.block < W.heap.size:=fun x hx=>hW'.lt x (by simpa using hx)
 rw [List.append_nil] at hW'
 refine ⟨ds,[],p,[],p,[],hW',?_,?_,?_,Below.frame ⟨he.os,he.tape,he.output,he.size,he.block⟩ _,fun h=>by cases h⟩
 · rw [List.append_nil,hfn,hres]
   exact trodAll_mk1 (shut_bool htb _)
 · rw [List.append_nil,hargs]
   exact trodAll_stays hl he hr hlt hA
 · rw [List.append_nil,hvars,hs]
   exact rfl
end
end Go.Sw
namespace Go.Proofs.YtngflmjncplkaaaGreatDoor
open Sw
open Go.ChangeShapes Go.WideShapes Go.RowKit Go.ChangeAt Go.Deep
theorem rnames_lifted (os:Os) (started:os.Started) (H:Type) (enc:TypeId×Value→H) :
 ReturnsInHanded {} Tryz.checked os 4 .any (fun w args=>(Rows.roleNamesSpec.pre enc Pg Tryz.f4 Rows.roleNamesRow.domain false w args∧laidMetH Pg role_laid w)∧sizedMet enc Pg Tryz.f4 (OpenSpec.ofChange Rows.roleNamesSpec) false w args) (Rows.roleNamesSpec.post enc Pg Tryz.f4 false true false false):=by
 refine handed_and (C:=Tryz.checked) (X:=fun w _=>laidMetH Pg role_laid w) (fun _ _ _ hh h=>h.of_heap hh) role_own started (by kernel_rfl) Tryz.func4
  (ChangeSpec.witness_shaped (enc:=enc) (C:=Tryz.checked) (os:=os) (X:=fun w _=>laidMetH Pg role_laid w) false (World.laidAll Pg os role_laid) #[.string ByteArray.empty] 8 (World.laidAll_os _ _ _) (World.shaped_of_ZipB (by kernel_rfl) (by kernel_rfl)) (by kernel_rfl) (by kernel_rfl) (by kernel_rfl) (role_met os _)) ?_
 intro W base args ds gs before hval hW _ hsz hL hsh _
 have hW':=hW
 obtain ⟨p,q,hA0,hV,rfl,_,_⟩:=hW
 have hA:DataW.TrodAll enc Pg W 0 (fun _=>true) true Tryz.f4.params.toList args.toList ds p:=hA0
 rw [Tryz.params4] at hA hval hsz
 obtain ⟨v0,vs0,d0,ds0,p0,q0,ha0,rfl,rfl,h0,r0⟩:=trodAll_cons hA
 obtain ⟨rfl,rfl,rfl⟩:=trodAll_nil r0
 obtain rfl:args = #[v0]:=by cases args;simp_all
 obtain ⟨s0,rfl,_⟩:=open_str Tryz.underlying9 (hval 0 _ v0 rfl rfl) h0
 refine Calls.mono (RoleNames_ret W s0 (role_env hsh hL)) fun e W' ⟨v,he,hv,hx⟩=>?_
 subst he hv
 exact ⟨_,rfl,law_post role_laidOut (by decide +kernel) rfl hW' hx rfl Tryz.underlying4 rfl rfl rfl⟩
theorem rnames_holds:Rows.RoleNamesSaid :=
 OpenClaim.holds_of_wide 4 Tryz.f4 rfl rfl rfl rfl rfl rfl rfl ⟨rfl,rfl,rfl,rfl,rfl⟩ rfl rfl rfl rfl rfl (by kernel_rfl) Tryz.func4 (by kernel_rfl)
  (of_decide_eq_true (by kernel_rfl)) (by unfold Func.isWrapper;first | (rw [if_pos (by decide +kernel)];kernel_rfl) | (rw [if_neg (by decide +kernel)];exact ⟨rfl,rfl⟩))
  (fun os started H enc _=>rnames_lifted os started H enc)
theorem rnames_card:Rows.RoleNamesCardSaid :=
 Claim7.holds_tied_plain_at .later [] [.data,.data,.data,.data,.sentinel,.sentinel,.pinned] true (true, "805d62ceadf1c0eaaccbbc96f2703f3718560c4f9884483faf4dfcc0b7041b30") true
  rnames_holds (fun _ h=>by cases h) (by kernel_rfl) (fun _ h=>by cases h) roleNames_row_tie rfl ⟨rfl,rfl⟩ (by kernel_rfl) rfl
  (fun f fn hf hfn=>by
   obtain rfl:f=4:=Option.some.inj ((show Pg.funcNamed "phrasebook/phrasebooklaw28.RoleNames" = some 4 by kernel_rfl).symm.trans hf) |>.symm
   obtain rfl:fn=Tryz.f4:=(Option.some.inj (Tryz.func4.symm.trans hfn)).symm
   exact ⟨by kernel_rfl,fun j t ht=>by
    rw [Tryz.params4] at ht
    have hm:t∈[9]:=by simpa using Array.mem_of_getElem? ht
    have hall:([9].all fun u=>!Pg.wantsStandIn u)=true:=by kernel_rfl
    exact (show Pg.wantsStandIn t=false by simpa using List.all_eq_true.1 hall t hm)⟩)
  (by kernel_rfl)
end Go.Proofs.YtngflmjncplkaaaGreatDoor
