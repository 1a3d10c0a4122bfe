/-
  Lemmas for the claim.
-/
import Derived.Test.YtfjjgjjlebllmaaGreatQt4
set_option linter.all false
set_option maxHeartbeats 4000000
set_option maxRecDepth 100000
namespace Go.Proofs.YtfjjgjjlebllmaaGreat
open Sw
open Go.RowKit (intOf Below)
theorem where_bool_ret (w0:World) (v:Value) (l:List Bool) (g:FuncId) (caps:Array Value) (p:Nat→Bool) (hs:SliceOf w0 1 EBool v l) (hl:l.length≤1048576) (hg:Callable Pg g)
 (hc:∀ (w:World) (i:Nat) (x:Bool),l[i]?=some x→Ext w0 w→Ret Pg g (#[.int .i64 (i:Int),.bool x]++caps) w fun r w'=>r = .bool (p i)∧Ext w w') :
 Ret Pg 87 #[v,.func (.func g) #[] caps] w0 fun r w'=>RowI w' w0.heap.size r (selP l.length p)∧Ext w0 w':=by
 obtain ⟨A,c,rfl,hlc,hcm,hlm,hel⟩:=SliceOf.open hs
 refine n85s (R:=retR _) ?_;unfold n85
 simp (disch:=try exact DI) only [↓PR,QR,simprocAttr]
 refine loop2_intro (fun a0 a1 w=>∃ (k:Nat) (sv:Value),a0=sv∧a1 = .int .i64 (k:Int)∧k≤l.length∧Ext w0 w∧RowI w w0.heap.size sv (selP k p)) (fun a0 a1 _=>l.length - (intOf a1).toNat) ⟨0,.slice none 0 0,rfl,rfl,Nat.zero_le _,ee,OwnE.nil _ _ _ _ _⟩ ?_
 rintro _ _ w ⟨k,sv,rfl,rfl,hk,e,hI⟩
 have se:=e.size
 rcases drop_cases hk with ⟨x,hx,hd,hlt,hdec⟩ | ⟨hk,hd,hdec⟩
 · obtain ⟨b,o,cs,rfl,hl',hA,rfl⟩:=hel k x hx
   have hA':=hA.ext e
   simp (disch:=try exact DI) only [↓PR,QR,simprocAttr,hdec,↓n85c2,hA'.c1 (Ext.refl _)]
   rw [callV_func hg]
   simp only [Array.empty_append]
   refine zcr (hc w k x hx e) fun w2 e2=>?_
   have e02:=e.trans e2
   have hR:=hI.ext e2
   have hss:=sel_succ k p
   have hsl:=sel_len k p
   cases hp:p k with
   | false =>
    rw [hp] at hss
    simp only [Bool.false_eq_true,if_false,List.append_nil] at hss
    simp (disch:=try exact DI) only [↓PR,QR,simprocAttr,↓n85c1]
    exact ⟨⟨k+1,_,rfl,rfl,by omega,ee,by rw [hss];exact hR⟩,meas_lt (kd := .i64) hlt⟩
   | true =>
    rw [hp] at hss
    simp only [if_true] at hss
    simp (disch:=try exact DI) only [↓PR,QR,simprocAttr,↓n85c1]
    generalize hY:World.alloc w2 _=Y
    have eY:Ext w2 Y:=by rw [← hY];exact ee
    have oY:Y.heap[w2.heap.size]?=some (.cells #[.int .i64 (k:Int)] 3 (0,0)):=by rw [← hY];exact heap_new _ _ _
    clear hY
    refine append_int (k:Int) (hR.ext eY) (by rw [(cells_of_heap oY).1];rfl) (e02.trans eY).size (by omega) ?_
    intro v' w' hO' hg'
    have e':=hg'.2.1 w0 (e02.trans eY) (Nat.le_refl _)
    simp (disch:=try exact DI) only [↓PR,QR,simprocAttr]
    exact ⟨⟨k+1,v',rfl,rfl,by omega,ee,by rw [hss];exact hO'⟩,meas_lt (kd := .i64) hlt⟩
 · subst hk
   simp (disch:=try exact DI) only [↓PR,QR,simprocAttr,hdec]
   exact ⟨hI,e⟩
def errD (d:DefD):Int:=if (checkP d).2.2=0 then 0 else 2
def chosenP (d:DefD) (want:Bool):List Int:=if (checkP d).2.2=0 then selP d.msgs.length (fun i=>reachB d.msgs (startI d) i == want) else []
theorem chosen_ret (w0:World) (v:Value) (d:DefD) (want:Bool) (hd:DefVal w0 v d) (ht:calm d):Ret Pg 51 #[v,.bool want] w0 fun r w'=>(∃ u,r = .tuple #[u,.int .i64 (errD d)]∧RowI w' w0.heap.size u (chosenP d want))∧Ext w0 w':=by
 obtain ⟨mv,rfl,hM⟩:=hd
 have hm1:=SliceOf.oneCell hM
 have hM0:=hM
 refine n74s (R:=retR _) ?_;unfold n74
 simp (disch:=try exact DI) only [↓PR,QR,simprocAttr]
 generalize hV:World.alloc (World.alloc w0 _) _=V
 have eV:Ext w0 V:=by rw [← hV];exact ee
 have o3:V.heap[w0.heap.size+1]?=some (.cells #[.bool want] 4 (0,0)):=by rw [← hV];simp (disch:=try exact DI) only [↓PR,QR,simprocAttr]
 clear hV
 refine callK_ret (reached_ret _ _ d ⟨_,rfl,hM0.ext eV⟩ ht) ?_
 rintro r w1 ⟨hr,e1⟩
 have E1:=eV.trans e1
 have s1:=E1.size
 have htest:∀ (l:List Bool) (w:World) (i:Nat) (x:Bool),l[i]?=some x→Ext w1 w→Ret Pg 88 #[.int .i64 (i:Int),.bool x,.pointer (some ⟨w0.heap.size+1,0,none⟩)] w fun r w'=>r = .bool ((l.map fun x=>x == want)[i]?.getD false)∧Ext w w':=by
  intro l w i x hx e
  refine n75s (R:=retR _) ?_;unfold n75
  simp (disch:=try exact DI) only [↓PR,QR,simprocAttr,(cells_of_heap ((e1.trans e).obj o3)).1]
  refine ⟨?_,Ext.refl _⟩
  rw [List.getElem?_map,hx]
  rfl
 by_cases hc:(checkP d).2.2=0
 · simp only [hc,if_true] at hr
   obtain ⟨b,rfl,hb,hR⟩:=hr
   have hl60:=(check_fine hc).2.1.2
   have hbs:=hR.bools (by rw [tab_len];omega)
   rw [tab_len] at hbs
   simp (disch:=try exact DI) only [↓PR,QR,simprocAttr,↓n74c1]
   refine callK_ret (where_bool_ret _ _ _ _ _ (fun i=>((tab d.msgs.length (reachB d.msgs (startI d))).map fun x=>x == want)[i]?.getD false) hbs (by rw [tab_len];omega) c88 (fun w i x hx e=>htest _ w i x hx e)) ?_
   rintro u w2 ⟨hU,e2⟩
   rw [tab_len] at hU
   refine ⟨_,rfl,⟨u,by rw [show errD d=0 from if_pos hc],?_⟩,E1.trans e2⟩
   rw [show chosenP d want=_ from if_pos hc]
   have hcg:selP d.msgs.length (fun i=>((tab d.msgs.length (reachB d.msgs (startI d))).map fun x=>x == want)[i]?.getD false)=selP d.msgs.length (fun i=>reachB d.msgs (startI d) i == want):=sel_congr fun i hi=>by rw [List.getElem?_map,tab_get hi];rfl
   rw [hcg] at hU
   exact hU.base s1
 · simp only [hc,if_false] at hr
   subst hr
   simp (disch:=try exact DI) only [↓PR,QR,simprocAttr,↓n74c1]
   refine callK_ret (where_bool_ret _ _ [] _ _ (fun i=>(([]:List Bool).map fun x=>x == want)[i]?.getD false) (SliceOf.nil _ _ _) (by simp) c88 (fun w i x hx e=>htest _ w i x hx e)) ?_
   rintro u w2 ⟨hU,e2⟩
   refine ⟨_,rfl,⟨u,by rw [show errD d=2 from if_neg hc],?_⟩,E1.trans e2⟩
   rw [show chosenP d want=[] from if_neg hc]
   exact hU.base s1
theorem Reach_ret (w0:World) (v:Value) (d:DefD) (hd:DefVal w0 v d) (ht:calm d):Ret Pg 20 #[v] w0 fun r w'=>(∃ u,r = .tuple #[u,.int .i64 (errD d)]∧RowI w' w0.heap.size u (chosenP d true))∧Ext w0 w':=by
 obtain ⟨mv,rfl,hM⟩:=hd
 have hm1:=SliceOf.oneCell hM
 refine n69s (R:=retR _) ?_;unfold n69
 rw [op_boxA]
 have hBW:=ElemAt.new (w:=w0) (defCells d mv) (28)
 have eW:Ext w0 (w0.alloc (Obj.cells (List.toArray (defCells d mv)) (28))):=(Ext.refl _).alloc _
 generalize (w0.alloc (Obj.cells (List.toArray (defCells d mv)) (28)))=W at hBW eW ⊢
 simp (disch:=try exact DI) only [↓PR,QR,simprocAttr,hBW.c3 (Ext.refl W)]
 refine callK_ret (chosen_ret _ _ d true ⟨_,rfl,hM.ext eW⟩ ht) ?_
 rintro _ w1 ⟨⟨u,rfl,hU⟩,e1⟩
 simp (disch:=try exact DI) only [↓PR,QR,simprocAttr]
 exact ⟨⟨u,rfl,hU.base eW.size⟩,eW.trans e1⟩
theorem Unused_ret (w0:World) (v:Value) (d:DefD) (hd:DefVal w0 v d) (ht:calm d):Ret Pg 21 #[v] w0 fun r w'=>(∃ u,r = .tuple #[u,.int .i64 (errD d)]∧RowI w' w0.heap.size u (chosenP d false))∧Ext w0 w':=by
 obtain ⟨mv,rfl,hM⟩:=hd
 have hm1:=SliceOf.oneCell hM
 refine n70s (R:=retR _) ?_;unfold n70
 rw [op_boxA]
 have hBW:=ElemAt.new (w:=w0) (defCells d mv) (28)
 have eW:Ext w0 (w0.alloc (Obj.cells (List.toArray (defCells d mv)) (28))):=(Ext.refl _).alloc _
 generalize (w0.alloc (Obj.cells (List.toArray (defCells d mv)) (28)))=W at hBW eW ⊢
 simp (disch:=try exact DI) only [↓PR,QR,simprocAttr,hBW.c3 (Ext.refl W)]
 refine callK_ret (chosen_ret _ _ d false ⟨_,rfl,hM.ext eW⟩ ht) ?_
 rintro _ w1 ⟨⟨u,rfl,hU⟩,e1⟩
 simp (disch:=try exact DI) only [↓PR,QR,simprocAttr]
 exact ⟨⟨u,rfl,hU.base eW.size⟩,eW.trans e1⟩
section
variable {l:List MsgD} {s to:Nat}
def Bfs (l:List MsgD) (s to:Nat) (Q:List (List Int)) (sn:Nat→Bool):Prop :=
 ∃ (j:Nat) (A B:List (List Int)),Q=A++preP to l s j::B∧(j:Int)≤dN to l s∧(∀ q∈Q,∃ (q':List Int) (x:Nat),q=q'++[(x:Int)]∧x < l.length∧dN to l s - j≤dN to l x)∧(∀ x,sn x=true→dN to l s - j≤dN to l x)∧∀ q∈A,∃ (q':List Int) (x:Nat),q=q'++[(x:Int)]∧dN to l s - j+1≤dN to l x
theorem pre_last (j:Nat):∃ q',preP to l s j=q'++[(pk to l s j:Int)]:=by
 cases j with
 | zero=>exact ⟨[],rfl⟩
 | succ j=>exact ⟨_,pre_succ j⟩
theorem snoc_inj {a b:List Int} {x y:Nat} (h:a++[(x:Int)]=b++[(y:Int)]):a=b∧x=y:=by
 obtain ⟨h1,h2⟩:=List.append_inj' h rfl
 injection h2 with h2
 exact ⟨h1,by omega⟩
theorem bfs_start (h:Fine l) (hs:s < l.length):Bfs l s to [[(s:Int)]] fun _=>false :=
 ⟨0,[],[],rfl,(by have:=dN_pos (to:=to) h s;omega),(fun q hq=>by simp only [List.mem_singleton] at hq;exact ⟨[],s,hq,hs,by omega⟩),(fun _ h=>by cases h),(fun q hq=>by cases hq)⟩
theorem bfs_ne {Q:List (List Int)} {sn:Nat→Bool} (h:Bfs l s to Q sn):Q≠[]:=by
 obtain ⟨j,A,B,rfl,_⟩:=h
 simp
theorem bfs_last {q:List Int} {Q:List (List Int)} {sn:Nat→Bool} (h:Bfs l s to (q::Q) sn):∃ (q':List Int) (x:Nat),q=q'++[(x:Int)]∧x < l.length:=by
 obtain ⟨j,A,B,_,_,h3,_⟩:=h
 obtain ⟨q',x,h1,h2,_⟩:=h3 q (List.mem_cons_self ..)
 exact ⟨q',x,h1,h2⟩
theorem bfs_done (hf:Fine l) (hd:dN to l s < 1000) {q':List Int} {Q:List (List Int)} {sn:Nat→Bool} (h:Bfs l s to ((q'++[(to:Int)])::Q) sn):q'++[(to:Int)]=pathP to l s:=by
 obtain ⟨j,A,B,h1,h2,h3,h4,h5⟩:=h
 cases A with
 | nil =>
  simp only [List.nil_append,List.cons.injEq] at h1
  obtain ⟨q2,hq2⟩:=pre_last (to:=to) (l:=l) (s:=s) j
  rw [hq2] at h1
  have:=(snoc_inj h1.1).2
  have hp:=pk_dist hf hd j h2
  rw [← this,dN_to] at hp
  rw [h1.1,← hq2]
  unfold pathP
  rw [show (dN to l s).toNat=j by omega]
 | cons a A =>
  simp only [List.cons_append,List.cons.injEq] at h1
  obtain ⟨q2,x,e,hx⟩:=h5 a (List.mem_cons_self ..)
  rw [← h1.1] at e
  have:=(snoc_inj e).2
  subst this
  rw [dN_to] at hx
  omega
def kidsP (q:List Int) (ys:List Int) (sn:Nat→Bool):List (List Int):=(ys.filter fun y=>!sn y.toNat).map fun y=>q++[y]
theorem kids_snoc (q ys:List Int) (sn:Nat→Bool) (y:Int):kidsP q (ys++[y]) sn=kidsP q ys sn++(if sn y.toNat then [] else [q++[y]]):=by
 unfold kidsP
 rw [List.filter_append,List.map_append]
 congr 1
 cases h:sn y.toNat<;>simp [h]
theorem dN_near (h:Fine l) {x y:Nat} (hx:x≠to) (ht:toB l x y=true):dN to l x - 1≤dN to l y:=by
 rcases dN_le (to:=to) h ht with h1 | h1
 · omega
 · exact absurd h1 hx
theorem bfs_step (hf:Fine l) (hd:dN to l s < 1000) {q':List Int} {x:Nat} {Q:List (List Int)} {sn:Nat→Bool} (h:Bfs l s to ((q'++[(x:Int)])::Q) sn) (hx:x≠to):Bfs l s to (Q++kidsP (q'++[(x:Int)]) (toP l x) sn) fun i=>sn i||toB l x i:=by
 obtain ⟨j,A,B,h1,h2,h3,h4,h5⟩:=h
 have hkid:∀ c:Int,(∀ y,toB l x y=true→c≤dN to l y)→∀ q∈kidsP (q'++[(x:Int)]) (toP l x) sn,∃ (q2:List Int) (y:Nat),q=q2++[(y:Int)]∧y < l.length∧c≤dN to l y:=by
  intro c hc q hq
  unfold kidsP at hq
  simp only [List.mem_map,List.mem_filter] at hq
  obtain ⟨y,⟨hy,_⟩,rfl⟩:=hq
  obtain ⟨i,hi,hti,rfl⟩:=mem_sel.1 hy
  have:=to_lt hf hti
  exact ⟨_,i,rfl,by omega,hc i hti⟩
 cases A with
 | cons a A =>
  simp only [List.cons_append,List.cons.injEq] at h1
  obtain ⟨ha,hQ⟩:=h1
  obtain ⟨q2,x2,e,hx2⟩:=h5 a (List.mem_cons_self ..)
  rw [← ha] at e
  have:=(snoc_inj e).2
  subst this
  have hnear:∀ y,toB l x y=true→dN to l s - j≤dN to l y:=fun y hy=>by have:=dN_near hf hx hy;omega
  refine ⟨j,A,B++kidsP (q'++[(x:Int)]) (toP l x) sn,by rw [hQ];simp,h2,fun q hq=>?_,fun y hy=>?_,fun q hq=>h5 q (List.mem_cons_of_mem _ hq)⟩
  · rcases List.mem_append.1 hq with hq | hq
    · exact h3 q (List.mem_cons_of_mem _ hq)
    · exact hkid _ hnear q hq
  · simp only [Bool.or_eq_true] at hy
    rcases hy with hy | hy
    · exact h4 y hy
    · exact hnear y hy
 | nil =>
  simp only [List.nil_append,List.cons.injEq] at h1
  obtain ⟨hp,hQ⟩:=h1
  subst hQ
  obtain ⟨q2,hq2⟩:=pre_last (to:=to) (l:=l) (s:=s) j
  rw [hq2] at hp
  have hxk:=(snoc_inj hp).2
  have hp':q'++[(x:Int)]=preP to l s j:=by rw [hp,← hq2]
  have hdx:=pk_dist hf hd j h2
  rw [← hxk] at hdx
  have hjd:(j:Int) < dN to l s:=by
   have h0:dN to l x≠0:=fun h=>hx ((dN_zero hf).1 h)
   have:=dN_pos (to:=to) hf x
   omega
  have hnk:=next_spec (to:=to) hf hx (by omega)
  have hpk:pk to l s (j+1)=nextK to l x:=by rw [pk,← hxk]
  have hnl:=(to_lt hf hnk.1).1
  have hsplit:∃ ys zs,toP l x=ys++((nextK to l x:Nat):Int)::zs∧∀ y∈ys,∃ i:Nat,y=i∧i < nextK to l x∧toB l x i=true:=by
   have hm:((nextK to l x:Nat):Int)∈toP l x:=mem_sel.2 ⟨_,hnl,hnk.1,rfl⟩
   obtain ⟨ys,zs,he⟩:=List.append_of_mem hm
   refine ⟨ys,zs,he,fun y hy=>?_⟩
   have hr:=sel_rise x (toB l x)
   rw [show selP x (toB l x)=toP l x from rfl,he,List.pairwise_append] at hr
   have:=hr.2.2 y hy _ (List.mem_cons_self ..)
   obtain ⟨i,_,hti,hyi⟩:=mem_sel.1 (show y∈toP l x by rw [he];exact List.mem_append_left _ hy)
   exact ⟨i,hyi,by omega,hti⟩
  obtain ⟨ys,zs,hyz,hys⟩:=hsplit
  have hsn:sn (nextK to l x)=false:=by
   cases hb:sn (nextK to l x) with
   | false=>rfl
   | true=>have:=h4 _ hb;have:=hnk.2.1;omega
  have hkids:kidsP (q'++[(x:Int)]) (toP l x) sn=kidsP (q'++[(x:Int)]) ys sn++preP to l s (j+1)::kidsP (q'++[(x:Int)]) zs sn:=by
   rw [hyz,pre_succ,hpk,← hp']
   unfold kidsP
   rw [List.filter_append,List.map_append,List.filter_cons]
   simp [hsn]
  have hnear:∀ y,toB l x y=true→dN to l s - ((j+1:Nat):Int)≤dN to l y:=fun y hy=>by have:=dN_near hf hx hy;omega
  refine ⟨j+1,Q++kidsP (q'++[(x:Int)]) ys sn,kidsP (q'++[(x:Int)]) zs sn,by rw [hkids];simp,by omega,fun q hq=>?_,fun y hy=>?_,fun q hq=>?_⟩
  · rcases List.mem_append.1 hq with hq | hq
    · obtain ⟨q3,y,a,b,c⟩:=h3 q (List.mem_cons_of_mem _ hq)
      exact ⟨q3,y,a,b,by omega⟩
    · exact hkid _ hnear q hq
  · simp only [Bool.or_eq_true] at hy
    rcases hy with hy | hy
    · have:=h4 y hy;omega
    · exact hnear y hy
  · rcases List.mem_append.1 hq with hq | hq
    · obtain ⟨q3,y,a,b,c⟩:=h3 q (List.mem_cons_of_mem _ hq)
      exact ⟨q3,y,a,by omega⟩
    · unfold kidsP at hq
      simp only [List.mem_map,List.mem_filter] at hq
      obtain ⟨y,⟨hy,_⟩,rfl⟩:=hq
      obtain ⟨i,rfl,hi,hti⟩:=hys y hy
      have h6:=dN_near hf hx hti
      have h7:=hnk.2.2 i hi hti
      exact ⟨_,i,rfl,by omega⟩
end
def n67c1 (t10 t52 t58 t77:Value) (K5:KV) (R:RT) (w:World):Prop :=
 X0 93 t52 t77 R w fun t85 w =>
 opU Pg (Instr.storeAt 4 t85 (.bool true)) (panK R) w fun w =>
 opV Pg (Builtin.len_ #[30] 3 #[t58]) (panK R) w fun t89 w =>
 opV Pg (Builtin.len_ #[30] 3 #[t58]) (panK R) w fun t91 w =>
 opV Pg (Instr.sliceAt 30 t58 none (some t89) (some t91)) (panK R) w fun t92 w =>
 opV Pg (Instr.buildSlice 30 1 #[(0,t77)]) (panK R) w fun t94 w =>
 opV Pg (Builtin.append_ #[30,30] 30 #[t92,t94]) (panK R) w fun t95 w =>
 opV Pg (Instr.buildSlice 78 1 #[(0,t95)]) (panK R) w fun t96 w =>
 opV Pg (Builtin.append_ #[78,78] 78 #[t10,t96]) (panK R) w fun t97 w =>
 K5 t97 w
def n67c2 (t10 t52 t58 t72 t74:Value) (next4:KW) (R:RT) (w:World):Prop :=
 X0 30 t72 t74 R w fun t76 w =>
 L0 3 t76 R w fun t77 w =>
 X0 93 t52 t77 R w fun t80 w =>
 L0 4 t80 R w fun t81 w =>
 opV Pg (Op.unary .not t81) (panK R) w fun t82 w =>
 joinK (fun (t10:Value) (w:World) =>
 B0 .add 3 true t74 (.int .i64 1) R w fun t98 w =>
 next4 t10 t98 w) fun K5 =>
 condP t82 (
 n67c1 t10 t52 t58 t77 K5 R w) (
 K5 t10 w)
def n67c3 (t10 t52 t58 t69 t72:Value) (next3:KV) (R:RT) (w:World):Prop :=
 opV Pg (Builtin.len_ #[30] 3 #[t72]) (panK R) w fun t73 w =>
 loop2 (fun t10 t74 w next4 =>
 B0 .lss 3 false t74 t73 R w fun t75 w =>
 condP t75 (
 n67c2 t10 t52 t58 t72 t74 next4 R w) (
 next3 t10 w)) t69 (.int .i64 0) w
def n67c4 (t2 t10 t52 t58 t64:Value) (next3:KV) (R:RT) (w:World):Prop :=
 opV Pg (Instr.sliceAt 78 t10 (some (.int .i64 1)) none none) (panK R) w fun t69 w =>
 L0 28 t2 R w fun t70 w =>
 C0 56 #[t70,t64] R w fun t72 w =>
 n67c3 t10 t52 t58 t69 t72 next3 R w
def n67c5 (t1 t2 t10 t52:Value) (K2:KV) (next3:KV) (R:RT) (w:World):Prop :=
 opV Pg (Instr.indexAt 78 t10 (.int .i64 0)) (panK R) w fun t57 w =>
 L0 30 t57 R w fun t58 w =>
 opV Pg (Builtin.len_ #[30] 3 #[t58]) (panK R) w fun t61 w =>
 B0 .sub 3 true t61 (.int .i64 1) R w fun t62 w =>
 X0 30 t58 t62 R w fun t63 w =>
 L0 3 t63 R w fun t64 w =>
 B0 .eql 3 false t64 t1 R w fun t67 w =>
 condP t67 (
 K2 t10 w) (
 n67c4 t2 t10 t52 t58 t64 next3 R w)
def n67c6 (t1 t2 t10 t52:Value) (K2:KV) (next3:KV) (R:RT) (w:World):Prop :=
 opV Pg (Builtin.len_ #[78] 3 #[t10]) (panK R) w fun t54 w =>
 B0 .gtr 3 true t54 (.int .i64 0) R w fun t55 w =>
 condP t55 (
 n67c5 t1 t2 t10 t52 K2 next3 R w) (
 K2 t10 w)
def n67c7 (t1 t2 t19 t44:Value) (R:RT) (w:World):Prop :=
 opV Pg (Instr.extract t44 0) (panK R) w fun t45 w =>
 opV Pg (Instr.extract t44 1) (panK R) w fun t46 w =>
 opV Pg (Instr.buildSlice 30 1 #[(0,t45)]) (panK R) w fun t48 w =>
 opV Pg (Instr.buildSlice 78 1 #[(0,t48)]) (panK R) w fun t49 w =>
 opV Pg (Builtin.len_ #[93] 3 #[t19]) (panK R) w fun t51 w =>
 opV Pg (Instr.makeSlice 93 t51 t51) (panK R) w fun t52 w =>
 joinK (fun (t10:Value) (w:World) =>
 opV Pg (Instr.indexAt 78 t10 (.int .i64 0)) (panK R) w fun t100 w =>
 L0 30 t100 R w fun t101 w =>
 R (.returned (.tuple #[t101,(.int .i64 0)])) w) fun K2 =>
 loop1 (fun t10 w next3 =>
 n67c6 t1 t2 t10 t52 K2 next3 R w) t49 w
def n67c8 (t1 t2 t19:Value) (R:RT) (w:World):Prop :=
 L0 28 t2 R w fun t41 w =>
 F0 28 t2 2 R w fun t42 w =>
 L0 9 t42 R w fun t43 w =>
 C0 31 #[t41,t43] R w fun t44 w =>
 n67c7 t1 t2 t19 t44 R w
def n67c9 (t1 t2 t19:Value) (R:RT) (w:World):Prop :=
 X0 93 t19 t1 R w fun t37 w =>
 L0 4 t37 R w fun t38 w =>
 opV Pg (Op.unary .not t38) (panK R) w fun t39 w =>
 condP t39 (
 R (.returned (.tuple #[(Value.slice none 0 0),(.int .i64 9)])) w) (
 n67c8 t1 t2 t19 R w)
def n67c10 (t1 t2 t19:Value) (R:RT) (w:World):Prop :=
 B0 .lss 3 true t1 (.int .i64 0) R w fun t27 w =>
 joinK (fun (t32:Value) (w:World) =>
 pickK t27 (.bool true) t32 fun t33 =>
 condP t33 (
 R (.returned (.tuple #[(Value.slice none 0 0),(.int .i64 3)])) w) (
 n67c9 t1 t2 t19 R w)) fun K1 =>
 guardP t27 false (
 opV Pg (Builtin.len_ #[93] 3 #[t19]) (panK R) w fun t31 w =>
 B0 .geq 3 false t1 t31 R w fun t32 w =>
 K1 t32 w) (
 K1 undef w)
def n67c11 (t1 t2 t18:Value) (R:RT) (w:World):Prop :=
 opV Pg (Instr.extract t18 0) (panK R) w fun t19 w =>
 opV Pg (Instr.extract t18 1) (panK R) w fun t20 w =>
 B0 .neq 31 true t20 (.int .i64 0) R w fun t23 w =>
 condP t23 (
 R (.returned (.tuple #[(Value.slice none 0 0),t20])) w) (
 n67c10 t1 t2 t19 R w)
def n67 (t0 t1:Value) (R:RT) (w:World):Prop :=
 opV Pg (Instr.box 28 t0) (panK R) w fun t2 w =>
 L0 28 t2 R w fun t17 w =>
 C0 55 #[t17] R w fun t18 w =>
 n67c11 t1 t2 t18 R w
set_option maxHeartbeats 40000000 in
theorem n67s {t0 t1:Value} {R:RT} {w:World} (h:n67 t0 t1 R w):Calls Pg 24 #[t0,t1] w R:=by
 refine yD Tryz.func24 ?_
 refine zs<|zr<|yv h fun _ w h=>zm<|zm<|zn<|zk<|sim_scope<|zs<|zr<|yv h fun _ w h=>yc h c55 fun _ w h=>zm<|yv h fun _ w h=>yv h fun _ w h=>?_
 refine zm<|zm<|zn<|zk<|zs<|sim_block<|zs<|zr<|zm<|yb h fun _ w h=>zm<|zn<|zk<|yC h (fun h=>zs<|zr<|zm<|zm<|zm<|zn<|zk<|sim_ret<|sim_block_ret<|sim_then_ret<|body_ret2 rfl rfl rfl h) fun h=>?_
 refine zs<|sim_regionG<|yG 3<|zm<|yb h fun _ w h=>zm<|zn<|yg1 4 2 false [29,30,31,32] 32 h (fun _ T hT h=>?_) fun σ w h=>?_
 · refine zm<|zm<|yx h fun _ w h=>yb h fun _ w h=>zn ?_
   exact zt hT h
 refine yG 2<|yp h fun _ h=>zm<|zn<|sim_end<|zk<|yC h (fun h=>zs<|zr<|zm<|zm<|zn<|zk<|sim_ret<|sim_block_ret<|sim_then_ret<|body_ret2 rfl rfl rfl h) fun h=>zs<|zr<|zm<|zm<|yv h fun _ w h=>yv h fun _ w h=>yv h fun _ w h=>?_
 refine zm<|zn<|zk<|yC h (fun h=>zs<|zr<|zm<|zm<|zn<|zk<|sim_ret<|sim_block_ret<|sim_then_ret<|body_ret2 rfl rfl rfl h) fun h=>sim_skip<|sim_block_normal<|zk<|zs<|zr<|yv h fun _ w h=>yv h fun _ w h=>yv h fun _ w h=>yc h c31 fun _ w h=>zm ?_
 refine yv h fun _ w h=>yv h fun _ w h=>zm<|zm<|zn<|zk<|zs<|zr<|zm<|yS h fun _ w h=>yS h fun _ w h=>zm<|zn<|zk<|zs ?_
 refine zr<|zm<|yx h fun _ w h=>yv h fun _ w h=>zm<|zn<|zk<|zs<|sim_label<|zk<|zs<|yJ1 [10,12,13,15,53,54,55,56,57,58,59,60,61,62,63,64,65,66,67,68,69,70,71,72,73,74,75,76,77,78,79,80,81,82,83,84,85,86,87,88,89,90,91,92,93,94,95,96,97,98] 10 h (fun _ _ hkK2 h=>?_) fun σ w h=>?_
 · refine sim_block<|yl1 [10,12,13,15,53,54,55,56,57,58,59,60,61,62,63,64,65,66,67,68,69,70,71,72,73,74,75,76,77,78,79,80,81,82,83,84,85,86,87,88,89,90,91,92,93,94,95,96,97,98] 10 h fun σ w next h=>zs<|zs<|zr<|zm<|yx h fun _ w h=>yb h fun _ w h=>zn<|zk<|yC h (fun h=>?_) fun h=>?_
   · refine sim_skip<|zk<|sim_block<|zs<|zr<|zm<|yv h fun _ w h=>yv h fun _ w h=>zm<|zn<|zk<|zs<|zr<|zm<|zm ?_
     refine yx h fun _ w h=>yb h fun _ w h=>yv h fun _ w h=>yv h fun _ w h=>zm<|zn<|zk<|zs<|zs<|zr<|zm<|zm<|yb h fun _ w h=>zn<|zk ?_
     refine yC h (fun h=>?_) fun h=>?_
     · refine sim_exit<|sim_then_exit<|sim_block_miss rfl<|sim_then_exit<|sim_block_hit<|zk ?_
       exact zt hkK2 h
     refine sim_skip<|zk<|zs<|zr<|zm<|yv h fun _ w h=>zm<|zn<|zk<|zs<|zr<|yv h fun _ w h=>zm<|yc h c56 fun _ w h=>yx h fun _ w h=>?_
     refine zm<|zn<|zk<|sim_block<|yl2 [10,15,74,75,76,77,78,79,80,81,82,83,84,85,86,87,88,89,90,91,92,93,94,95,96,97,98] 10 74 h fun σ w next h=>zs<|zr<|yb h fun _ w h=>zn<|zk<|zs<|yC h (fun h=>?_) fun h=>?_
     · refine sim_skip<|zk<|zs<|sim_block<|zs<|zr<|yv h fun _ w h=>yv h fun _ w h=>zm<|zn<|zk<|zs<|zr<|zm<|zm ?_
       refine yv h fun _ w h=>yv h fun _ w h=>yv h fun _ w h=>zn<|zk<|yJ1 [10,83,84,85,86,87,88,89,90,91,92,93,94,95,96,97] 10 h (fun _ _ hkK5 h=>?_) fun σ w h=>?_
       · refine yC h (fun h=>?_) fun h=>?_
         · refine zs<|zr<|zm<|zm<|yv h fun _ w h=>yu h fun w h=>zn<|zk<|zr<|zm<|zm<|zm<|yx h fun _ w h=>zm<|yx h fun _ w h=>?_
           refine yv h fun _ w h=>zm<|yS h fun _ w h=>yx h fun _ w h=>yS h fun _ w h=>yx h fun _ w h=>zm<|zn<|zk ?_
           exact zt hkK5 h
         refine sim_skip<|zk ?_
         exact zt hkK5 h
       exact sim_block_normal<|zk<|zr<|yb h fun _ w h=>zm<|zn<|zk<|⟨rfl,h⟩
     exact sim_exit<|sim_then_exit<|sim_then_exit<|sim_block_hit<|sim_block_normal<|zk<|⟨rfl,h⟩
   refine sim_exit<|sim_then_exit<|sim_then_exit<|sim_block_hit<|zk ?_
   exact zt hkK2 h
 exact zk<|zs<|zr<|zm<|yv h fun _ w h=>yv h fun _ w h=>zm<|zm<|zn<|zk<|sim_ret<|body_ret2 rfl rfl rfl h
abbrev TS:TypeId:=30
def cntF (n:Nat) (f:Nat→Bool):Nat:=((List.range n).filter fun i=>!f i).length
theorem cnt_succ (n:Nat) (f:Nat→Bool):cntF (n+1) f=cntF n f+(if f n then 0 else 1):=by
 unfold cntF
 rw [List.range_succ,List.filter_append,List.length_append]
 cases h:f n<;>simp [h]
theorem cnt_congr {n:Nat} {f g:Nat→Bool} (h:∀ i,i < n→f i=g i):cntF n f=cntF n g:=by
 unfold cntF
 rw [List.filter_congr fun i hi=>by rw [h i (List.mem_range.1 hi)]]
theorem cnt_le (n:Nat) (f:Nat→Bool):cntF n f≤n:=by
 unfold cntF
 exact Nat.le_trans (List.length_filter_le _ _) (by simp)
theorem cnt_set {j:Nat} {f:Nat→Bool} (hf:f j=false):∀ n,j < n→cntF n (fun i=>f i||i == j)+1=cntF n f
 | 0,h=>by omega
 | n+1,h=>by
  rw [cnt_succ,cnt_succ]
  by_cases hj:j=n
  · subst hj
    have:cntF j (fun i=>f i||i == j)=cntF j f:=cnt_congr fun i hi=>by
     have:(i == j)=false:=by simp;omega
     rw [this,Bool.or_false]
    simp [this,hf]
  · have ih:=cnt_set hf n (by omega)
    have:(n == j)=false:=by simp;omega
    simp only [this,Bool.or_false]
    omega
section
variable {w w':World} {base r:Nat} {v a:Value} {l:List Int} {xs:List Value} {L:List Bool} {bp:Nat}
theorem BRow.type (h:BRow w r L):TypeAt w r 4:=⟨_,_,h⟩
theorem RowI.setB (h:RowI w base v l) (hB:BRow w r L) (i:Nat) (u:Value):RowI (w.setCell ⟨r,i,none⟩ u) base v l :=
 (OwnR.only (lo:=base) (hi:=w.heap.size) ⟨h,fun b hb=>(h.lt b hb).2⟩ (Only.setCell w r i u) (.inr (.inr ⟨_,hB.type,by decide⟩))).1
theorem OwnO.type (h:OwnO w bp TS a xs) {g:Nat} (hg:a.ownBlock=some g):∃ cur,w.heap[g]?=some (.cells cur TS (0,0)):=by
 obtain ⟨g',off,cap,cur,rfl,_,h3,_⟩:=h
 injection hg with hg
 subst hg
 exact ⟨cur,h3⟩
theorem RowI.grownO (h:RowI w base v l) (hO:OwnO w bp TS a xs) (hg:w.grownBy w' a.ownBlock):RowI w' base v l:=OwnE.grown h hg fun b hb e=>by
 obtain ⟨c1,h1⟩:=own_type h hb
 obtain ⟨c2,h2⟩:=hO.type e
 rw [h1] at h2
 injection h2 with h2
 injection h2 with _ h2 _
 exact absurd h2 (by decide)
theorem BRow.grownO (h:BRow w r L) (hO:OwnO w bp TS a xs) (hg:w.grownBy w' a.ownBlock):BRow w' r L:=(hg.block r (Array.getElem?_eq_some_iff.1 h).1 fun e=>by
 obtain ⟨c2,h2⟩:=hO.type e.symm
 rw [h] at h2
 injection h2 with h2
 injection h2 with _ h2 _
 exact absurd h2 (by decide)).trans h
theorem rowI_of (h:w.ownsRow base 3 1 v (l.length) (l.map fun n=>Value.int .i64 n)):RowI w base v l:=by
 unfold RowI OwnE
 rw [flat_encI]
 exact h
structure QAt (w:World) (B:Nat) (a:Value) (Q:List (List Int)):Prop where
 row:∃ xs,OwnO w B TS a xs∧xs.length=Q.length∧∀ (k:Nat) (x:Value) (q:List Int),xs[k]?=some x→Q[k]?=some q→RowI w B x q
theorem QAt.ext {B:Nat} {Q:List (List Int)} (h:QAt w B a Q) (e:Ext w w'):QAt w' B a Q:=by
 obtain ⟨xs,h1,h2,h3⟩:=h.row
 exact ⟨xs,h1.ext e,h2,fun k x q a b=>(h3 k x q a b).ext e⟩
theorem QAt.setB {B:Nat} {Q:List (List Int)} (h:QAt w B a Q) (hB:BRow w r L) (i:Nat) (u:Value):QAt (w.setCell ⟨r,i,none⟩ u) B a Q:=by
 obtain ⟨xs,h1,h2,h3⟩:=h.row
 exact ⟨xs,h1.only (Only.setCell w r i u) hB.type (by decide),h2,fun k x q a b=>(h3 k x q a b).setB hB i u⟩
end
section
variable {w0:World} {d:DefD} {mv:Value} {p2 r B x t:Nat} {R:RT}
def seenK (f:Nat→Bool) (ys:List Int) (i:Nat):Bool:=f i||ys.contains (i:Int)
theorem seen_nil (f:Nat→Bool):seenK f []=f:=by funext i;simp [seenK]
theorem seen_snoc (f:Nat→Bool) (ys:List Int) (j:Nat):seenK f (ys++[(j:Int)])=fun i=>seenK f ys i||i == j:=by
 funext i
 unfold seenK
 rw [List.contains_eq_any_beq,List.any_append,List.contains_eq_any_beq,Bool.or_assoc]
 congr 2
 simp only [List.any_cons,List.any_nil,Bool.or_false]
 rw [Bool.eq_iff_iff]
 simp
 omega
theorem path_inner {tz:Value} {w:World} {l:List MsgD} {q:List Int} {Q:List (List Int)} {f:Nat→Bool} {a rv x0:Value} {next3:Value→World→Prop} {bs:Nat} (hf:Fine l) (hx:x < l.length) (hl:l.length≤60) (hq:0 < q.length) (hql:q.length≤1000) (hT:RowI w bs rv (toP l x)) (hQ:QAt w B a Q) (hx0:RowI w B x0 q) (hR:BRow w r (tab l.length f)) (hBr:B≤r) (hB:B≤w.heap.size) (hsum:Q.length+cntF l.length f≤100)
 (hn:∀ a' w',QAt w' B a' (Q++kidsP q (toP l x) f)→BRow w' r (tab l.length (seenK f (toP l x)))→(Q++kidsP q (toP l x) f).length+cntF l.length (seenK f (toP l x))=Q.length+cntF l.length f→(∀ W,Ext W w→W.heap.size≤B→Ext W w')→B≤w'.heap.size→next3 a' w') :
 n67c3 tz (.slice (some ⟨r,0,none⟩) l.length l.length) x0 a rv next3 R w:=by
 have htl:(toP l x).length≤x:=sel_len _ _
 obtain ⟨Ar,cr,rfl,hlr,hcr,hlmr,_⟩:=SliceOf.open hT.ints
 obtain ⟨gq,capq,curq,rfl,_,hgq,hcq,_,_,_⟩:=hx0.2.resolve_left (fun h=>by have h2:q.length=0:=h.2;omega)
 unfold n67c3
 simp (disch:=try exact DI) only [↓PR,QR,simprocAttr]
 refine loop2_intro (fun a1 i w'=>∃ k:Nat,i = .int .i64 k∧k≤(toP l x).length∧QAt w' B a1 (Q++kidsP q ((toP l x).take k) f)∧BRow w' r (tab l.length (seenK f ((toP l x).take k)))∧(Q++kidsP q ((toP l x).take k) f).length+cntF l.length (seenK f ((toP l x).take k))=Q.length+cntF l.length f∧RowI w' bs (.slice Ar (toP l x).length cr) (toP l x)∧RowI w' B (.slice (some ⟨gq,0,none⟩) q.length capq) q∧(∀ W,Ext W w→W.heap.size≤B→Ext W w')∧B≤w'.heap.size) (fun _ i _=>(toP l x).length - (intOf i).toNat) ⟨0,rfl,by omega,by simpa [kidsP] using hQ,by rw [List.take_zero,seen_nil];exact hR,by rw [List.take_zero,seen_nil];simp [kidsP],hT,hx0,fun W e _=>e,hB⟩ ?_
 rintro a1 _ w1 ⟨k,rfl,hk,hQ1,hR1,hs1,hT1,hx1,hE1,hB1⟩
 rcases drop_cases hk with ⟨y,hy,_,hlt,hdec⟩ | ⟨hke,_,hdec⟩
 · obtain ⟨j,rfl,hj⟩:=to_mem (List.mem_of_getElem? hy)
   obtain ⟨_,_,hv,_,_,_,hel⟩:=SliceOf.open hT1.ints
   injection hv with hv _ hv'
   subst hv hv'
   obtain ⟨b6,o6,cs6,rfl,_,hA6,rfl⟩:=hel k _ hy
   have a6:w1.cell? ⟨b6,o6+k,none⟩=some (.int .i64 (j:Int)):=by have:=hA6 0 _ rfl;simpa using this
   have hjn:j < l.length:=by omega
   have c1:w1.cell? ⟨r,j,none⟩=some (.bool (seenK f ((toP l x).take k) j)):=hR1.get (tab_get hjn)
   have hfz:∀ o,w1.frozen? ⟨r,o,none⟩=false:=(cells_of_heap hR1).2
   have hfj:seenK f ((toP l x).take k) j=f j:=by
    unfold seenK
    have:((toP l x).take k).contains (j:Int)=false:=by
     rw [Bool.eq_false_iff]
     intro h
     rw [List.contains_iff_mem] at h
     obtain ⟨i,hi⟩:=List.getElem?_of_mem h
     rw [List.getElem?_take] at hi
     split at hi
     · rename_i hik
       have hr:(toP l x).Pairwise (· < ·):=sel_rise x (toB l x)
       have h1:=(List.getElem?_eq_some_iff.1 hi)
       have h2:=(List.getElem?_eq_some_iff.1 hy)
       have:=List.pairwise_iff_getElem.1 hr i k h1.1 h2.1 hik
       rw [h1.2,h2.2] at this
       exact absurd this (Int.lt_irrefl _)
     · cases hi
    rw [this,Bool.or_false]
   have hkid:=kids_snoc q ((toP l x).take k) f (j:Int)
   rw [Int.toNat_natCast,← take_snoc hy] at hkid
   have hsn:=seen_snoc f ((toP l x).take k) j
   rw [← take_snoc hy] at hsn
   have hwr:IntKind.i64.wrap ((k:Int)+1)=(k:Int)+1:=wrap_ok (by omega) (by omega)
   cases hb:f j with
   | true =>
    rw [hfj,hb] at c1
    rw [hb] at hkid
    simp only [if_true,List.append_nil] at hkid
    have hsn2:seenK f ((toP l x).take (k+1))=seenK f ((toP l x).take k):=by
     rw [hsn]
     funext i
     by_cases hij:i=j
     · subst hij;rw [hfj,hb];rfl
     · have:(i == j)=false:=by simpa using hij
       rw [this,Bool.or_false]
    simp (disch:=try exact DI) only [↓PR,QR,simprocAttr,hdec,↓n67c2,a6,c1,Nat.mul_one,Nat.zero_add]
    exact ⟨⟨k+1,rfl,by omega,by rw [hkid];exact hQ1,by rw [hsn2];exact hR1,by rw [hkid,hsn2];exact hs1,hT1,hx1,hE1,hB1⟩,meas_lt (kd := .i64) hlt⟩
   | false =>
    rw [hfj,hb] at c1
    rw [hb] at hkid
    simp only [Bool.false_eq_true,if_false] at hkid
    simp (disch:=try exact DI) only [↓PR,QR,simprocAttr,hdec,↓n67c2,↓n67c1,a6,c1,hfz,Nat.mul_one,Nat.zero_add]
    have hR2:=hR1.set j true
    rw [tab_set hjn] at hR2
    have hfk:(fun i=>if i=j then true else seenK f ((toP l x).take k) i)=seenK f ((toP l x).take (k+1)):=by
     rw [hsn]
     funext i
     by_cases hij:i=j
     · subst hij;simp
     · have:(i == j)=false:=by simpa using hij
       rw [if_neg hij,this,Bool.or_false]
    rw [hfk] at hR2
    have hcnt:=cnt_set (f:=seenK f ((toP l x).take k)) (hfj.trans hb) l.length hjn
    rw [← hsn] at hcnt
    have hlk:(Q++kidsP q ((toP l x).take (k+1)) f).length=(Q++kidsP q ((toP l x).take k) f).length+1:=by rw [hkid];simp;omega
    have hQ2:=hQ1.setB hR1 j (.bool true)
    have hT2:=hT1.setB hR1 j (.bool true)
    have hx2:=hx1.setB hR1 j (.bool true)
    have hE2:∀ W,Ext W w→W.heap.size≤B→Ext W (w1.setCell ⟨r,j,none⟩ (.bool true)):=fun W e hW=>(hE1 W e hW).setCell (by show W.heap.size≤r;omega) _
    have hB2:B≤(w1.setCell ⟨r,j,none⟩ (.bool true)).heap.size:=by rw [World.size_setCell];exact hB1
    generalize (w1.setCell ⟨r,j,none⟩ (.bool true))=w2 at hR2 hQ2 hT2 hx2 hE2 hB2 ⊢
    rw [op_sliceFull Tryz.underlying30 ty3 gq 0 q.length capq hq hcq]
    simp (disch:=try exact DI) only [↓PR,QR,simprocAttr]
    have eY:Ext w2 (w2.alloc (.cells #[.int .i64 (j:Int)] 3)):=ee
    have oY:=heap_new w2 #[.int .i64 (j:Int)] 3
    have hQ3:=hQ2.ext eY
    have hT3:=hT2.ext eY
    have hx3:=hx2.ext eY
    have hR3:=hR2.ext eY
    have sY:=eY.size
    generalize (w2.alloc (.cells #[.int .i64 (j:Int)] 3))=Y at eY oY hQ3 hT3 hx3 hR3 sY ⊢
    obtain ⟨_,_,_,hh⟩:=own_holds hx3
    refine op_appendF (olds:=q.map fun n=>Value.int .i64 n) Tryz.underlying30 ty3 rfl (by simp) (fun i u hu=>?_) (by rw [(cells_of_heap oY).1];rfl) (by omega) (Nat.le_trans by3 (by decide)) (Nat.le_refl _) ?_
    · rw [List.getElem?_map] at hu
      obtain ⟨n,hn',rfl⟩:=Option.map_eq_some_iff.1 hu
      have hi:=(List.getElem?_eq_some_iff.1 hn')
      have:=(hh i (by simpa using hi.1)).1
      rw [getElem!_pos _ i (by simpa using hi.1)] at this
      simp only [List.getElem_toArray] at this
      rw [this,hi.2]
    · intro nv w4 ho hne e4
      have hN:RowI w4 Y.heap.size nv (q++[(j:Int)]):=rowI_of (by simpa using ho)
      have hN1:=SliceOf.oneCell hN.ints
      have hQ4:=hQ3.ext e4
      have hT4:=hT3.ext e4
      have hx4:=hx3.ext e4
      have hR4:=hR3.ext e4
      have s4:=e4.size
      simp (disch:=try exact DI) only [↓PR,QR,simprocAttr]
      have eZ:Ext w4 (w4.alloc (.cells #[nv] TS)):=ee
      have oZ:(w4.alloc (.cells #[nv] TS)).heap[w4.heap.size]?=some (.cells #[nv] TS (0,0)):=heap_new w4 #[nv] TS
      have hQ5:=hQ4.ext eZ
      have hT5:=hT4.ext eZ
      have hx5:=hx4.ext eZ
      have hR5:=hR4.ext eZ
      have hN5:=hN.ext eZ
      have s5:=eZ.size
      have f5:=eY.trans (e4.trans eZ)
      generalize (w4.alloc (.cells #[nv] TS))=Z at eZ oZ hQ5 hT5 hx5 hR5 hN5 s5 f5 ⊢
      obtain ⟨xs,hO,hxl,hxr⟩:=hQ5.row
      have hkl:(Q++kidsP q ((toP l x).take k) f).length≤100:=by omega
      refine op_appendO Tryz.underlying78 ty30 rfl hO hN1 (by rw [(cells_of_heap oZ).1];rfl) (by omega) (Nat.le_trans by30 (by decide)) (by omega) ?_
      intro v' w6 hO6 hg
      have hge:∀ b,a1.ownBlock=some b→B≤b:=fun b hb=>by
       obtain ⟨g,off,cap,cur,rfl,hgB,_⟩:=hO
       have hb:g=b:=Option.some.inj hb
       omega
      have s6:=hg.size
      simp (disch:=try exact DI) only [↓PR,QR,simprocAttr]
      refine ⟨⟨k+1,rfl,by omega,⟨xs++[nv],hO6,by rw [hlk,List.length_append,hxl];rfl,fun i u q2 hu hq2=>?_⟩,hR5.grownO hO hg,by rw [hlk];omega,RowI.grownO hT5 hO hg,RowI.grownO hx5 hO hg,fun W e hW=>((hE2 W e hW).trans f5).grown hg fun b hb=>by have:=hge b hb;omega,by omega⟩,meas_lt (kd := .i64) hlt⟩
      rw [hkid,← List.append_assoc] at hq2
      by_cases hi:i < xs.length
      · rw [List.getElem?_append_left hi] at hu
        rw [List.getElem?_append_left (by omega)] at hq2
        exact RowI.grownO (hxr i u q2 hu hq2) hO hg
      · have hi2:i=xs.length:=by
         have:=(List.getElem?_eq_some_iff.1 hu).1
         simp at this
         omega
        subst hi2
        rw [List.getElem?_append_right (Nat.le_refl _),Nat.sub_self] at hu
        rw [List.getElem?_append_right (by omega),hxl,Nat.sub_self] at hq2
        injection hu with hu
        injection hq2 with hq2
        subst hu hq2
        exact RowI.grownO (OwnE.base hN5 (by omega)) hO hg
 · subst hke
   rw [List.take_length] at hQ1 hR1 hs1
   simp (disch:=try exact DI) only [↓PR,QR,simprocAttr,hdec]
   exact hn _ _ hQ1 hR1 hs1 hE1 hB1
end
def errP (d:DefD) (i:Int):Int:=if (checkP d).2.2=0 then (if 0≤i∧i < d.msgs.length then (if reachB d.msgs (startI d) i.toNat then 0 else 9) else 3) else 2
def pathE (d:DefD) (i:Int):List Int:=if errP d i=0 then pathP i.toNat d.msgs (startI d) else []
def lenV:Value→Nat
 | .slice _ n _=>n
 | _=>0
def offsO (w:World) (r:Nat):Nat:=match w.heap[r]? with
 | some (.cells cs _ _)=>(cs.toList.filter fun v=>match v with
  | .bool b=>!b
  | _=>false).length
 | _=>0
theorem offs_row {w:World} {r n:Nat} {f:Nat→Bool} (h:BRow w r (tab n f)):offsO w r=cntF n f:=by
 unfold offsO
 rw [h]
 simp only
 unfold tab cntF
 rw [List.filter_map,List.length_map,List.filter_map,List.length_map]
 rfl
theorem to_kids_seen {l:List MsgD} (hf:Fine l) (f:Nat→Bool) (x:Nat):seenK f (toP l x)=fun i=>f i||toB l x i:=by
 funext i
 unfold seenK
 congr 1
 rw [Bool.eq_iff_iff,List.contains_iff_mem,toP,mem_sel]
 constructor
 · rintro ⟨j,_,h2,h3⟩
   rw [show i=j by omega];exact h2
 · exact fun hb=>⟨i,(to_lt hf hb).1,hb,rfl⟩
theorem QAt.head {w:World} {B:Nat} {a:Value} {q:List Int} {Q:List (List Int)} (h:QAt w B a (q::Q)):∃ g off cap x,a = .slice (some ⟨g,off,none⟩) (Q.length+1) cap∧Q.length+1≤cap∧w.cell? ⟨g,off,none⟩=some x∧RowI w B x q∧∀ o',(o'=off+1∨(cap=1∧o'=off))→QAt w B (.slice (some ⟨g,o',none⟩) Q.length (cap - 1)) Q:=by
 obtain ⟨xs,hO,hl,hr⟩:=h.row
 have hO0:=hO
 obtain ⟨g,off,cap,rfl,_,_,_,hc,hcell⟩:=hO.get
 cases xs with
 | nil=>simp at hl
 | cons x xs =>
  simp only [List.length_cons,Nat.add_right_cancel_iff] at hl hc
  refine ⟨g,off,cap,x,by simp [hl],by omega,by simpa using hcell 0 x rfl,hr 0 x q rfl rfl,fun o' ho=>⟨xs,?_,hl,fun k y q2 hy hq2=>hr (k+1) y q2 (by simpa using hy) (by simpa using hq2)⟩⟩
  have:=hO0.tail ho
  rw [hl] at this
  exact this
def ShortQ (s:Nat) (Q:List (List Int)):Prop:=∀ q∈Q,∀ (q':List Int) (x:Nat),q=q'++[(x:Int)]→q.length+x≤s+1
theorem short_step {l:List MsgD} (hf:Fine l) {s x:Nat} {q':List Int} {Q:List (List Int)} (f:Nat→Bool) (h:ShortQ s ((q'++[(x:Int)])::Q)):ShortQ s (Q++kidsP (q'++[(x:Int)]) (toP l x) f):=by
 intro q hq q2 y he
 rcases List.mem_append.1 hq with hq | hq
 · exact h q (List.mem_cons_of_mem _ hq) q2 y he
 · unfold kidsP at hq
   simp only [List.mem_map,List.mem_filter] at hq
   obtain ⟨z,⟨hz,_⟩,rfl⟩:=hq
   obtain ⟨i,rfl,hi⟩:=to_mem hz
   have:=h _ (List.mem_cons_self ..) q' x rfl
   have hy:=(snoc_inj he).2
   simp only [List.length_append,List.length_singleton] at this ⊢
   omega
section
variable {w0 W:World} {d:DefD} {mv:Value} {p2 r B s:Nat}
theorem path_loop {i:Nat} (hM:MsgsOf w0 mv d.msgs) (e0:Ext w0 W) (ht:calm d) (hf:Fine d.msgs) (hl:d.msgs.length≤60) (hs:s < d.msgs.length) (hi:i < d.msgs.length) (hd:dN i d.msgs s < 1000) (o2:W.heap[p2]?=some (.cells (defCells d mv).toArray 28 (0,0))) (hWB:W.heap.size≤B) (hBr:B≤r) {w:World} {a:Value} (hE:∀ X,Ext X W→X.heap.size≤B→Ext X w) (hB:B≤w.heap.size) (hQ:QAt w B a [[(s:Int)]]) (hR:BRow w r (tab d.msgs.length fun _=>false)) {R:RT} {K2:Value→World→Prop}
 (hK:∀ a' w',(∃ g off cap n x,a' = .slice (some ⟨g,off,none⟩) (n+1) cap∧n+1≤cap∧w'.cell? ⟨g,off,none⟩=some x∧RowI w' B x (pathP i d.msgs s))→Ext W w'→K2 a' w') :
 loop1 (fun t10 w next3=>n67c6 (.int .i64 (i:Int)) (.pointer (some ⟨p2,0,none⟩)) t10 (.slice (some ⟨r,0,none⟩) d.msgs.length d.msgs.length) K2 next3 R w) a w:=by
 refine loop1_intro (fun a w'=>∃ (Q:List (List Int)) (f:Nat→Bool),QAt w' B a Q∧BRow w' r (tab d.msgs.length f)∧Bfs d.msgs s i Q f∧ShortQ s Q∧Q.length+cntF d.msgs.length f≤d.msgs.length+1∧(∀ X,Ext X W→X.heap.size≤B→Ext X w')∧B≤w'.heap.size) (fun a w=>offsO w r+lenV a) ⟨[[(s:Int)]],fun _=>false,hQ,hR,bfs_start hf hs,?_,?_,hE,hB⟩ ?_
 · intro q hq q' x he
   simp only [List.mem_singleton] at hq
   subst hq
   have:=(snoc_inj (a:=[]) he).2
   simp
   omega
 · have:=cnt_le d.msgs.length (fun _=>false)
   simp
   omega
 rintro a1 w1 ⟨Q,f,hQ1,hR1,hbf,hsh,hsum,hE1,hB1⟩
 cases Q with
 | nil=>exact absurd rfl (bfs_ne hbf)
 | cons q Q =>
  obtain ⟨q',x,rfl,hx⟩:=bfs_last hbf
  obtain ⟨g,off,cap,x0,rfl,hcap,hc0,hx0,htail⟩:=hQ1.head
  have hlen:=hsh _ (List.mem_cons_self ..) q' x rfl
  have EW:Ext W w1:=hE1 W (Ext.refl _) hWB
  have hge:decide (((Q.length+1:Nat):Int) > 0)=true:=by simp only [decide_eq_true_eq];omega
  obtain ⟨gq,capq,curq,rfl,_,hgq,hcq,_,_,_⟩:=hx0.2.resolve_left (fun h=>by have h2:(q'++[(x:Int)]).length=0:=h.2;simp at h2)
  obtain ⟨_,_,_,hh⟩:=own_holds hx0
  have hlast:w1.cell? ⟨gq,q'.length,none⟩=some (.int .i64 (x:Int)):=by
   have:=(hh q'.length (by simp)).1
   rw [getElem!_pos _ q'.length (by simp)] at this
   simpa using this
  have hql:(q'++[(x:Int)]).length=q'.length+1:=by simp
  have hsub:IntKind.i64.wrap (((q'++[(x:Int)]).length:Int) - 1)=(q'.length:Int):=by rw [wrap_ok (by omega) (by omega)];omega
  have hqn:q'.length < (q'++[(x:Int)]).length:=by omega
  have hidx0:∀ (K:Value→World→Prop),opV Pg (Instr.indexAt 78 (.slice (some ⟨g,off,none⟩) (Q.length+1) cap) (.int .i64 0)) (panK R) w1 K=K (.pointer (some ⟨g,off+0*1,none⟩)) w1:=fun K=>op_indexN Tryz.underlying78 ty30 g off (Q.length+1) cap .i64 0 (by omega)
  unfold n67c6
  simp (disch:=try exact DI) only [↓PR,QR,simprocAttr,hge,↓n67c5]
  rw [hidx0]
  by_cases hxi:x=i
  · subst hxi
    have hxx:((x:Int) == (x:Int))=true:=by simp
    simp (disch:=try exact DI) only [↓PR,QR,simprocAttr,hc0,hsub,hlast,hxx,Nat.mul_one,Nat.zero_add]
    exact hK _ _ ⟨g,off,cap,Q.length,_,rfl,hcap,hc0,bfs_done hf hd hbf ▸ hx0⟩ EW
  have hxd:((x:Int) == (i:Int))=false:=by simp;omega
  obtain ⟨m,hm⟩:=getElem?_lt hx
  obtain ⟨A,c,rfl,hlc,hcm,hlm,hel⟩:=SliceOf.open hM
  simp (disch:=try exact DI) only [↓PR,QR,simprocAttr,hc0,hsub,hlast,hxd,Nat.mul_one,Nat.zero_add]
  unfold n67c4
  refine op_sliceTail Tryz.underlying78 ty30 g off (Q.length+1) cap (by omega) hcap fun o' ho=>?_
  simp (disch:=try exact DI) only [↓PR,QR,simprocAttr,(cells_of_heap (EW.obj o2)).1]
  refine callK_ret (refers_ret _ _ d x m ⟨_,rfl,hM.ext (e0.trans EW)⟩ hm hf (ht m (List.mem_of_getElem? hm)).1) ?_
  rintro rv w2 ⟨hT,e2⟩
  have s2:=e2.size
  simp only [List.length_cons] at hsum
  refine path_inner (q:=q'++[(x:Int)]) (Q:=Q) (f:=f) hf hx hl (by simp) (by omega) hT ((htail o' ho).ext e2) (hx0.ext e2) (hR1.ext e2) hBr (by omega) (by omega) ?_
  intro a3 w3 hQ3 hR3 hs3 hE3 hB3
  have E3:∀ X,Ext X W→X.heap.size≤B→Ext X w3:=fun X h1 h2=>hE3 X ((hE1 X h1 h2).trans e2) h2
  rw [to_kids_seen hf] at hR3 hs3
  refine ⟨⟨Q++kidsP (q'++[(x:Int)]) (toP d.msgs x) f,_,hQ3,hR3,bfs_step hf hd hbf hxi,short_step hf f hsh,by omega,E3,hB3⟩,?_⟩
  rw [offs_row hR3,offs_row hR1]
  obtain ⟨xs,⟨_,_,_,_,rfl,_⟩,hxl,_⟩:=hQ3.row
  simp only [lenV]
  omega
end
theorem Path_ret (w0:World) (v:Value) (d:DefD) (i:Int) (hd:DefVal w0 v d) (ht:calm d):Ret Pg 24 #[v,.int .i64 i] w0 fun r w'=>(∃ u,r = .tuple #[u,.int .i64 (errP d i)]∧RowI w' w0.heap.size u (pathE d i))∧Ext w0 w':=by
 obtain ⟨mv,rfl,hM⟩:=hd
 have hm1:=SliceOf.oneCell hM
 refine n67s (R:=retR _) ?_;unfold n67
 rw [op_boxA]
 have o1:=heap_new w0 (defCells d mv).toArray 28
 have eW:Ext w0 (w0.alloc (.cells (defCells d mv).toArray 28)):=ee
 generalize (w0.alloc (.cells (defCells d mv).toArray 28))=W at o1 eW ⊢
 generalize hp1:w0.heap.size=p1 at o1 ⊢
 simp (disch:=try exact DI) only [↓PR,QR,simprocAttr,(cells_of_heap o1).1]
 refine callK_ret (reached_ret _ _ d ⟨_,rfl,hM.ext eW⟩ ht) ?_
 rintro r w1 ⟨hr,e1⟩
 have E1:=eW.trans e1
 have s1:=E1.size
 by_cases hc:(checkP d).2.2=0
 case neg =>
  simp only [hc,if_false] at hr
  subst hr
  have he:errP d i=2:=if_neg hc
  rw [he,show pathE d i=[] by unfold pathE;rw [he];rfl]
  unfold n67c11
  simp (disch:=try exact DI) only [↓PR,QR,simprocAttr]
  exact ⟨⟨_,rfl,OwnE.nil _ _ _ _ _⟩,E1⟩
 simp only [hc,if_true] at hr
 obtain ⟨b,rfl,hb,hR⟩:=hr
 obtain ⟨hs,hany,hidx⟩:=start_spec hc
 have hf:=(check_fine hc).2.2.1
 have hl60:=(check_fine hc).2.1.2
 have he1:errP d i=(if 0≤i∧i < d.msgs.length then (if reachB d.msgs (startI d) i.toNat then 0 else 9) else 3):=if_pos hc
 unfold n67c11
 by_cases hin:0≤i∧i < d.msgs.length
 case neg =>
  have he:errP d i=3:=by rw [he1,if_neg hin]
  rw [he,show pathE d i=[] by unfold pathE;rw [he];rfl]
  cases h0:decide (i < 0) with
  | true =>
   simp (disch:=try exact DI) only [↓PR,QR,simprocAttr,↓n67c10,h0]
   exact ⟨⟨_,rfl,OwnE.nil _ _ _ _ _⟩,E1⟩
  | false =>
   have h2:decide (i≥(d.msgs.length:Int))=true:=by simp at h0 ⊢;omega
   simp (disch:=try exact DI) only [↓PR,QR,simprocAttr,↓n67c10,h0,h2]
   exact ⟨⟨_,rfl,OwnE.nil _ _ _ _ _⟩,E1⟩
 rw [if_pos hin] at he1
 obtain ⟨n,rfl⟩:∃ n:Nat,i=(n:Int):=⟨i.toNat,by omega⟩
 rw [Int.toNat_natCast] at he1
 have hn:n < d.msgs.length:=by omega
 have h0:decide ((n:Int) < 0)=false:=by simp
 have h2:decide ((n:Int)≥(d.msgs.length:Int))=false:=by simp;omega
 have c1:w1.cell? ⟨b,n,none⟩=some (.bool (reachB d.msgs (startI d) n)):=hR.get (tab_get hn)
 simp (disch:=try exact DI) only [↓PR,QR,simprocAttr,↓n67c10,h0,h2]
 unfold n67c9
 cases hrb:reachB d.msgs (startI d) n with
 | false =>
  rw [hrb] at he1 c1
  have he:errP d n=9:=by rw [he1];rfl
  rw [he,show pathE d n=[] by unfold pathE;rw [he];rfl]
  simp (disch:=try exact DI) only [↓PR,QR,simprocAttr,c1,Nat.mul_one,Nat.zero_add]
  exact ⟨⟨_,rfl,OwnE.nil _ _ _ _ _⟩,E1⟩
 | true =>
  rw [hrb] at he1 c1
  have he:errP d n=0:=by rw [he1];rfl
  rw [he,show pathE d n=pathP n d.msgs (startI d) by unfold pathE;rw [he];rfl]
  have hdn:=(reach_dist hf hs hn (by omega)).1 hrb
  simp (disch:=try exact DI) only [↓PR,QR,simprocAttr,c1,↓n67c8,(cells_of_heap (e1.obj o1)).1,Nat.mul_one,Nat.zero_add]
  refine zcr (Find_ret _ _ d d.start ⟨_,rfl,hM.ext E1⟩) fun w2 e2=>?_
  rw [hidx,hany]
  have E2:=E1.trans e2
  generalize startI d=s at *
  have s2:=E2.size
  have o2:w2.heap[p1]?=some (.cells (defCells d mv).toArray 28 (0,0)):=(e1.trans e2).obj o1
  unfold n67c7
  simp (disch:=try exact DI) only [↓PR,QR,simprocAttr]
  rw [op_makeBools d.msgs.length (by omega)]
  generalize hV:World.alloc (World.alloc w2 _) _=V
  have eV:Ext w2 V:=by rw [← hV];exact ee
  have sV:V.heap.size=w2.heap.size+2:=by rw [← hV];simp only [World.size_alloc]
  have oA:V.heap[w2.heap.size]?=some (.cells #[.int .i64 (s:Int)] 3 (0,0)):=by rw [← hV];exact (Ext.alloc (Ext.refl _) _).obj (heap_new w2 _ _)
  have oB:V.heap[w2.heap.size+1]?=some (.cells #[.slice (some ⟨w2.heap.size,0,none⟩) 1 1] TS (0,0)):=by rw [← hV,show w2.heap.size+1=(w2.alloc (.cells #[.int .i64 (s:Int)] 3)).heap.size by simp only [World.size_alloc]];exact heap_new (w2.alloc _) _ _
  clear hV
  have eY:Ext V (V.alloc (.cells ((List.replicate d.msgs.length false).map fun x=>Value.bool x).toArray 4)):=ee
  have oR:BRow (V.alloc (.cells ((List.replicate d.msgs.length false).map fun x=>Value.bool x).toArray 4)) V.heap.size (tab d.msgs.length fun _=>false):=by
   have:=heap_new V ((List.replicate d.msgs.length false).map fun x=>Value.bool x).toArray 4
   rw [show tab d.msgs.length (fun _=>false)=List.replicate d.msgs.length false by unfold tab;rw [List.map_const'];simp]
   exact this
  generalize (V.alloc (.cells ((List.replicate d.msgs.length false).map fun x=>Value.bool x).toArray 4))=Y at eY oR ⊢
  have oA:=eY.obj oA
  have oB:=eY.obj oB
  have eX:=eV.trans eY
  have hRow:RowI Y w2.heap.size (.slice (some ⟨w2.heap.size,0,none⟩) 1 1) [(s:Int)]:=rowI_of ⟨rfl,.inr ⟨_,1,_,rfl,Nat.le_refl _,oA,Nat.le_refl _,by decide,rfl,rfl⟩⟩
  have hQ:QAt Y w2.heap.size (.slice (some ⟨w2.heap.size+1,0,none⟩) 1 1) [[(s:Int)]]:=⟨[.slice (some ⟨w2.heap.size,0,none⟩) 1 1],⟨_,0,1,_,rfl,by omega,oB,Nat.le_refl _,Nat.le_refl _,by decide,rfl⟩,rfl,fun k x q hx hq=>by
   cases k with
   | zero=>injection hx with hx;injection hq with hq;subst hx hq;exact hRow
   | succ k=>cases hx⟩
  rw [sV] at oR ⊢
  simp only [World.size_alloc]
  rw [joinK_eq]
  refine path_loop (mv:=mv) hM E2 ht hf hl60 hs hn hdn o2 (Nat.le_refl _) (by omega) (fun X e _=>e.trans eX) eX.size hQ oR ?_
  rintro _ w4 ⟨g,off,cap,m,x,rfl,hcap,hx,hXR⟩ e4
  have hidx0:∀ (QP:List PanicEntry→World→Prop) (K:Value→World→Prop),opV Pg (Instr.indexAt 78 (.slice (some ⟨g,off,none⟩) (m+1) cap) (.int .i64 0)) QP w4 K=K (.pointer (some ⟨g,off,none⟩)) w4:=fun QP K=>by simpa using op_indexN (w:=w4) (QP:=QP) (k:=K) Tryz.underlying78 ty30 g off (m+1) cap .i64 0 (by omega)
  rw [hidx0]
  have hx1:=SliceOf.oneCell hXR.ints
  simp (disch:=try exact DI) only [↓PR,QR,simprocAttr,hx]
  exact ⟨⟨_,rfl,OwnE.base hXR (by omega)⟩,E2.trans e4⟩
end Go.Proofs.YtfjjgjjlebllmaaGreat
namespace Go.Sw
open Go.ChangeShapes Go.WideShapes Go.RowKit Go.ChangeAt Go.Deep
theorem list_of {α:Type} {p:Nat→α→Prop}:∀ (n:Nat),(∀ i,i < n→∃ x,p i x)→∃ l:List α,l.length=n∧∀ k x,l[k]?=some x→p k x
 | 0,_=>⟨[],rfl,fun k x h=>by simp at h⟩
 | n+1,h=>by
  obtain ⟨l,hl,hp⟩:=list_of n (fun i hi=>h i (by omega))
  obtain ⟨x,hx⟩:=h n (by omega)
  refine ⟨l++[x],by simp [hl],fun k y hy=>?_⟩
  rw [List.getElem?_append] at hy
  split at hy
  · exact hp k y hy
  · have hk:k=n:=by
     have:=(List.getElem?_eq_some_iff.1 hy).1
     simp at this
     omega
    subst hk
    simp [hl] at hy
    subst hy
    exact hx
section
variable {H:Type} {enc:TypeId×Value→H} {P:Program} {w:World} {base:Nat} {spare:Nat→Bool} {held:Bool}
theorem weightsAll_mem {e:TypeId} {m:Nat} {d:DataW H}:∀ {l:List (DataW H)},d∈l→m∈d.weights P e→m∈DataW.weightsAll P e l
 | [],h,_=>by cases h
 | a::l,h,hm=>by
  rw [DataW.weightsAll,List.mem_append]
  rcases List.mem_cons.1 h with rfl | h
  · exact .inl hm
  · exact .inr (weightsAll_mem h hm)
def Reached (P:Program) (t:TypeId) (d:DataW H):Prop:=∀ m∈d.weights P t,m≤reachBytes
theorem reached_of {ts:List TypeId} {ds:List (DataW H)} (h:(DataW.weightsEach P ts ds).all (· ≤ reachBytes)=true) {j:Nat} {t:TypeId} {d:DataW H} (ht:ts[j]?=some t) (hd:ds[j]?=some d):Reached P t d:=fun m hm=>by
 have:=List.all_eq_true.1 h _ (DataW.weights_mem_each ht hd m hm)
 simpa using this
theorem slice_of_trod {α:Type} {E:World→List Value→α→Prop} {Q:α→Prop} {t e:TypeId} {n fuel:Nat} {cs:List Value} {x:DataW H×List MemPlace} (ht:P.underlying t=some (.slice e)) (hn:P.cellsOf e=n) (hb1:1≤P.bytesOf e) (h0:0 < n)
 (hE:∀ m cs' y,DataW.trod enc P w base spare held m e cs'=some y→Reached P e y.1→∃ x,E w cs' x∧Q x) (h:DataW.trod enc P w base spare held fuel t cs=some x) (hr:Reached P t x.1):∃ v l,cs=[v]∧SliceOf w n E v l∧(∀ x∈l,Q x)∧l.length≤140737488355328:=by
 rcases open_slice ht h with ⟨rfl,_⟩ | ⟨a,len,cap,m,k,D,Pl,rfl,hb,hl,hm,hmm,hx,hel⟩
 · exact ⟨_,[],rfl,SliceOf.nil _ _ _,fun x hx=>by (cases hx),Nat.zero_le _⟩
 · have hlm:len≤m:=by rw [hmm];split<;>omega
   subst hx
   have hw0:=hr ((len+(m - len))*P.bytesOf e) (by simp only [DataW.weights,ht];simp)
   have hlen:len≤140737488355328:=by
    have:len*1≤(len+(m - len))*P.bytesOf e:=Nat.mul_le_mul (by omega) hb1
    simp only [reachBytes] at hw0
    omega
   have hD:∀ i,i < len→Reached P e (D i):=fun i hi q hq=>hr q (by
    simp only [DataW.weights,ht,List.mem_cons,List.mem_append]
    exact .inr (.inl (weightsAll_mem (List.mem_map.2 ⟨i,List.mem_range.2 hi,rfl⟩) hq)))
   obtain ⟨l,hll,hp⟩:=list_of (p:=fun i (x:α)=>∃ cs',w.cells? base (a.add (i*n)) n=some cs'∧E w cs' x∧Q x) len (fun i hi=>by
    obtain ⟨cs',h1,h2⟩:=hel i (by omega)
    rw [hn] at h1
    obtain ⟨x,hx⟩:=hE _ _ _ h2 (hD i hi)
    exact ⟨x,cs',h1,hx⟩)
   refine ⟨_,l,rfl,⟨some a,cap,by rw [hll],by rw [hll];exact hl,by simp only [maxLen] at hm;omega,fun hne=>?_⟩,fun x hx=>?_,by omega⟩
   · obtain ⟨b,o,spot⟩:=a
     have hspot:spot=none:=by
      have:0 < l.length:=List.length_pos_iff.2 hne
      obtain ⟨y,hy⟩:=getElem?_lt this
      obtain ⟨cs',h1,_⟩:=hp 0 y hy
      obtain ⟨_,h2,h3⟩:=World.cells?_some h1
      have h4:=h3 0 h0
      rw [List.getElem?_eq_getElem (by omega)] at h4
      simpa [Addr.add] using World.cell?_spot h4
     subst hspot
     refine ⟨b,o,rfl,fun k x hx=>?_⟩
     obtain ⟨cs',h1,h2,_⟩:=hp k x hx
     obtain ⟨_,h3,h4⟩:=World.cells?_some h1
     refine ⟨cs',h3,fun j v hv=>?_,h2⟩
     have h5:=h4 j (by have:=(List.getElem?_eq_some_iff.1 hv).1;omega)
     rw [hv] at h5
     simpa [Addr.add_lit] using h5
   · obtain ⟨k,hk⟩:=List.getElem?_of_mem hx
     obtain ⟨_,_,_,hq⟩:=hp k x hk
     exact hq
theorem struct_of_trod {fs:Array Field} {t:TypeId} {n fuel:Nat} {cs:List Value} {x:DataW H×List MemPlace} (ht:P.underlying t=some (.struct fs)) (hn:P.cellsOf t=n) (h:DataW.trod enc P w base spare held fuel t cs=some x) (hr:Reached P t x.1) :
 cs.length=n∧∃ m,∀ (i:Nat) (ty off k:Nat),(fs[i]?).map (fun f=>(f.type,f.offset))=some (ty,off)→P.cellsOf ty=k→∃ y,DataW.trod enc P w base spare held m ty ((cs.drop off).take k)=some y∧Reached P ty y.1:=by
 obtain ⟨xs,m,_,rfl,hl,hlen,hf⟩:=DataW.trod_struct ht h
 refine ⟨hl.trans hn,m,fun i ty off k hi hk=>?_⟩
 obtain ⟨f,hfi,he⟩:=Option.map_eq_some_iff.1 hi
 injection he with h1 h2
 subst h1 h2 hk
 have hil:i < xs.length:=by rw [hlen];exact (Array.getElem?_eq_some_iff.1 hfi).1
 refine ⟨xs[i],(hf i f hfi).trans (List.getElem?_eq_getElem hil),fun q hq=>hr q ?_⟩
 simp only [DataW.weights,ht]
 refine DataW.weights_mem_each (j:=i) (t:=f.type) (d:=xs[i].1) ?_ ?_ q hq
 · rw [List.getElem?_map,Array.getElem?_toList,hfi];rfl
 · rw [List.getElem?_map,List.getElem?_eq_getElem hil];rfl
theorem trodAll_stays (hl:laidOutB P=true) {W W':World} (he:Ext W W'):∀ {ts:List TypeId} {vs:List Value} {ds:List (DataW H)} {ps:List MemPlace},(∀ t∈ts,P.readableRec t=true∧t < P.types.size)→(∀ x∈ps,x.block < W.heap.size) →
 DataW.TrodAll enc P W 0 (fun _=>true) true ts vs ds ps→DataW.TrodAll enc P W' 0 (fun b=>decide (b < W.heap.size)) true ts vs ds ps
 | [],_,_,_,_,_,h=>by obtain ⟨rfl,rfl,rfl⟩:=trodAll_nil h;exact trodAll_mk0
 | t::ts,_,_,_,hr,hlt,h=>by
  obtain ⟨v,vs1,d,ds1,a,b,rfl,rfl,rfl,h1,h2⟩:=trodAll_cons h
  refine ⟨a,b,?_,trodAll_stays hl he (fun t ht=>hr t (List.mem_cons_of_mem _ ht)) (fun x hx=>hlt x (List.mem_append_right _ hx)) h2,rfl⟩
  exact Below.trod hl (hr t (List.mem_cons_self ..)).1 (hr t (List.mem_cons_self ..)).2 h1 ⟨he.os,he.tape,he.output,he.size,he.block⟩ (fun x hx=>hlt x (List.mem_append_left _ hx))
theorem law_post {f:Func} {s:ChangeSpec} {W W':World} {args:Array Value} {ds gs:List (DataW H)} {before:List MemPlace} {tb:TypeId} (hl:laidOutB P=true) (hr:∀ t∈f.params.toList,P.readableRec t=true∧t < P.types.size) (hs:s.vars=[])
 (hW:DataW.Whole enc P f.params.toList s.vars false W args.toList ds gs before) (he:Ext W W') (hres:f.resultTypes = #[tb]) (htb:P.underlying tb=some .bool) (hfn:(s.fn H ds).results=[.lit (.bool true)]) (hargs:(s.fn H ds).args=ds) (hvars:(s.fn H ds).vars=[]) :
 s.post enc P f false true false false W args (.bool true) W':=by
 have hW':=hW
 obtain ⟨p,q,hA,hV,rfl,_,_⟩:=hW
 rw [hs] at hV
 obtain ⟨rfl,rfl⟩:=trodVars_none hV
 have hlt:∀ x∈p,x.block < W.heap.size:=fun x hx=>hW'.lt x (by simpa using hx)
 rw [List.append_nil] at hW'
 refine ⟨ds,[],p,[],p,[],hW',?_,?_,?_,Below.frame ⟨he.os,he.tape,he.output,he.size,he.block⟩ _,fun h=>by cases h⟩
 · rw [List.append_nil,hfn,hres]
   exact trodAll_mk1 (shut_bool htb _)
 · rw [List.append_nil,hargs]
   exact trodAll_stays hl he hr hlt hA
 · rw [List.append_nil,hvars,hs]
   exact rfl
end
end Go.Sw
namespace Go.Proofs.YtfjjgjjlebllmaaGreat
open Sw
open Go.ChangeShapes Go.WideShapes Go.RowKit Go.ChangeAt Go.Deep
theorem cellsTerm:Pg.cellsOf 62=2:=by kernel_rfl
theorem cellsCase:Pg.cellsOf 60=3:=by kernel_rfl
theorem cellsSize:Pg.cellsOf 45=2:=by kernel_rfl
theorem cellsField:Pg.cellsOf 48=15:=by kernel_rfl
theorem cellsMessage:Pg.cellsOf 24=2:=by kernel_rfl
theorem cellsDefinition:Pg.cellsOf 28=3:=by kernel_rfl
theorem cellsString:Pg.cellsOf 9=1:=by kernel_rfl
theorem cellsInt:Pg.cellsOf 3=1:=by kernel_rfl
theorem cellsBool:Pg.cellsOf 4=1:=by kernel_rfl
theorem cellsKind:Pg.cellsOf 42=1:=by kernel_rfl
theorem cellsTerms:Pg.cellsOf 43=1:=by kernel_rfl
theorem cellsCases:Pg.cellsOf 46=1:=by kernel_rfl
theorem cellsFields:Pg.cellsOf 22=1:=by kernel_rfl
theorem bytesTerm:1≤Pg.bytesOf 62:=Nat.le_of_ble_eq_true (by kernel_rfl)
theorem bytesCase:1≤Pg.bytesOf 60:=Nat.le_of_ble_eq_true (by kernel_rfl)
theorem bytesField:1≤Pg.bytesOf 48:=Nat.le_of_ble_eq_true (by kernel_rfl)
theorem bytesMessage:1≤Pg.bytesOf 24:=Nat.le_of_ble_eq_true (by kernel_rfl)
def FieldSm (f:FieldD):Prop:=f.terms.length≤140737488355328∧f.cases.length≤140737488355328∧∀ c∈f.cases,c.of.size≤140737488355328
def MsgSm (m:MsgD):Prop:=m.fields.length≤140737488355328∧∀ f∈m.fields,FieldSm f
def DefSm (d:DefD):Prop:=d.msgs.length≤140737488355328∧∀ m∈d.msgs,MsgSm m
theorem cellsMessages:Pg.cellsOf 26=1:=by kernel_rfl
section
variable {H:Type} {enc:TypeId×Value→H} {w:World} {base:Nat} {spare:Nat→Bool} {held:Bool}
theorem term_of {m:Nat} {cs:List Value} {y:DataW H×List MemPlace} (h:DataW.trod enc Pg w base spare held m 62 cs=some y) (hr:Reached Pg 62 y.1):∃ x,ETerm w cs x:=by
 obtain ⟨hl,n,hf⟩:=struct_of_trod Tryz.underlying62 cellsTerm h hr
 obtain ⟨y0,h0,r0⟩:=hf 0 9 0 1 rfl cellsString
 obtain ⟨y1,h1,r1⟩:=hf 1 3 1 1 rfl cellsInt
 match cs,hl with
 | [c0,c1],_ =>
  obtain ⟨s,e0,_⟩:=DataW.trod_string Tryz.underlying9 h0
  obtain ⟨k,e1,_⟩:=DataW.trod_int Tryz.underlying3 h1
  simp at e0 e1
  subst e0 e1
  exact ⟨⟨s,k⟩,rfl⟩
theorem case_of {m:Nat} {cs:List Value} {y:DataW H×List MemPlace} (h:DataW.trod enc Pg w base spare held m 60 cs=some y) (hr:Reached Pg 60 y.1):∃ x,ECase w cs x∧x.of.size≤140737488355328:=by
 obtain ⟨hl,n,hf⟩:=struct_of_trod Tryz.underlying60 cellsCase h hr
 obtain ⟨y0,h0,r0⟩:=hf 0 3 0 1 rfl cellsInt
 obtain ⟨y1,h1,r1⟩:=hf 1 3 1 1 rfl cellsInt
 obtain ⟨y2,h2,r2⟩:=hf 2 9 2 1 rfl cellsString
 match cs,hl with
 | [c0,c1,c2],_ =>
  obtain ⟨a,e0,_⟩:=DataW.trod_int Tryz.underlying3 h0
  obtain ⟨b,e1,_⟩:=DataW.trod_int Tryz.underlying3 h1
  obtain ⟨s,e2,e3,_⟩:=DataW.trod_string Tryz.underlying9 h2
  simp at e0 e1 e2
  subst e0 e1 e2
  refine ⟨⟨a,b,s⟩,rfl,?_⟩
  have:=r2 s.data.toList.length (by rw [e3];exact List.mem_singleton.2 rfl)
  simp only [reachBytes] at this
  have h4:s.size=s.data.toList.length:=Array.length_toList.symm
  show s.size≤_
  omega
theorem size_of {m:Nat} {cs:List Value} {y:DataW H×List MemPlace} (h:DataW.trod enc Pg w base spare held m 45 cs=some y) (hr:Reached Pg 45 y.1):∃ b tv ts,cs=[.int .i64 b,tv]∧TermsOf w tv ts∧ts.length≤140737488355328:=by
 obtain ⟨hl,n,hf⟩:=struct_of_trod Tryz.underlying45 cellsSize h hr
 obtain ⟨y0,h0,r0⟩:=hf 0 3 0 1 rfl cellsInt
 obtain ⟨y1,h1,r1⟩:=hf 1 43 1 1 rfl cellsTerms
 match cs,hl with
 | [c0,c1],_ =>
  obtain ⟨a,e0,_⟩:=DataW.trod_int Tryz.underlying3 h0
  obtain ⟨v,l,e1,hS,_,hL⟩:=slice_of_trod (E:=ETerm) (Q:=fun _=>True) Tryz.underlying43 cellsTerm bytesTerm (by decide) (fun _ _ _ h hr=>let ⟨x,hx⟩:=term_of h hr; ⟨x,hx,trivial⟩) h1 r1
  simp at e0 e1
  subst e0 e1
  exact ⟨a,_,l,rfl,hS,hL⟩
theorem field_of {m:Nat} {cs:List Value} {y:DataW H×List MemPlace} (h:DataW.trod enc Pg w base spare held m 48 cs=some y) (hr:Reached Pg 48 y.1):∃ x,EField w cs x∧FieldSm x:=by
 obtain ⟨hl,n,hf⟩:=struct_of_trod Tryz.underlying48 cellsField h hr
 obtain ⟨y0,h0,r0⟩:=hf 0 9 0 1 rfl cellsString
 obtain ⟨y1,h1,r1⟩:=hf 1 42 1 1 rfl cellsKind
 obtain ⟨y2,h2,r2⟩:=hf 2 3 2 1 rfl cellsInt
 obtain ⟨y3,h3,r3⟩:=hf 3 4 3 1 rfl cellsBool
 obtain ⟨y4,h4,r4⟩:=hf 4 4 4 1 rfl cellsBool
 obtain ⟨y5,h5,r5⟩:=hf 5 3 5 1 rfl cellsInt
 obtain ⟨y6,h6,r6⟩:=hf 6 3 6 1 rfl cellsInt
 obtain ⟨y7,h7,r7⟩:=hf 7 45 7 2 rfl cellsSize
 obtain ⟨y8,h8,r8⟩:=hf 8 9 9 1 rfl cellsString
 obtain ⟨y9,h9,r9⟩:=hf 9 9 10 1 rfl cellsString
 obtain ⟨y10,h10,r10⟩:=hf 10 9 11 1 rfl cellsString
 obtain ⟨y11,h11,r11⟩:=hf 11 46 12 1 rfl cellsCases
 obtain ⟨y12,h12,r12⟩:=hf 12 3 13 1 rfl cellsInt
 obtain ⟨y13,h13,r13⟩:=hf 13 3 14 1 rfl cellsInt
 match cs,hl with
 | [c0,c1,c2,c3,c4,c5,c6,c7,c8,c9,c10,c11,c12,c13,c14],_ =>
  obtain ⟨x0,e0,_⟩:=DataW.trod_string Tryz.underlying9 h0
  obtain ⟨x1,e1,_⟩:=DataW.trod_int Tryz.underlying42 h1
  obtain ⟨x2,e2,_⟩:=DataW.trod_int Tryz.underlying3 h2
  obtain ⟨x3,e3,_⟩:=DataW.trod_bool Tryz.underlying4 h3
  obtain ⟨x4,e4,_⟩:=DataW.trod_bool Tryz.underlying4 h4
  obtain ⟨x5,e5,_⟩:=DataW.trod_int Tryz.underlying3 h5
  obtain ⟨x6,e6,_⟩:=DataW.trod_int Tryz.underlying3 h6
  obtain ⟨x7,tv,ts,e7,hT,hTl⟩:=size_of h7 r7
  obtain ⟨x9,e9,_⟩:=DataW.trod_string Tryz.underlying9 h8
  obtain ⟨x10,e10,_⟩:=DataW.trod_string Tryz.underlying9 h9
  obtain ⟨x11,e11,_⟩:=DataW.trod_string Tryz.underlying9 h10
  obtain ⟨cv,l,e12,hC,hCq,hCl⟩:=slice_of_trod (E:=ECase) (Q:=fun c=>c.of.size≤140737488355328) Tryz.underlying46 cellsCase bytesCase (by decide) (fun _ _ _ h hr=>case_of h hr) h11 r11
  obtain ⟨x13,e13,_⟩:=DataW.trod_int Tryz.underlying3 h12
  obtain ⟨x14,e14,_⟩:=DataW.trod_int Tryz.underlying3 h13
  simp at e0 e1 e2 e3 e4 e5 e6 e7 e9 e10 e11 e12 e13 e14
  obtain ⟨e7,e8⟩:=e7
  subst e0 e1 e2 e3 e4 e5 e6 e7 e8 e9 e10 e11 e12 e13 e14
  exact ⟨⟨x0,x1,x2,x3,x4,x5,x6,x7,ts,x9,x10,x11,l,x13,x14⟩,⟨_,_,rfl,hT,hC⟩,hTl,hCl,hCq⟩
theorem msg_of {m:Nat} {cs:List Value} {y:DataW H×List MemPlace} (h:DataW.trod enc Pg w base spare held m 24 cs=some y) (hr:Reached Pg 24 y.1):∃ x,EMsg w cs x∧MsgSm x:=by
 obtain ⟨hl,n,hf⟩:=struct_of_trod Tryz.underlying24 cellsMessage h hr
 obtain ⟨y0,h0,r0⟩:=hf 0 9 0 1 rfl cellsString
 obtain ⟨y1,h1,r1⟩:=hf 1 22 1 1 rfl cellsFields
 match cs,hl with
 | [c0,c1],_ =>
  obtain ⟨a,e0,_⟩:=DataW.trod_string Tryz.underlying9 h0
  obtain ⟨v,l,e1,hS,hQ,hL⟩:=slice_of_trod (E:=EField) (Q:=FieldSm) Tryz.underlying22 cellsField bytesField (by decide) (fun _ _ _ h hr=>field_of h hr) h1 r1
  simp at e0 e1
  subst e0 e1
  exact ⟨⟨a,l⟩,⟨_,rfl,hS⟩,hL,hQ⟩
theorem def_of {m:Nat} {cs:List Value} {y:DataW H×List MemPlace} (h:DataW.trod enc Pg w base spare held m 28 cs=some y) (hr:Reached Pg 28 y.1):∃ d mv,cs=defCells d mv∧MsgsOf w mv d.msgs∧DefSm d:=by
 obtain ⟨hl,n,hf⟩:=struct_of_trod Tryz.underlying28 cellsDefinition h hr
 obtain ⟨y0,h0,r0⟩:=hf 0 9 0 1 rfl cellsString
 obtain ⟨y1,h1,r1⟩:=hf 1 26 1 1 rfl cellsMessages
 obtain ⟨y2,h2,r2⟩:=hf 2 9 2 1 rfl cellsString
 match cs,hl with
 | [c0,c1,c2],_ =>
  obtain ⟨a,e0,_⟩:=DataW.trod_string Tryz.underlying9 h0
  obtain ⟨v,l,e1,hS,hQ,hL⟩:=slice_of_trod (E:=EMsg) (Q:=MsgSm) Tryz.underlying26 cellsMessage bytesMessage (by decide) (fun _ _ _ h hr=>msg_of h hr) h1 r1
  obtain ⟨b,e2,_⟩:=DataW.trod_string Tryz.underlying9 h2
  simp at e0 e1 e2
  subst e0 e1 e2
  exact ⟨⟨a,l,b⟩,_,rfl,hS,hL,hQ⟩
theorem def_val {r:Reach} {b0:Nat} {v:Value} {d:DataW H} {ps:List MemPlace} (hval:Value.okWide Pg w r b0 28 v) (h:DataW.Trod enc Pg w base spare held 28 v d ps) (hr:Reached Pg 28 d):∃ f,DefVal w v f∧DefSm f:=by
 obtain ⟨cs,rfl,_⟩:=okWide_struct Tryz.underlying28 hval
 obtain ⟨fuel,hf⟩:=h
 obtain ⟨f,tv,h1,h2,hs⟩:=def_of hf hr
 exact ⟨f,⟨tv,congrArg Value.agg (by rw [← h1,cells_agg]),h2⟩,hs⟩
end
end Go.Proofs.YtfjjgjjlebllmaaGreat
namespace Go.Proofs.YtfjjgjjlebllmaaGreat
open Sw
def n4c1 (t6 t23:Value) (next3:KV) (R:RT) (w:World):Prop :=
 X0 22 t23 t6 R w fun t38 w =>
 F0 48 t38 11 R w fun t39 w =>
 L0 46 t39 R w fun t40 w =>
 opV Pg (Builtin.len_ #[46] 3 #[t40]) (panK R) w fun t41 w =>
 B0 .gtr 3 true t41 (.int .i64 50) R w fun t42 w =>
 joinK (fun (t51:Value) (w:World) =>
 pickK t42 (.bool true) t51 fun t52 =>
 condP t52 (
 R (.returned (.bool false)) w) (
 B0 .add 3 true t6 (.int .i64 1) R w fun t35 w =>
 next3 t35 w)) fun K4 =>
 guardP t42 false (
 X0 22 t23 t6 R w fun t46 w =>
 F0 48 t46 7 R w fun t47 w =>
 F0 45 t47 1 R w fun t48 w =>
 L0 43 t48 R w fun t49 w =>
 opV Pg (Builtin.len_ #[43] 3 #[t49]) (panK R) w fun t50 w =>
 B0 .gtr 3 true t50 (.int .i64 10) R w fun t51 w =>
 K4 t51 w) (
 K4 undef w)
def n4c2 (t4 t6 t23 t27:Value) (next1:KW) (next3:KV) (R:RT) (w:World):Prop :=
 opV Pg (Builtin.len_ #[22] 3 #[t23]) (panK R) w fun t32 w =>
 B0 .lss 3 false t6 t32 R w fun t33 w =>
 condP t33 (
 n4c1 t6 t23 next3 R w) (
 B0 .add 3 true t4 (.int .i64 1) R w fun t17 w =>
 next1 t27 t17 w)
def n4c3 (t1:Value) (R:RT) (w:World):Prop :=
 F0 28 t1 1 R w fun t53 w =>
 L0 26 t53 R w fun t54 w =>
 opV Pg (Builtin.len_ #[26] 3 #[t54]) (panK R) w fun t55 w =>
 B0 .leq 3 true t55 (.int .i64 70) R w fun t56 w =>
 R (.returned t56) w
def n4c4 (t1 t3 t4:Value) (next1:KW) (R:RT) (w:World):Prop :=
 F0 28 t1 1 R w fun t18 w =>
 L0 26 t18 R w fun t19 w =>
 X0 26 t19 t4 R w fun t21 w =>
 F0 24 t21 1 R w fun t22 w =>
 L0 22 t22 R w fun t23 w =>
 opV Pg (Builtin.len_ #[22] 3 #[t23]) (panK R) w fun t26 w =>
 B0 .add 3 false t3 t26 R w fun t27 w =>
 B0 .gtr 3 true t27 (.int .i64 400) R w fun t29 w =>
 condP t29 (
 R (.returned (.bool false)) w) (
 loop1 (fun t6 w next3 =>
 n4c2 t4 t6 t23 t27 next1 next3 R w) (.int .i64 0) w)
def n4c5 (t1 t3 t4:Value) (next1:KW) (R:RT) (w:World):Prop :=
 F0 28 t1 1 R w fun t8 w =>
 L0 26 t8 R w fun t9 w =>
 opV Pg (Builtin.len_ #[26] 3 #[t9]) (panK R) w fun t10 w =>
 B0 .lss 3 false t4 t10 R w fun t11 w =>
 joinK (fun (t14:Value) (w:World) =>
 pickK t11 t14 (.bool false) fun t15 =>
 condP t15 (
 n4c4 t1 t3 t4 next1 R w) (
 n4c3 t1 R w)) fun K2 =>
 guardP t11 true (
 B0 .leq 3 true t4 (.int .i64 70) R w fun t14 w =>
 K2 t14 w) (
 K2 undef w)
def n4 (t0:Value) (R:RT) (w:World):Prop :=
 opV Pg (Instr.box 28 t0) (panK R) w fun t1 w =>
 loop2 (fun t3 t4 w next1 =>
 n4c5 t1 t3 t4 next1 R w) (.int .i64 0) (.int .i64 0) w
set_option maxHeartbeats 40000000 in
theorem n4s {t0:Value} {R:RT} {w:World} (h:n4 t0 R w):Calls Pg 10 #[t0] w R:=by
 refine yD Tryz.func10 ?_
 refine zs<|zr<|yv h fun _ w h=>zm<|zn<|zk<|zs<|zr<|zm<|zn<|zk<|zs<|zs<|zr<|zm ?_
 refine zn<|zk<|sim_block<|yl2 [2,3,4,5,6,7,8,9,10,11,12,13,14,15,16,17,18,19,20,21,22,23,24,25,26,27,28,29,30,31,32,33,34,35,36,37,38,39,40,41,42,43,44,45,46,47,48,49,50,51,52] 3 4 h fun σ w next h=>zs<|zs<|sim_regionG<|yG 6<|zm<|yv h fun _ w h=>yv h fun _ w h=>yx h fun _ w h=>yb h fun _ w h=>zm<|zn ?_
 refine yg1 2 5 true [13,14] 14 h (fun _ T hT h=>?_) fun σ w h=>?_
 · refine zm<|yb h fun _ w h=>zn ?_
   exact zt hT h
 refine yG 1<|yp h fun _ h=>zn<|sim_end<|zk<|yC h (fun h=>?_) fun h=>?_
 · refine sim_skip<|zk<|zs<|sim_block<|zs<|zr<|yv h fun _ w h=>yv h fun _ w h=>zm<|yv h fun _ w h=>yv h fun _ w h=>yv h fun _ w h=>zm<|zn<|zk ?_
   refine zs<|zr<|zm<|zm<|yx h fun _ w h=>yb h fun _ w h=>zm<|zn<|zk<|zs<|zs<|zr<|zm<|yb h fun _ w h=>zn ?_
   refine zk<|yC h (fun h=>zs<|zr<|zm<|zn<|zk<|sim_ret<|sim_then_ret<|sim_block_ret<|sim_then_ret<|sim_then_ret<|sim_block_ret<|sim_then_ret<|body_ret1 rfl rfl h) fun h=>sim_skip<|zk<|zs<|zr<|zm<|zn<|zk<|sim_block<|yl1 [2,6,30,31,32,33,34,35,36,37,38,39,40,41,42,43,44,45,46,47,48,49,50,51,52] 6 h fun σ w next h=>zs<|zs<|zr ?_
   refine zm<|zm<|yx h fun _ w h=>yb h fun _ w h=>zn<|zk<|yC h (fun h=>?_) fun h=>?_
   · refine sim_skip<|zk<|zs<|sim_block<|zs<|sim_regionG<|yG 8<|zm<|zm<|yv h fun _ w h=>yv h fun _ w h=>yv h fun _ w h=>yx h fun _ w h=>yb h fun _ w h=>zm ?_
     refine zn<|yg1 8 7 false [44,45,46,47,48,49,50,51] 51 h (fun _ T hT h=>?_) fun σ w h=>?_
     · refine zm<|zm<|yv h fun _ w h=>yv h fun _ w h=>yv h fun _ w h=>yv h fun _ w h=>yx h fun _ w h=>yb h fun _ w h=>zn ?_
       exact zt hT h
     refine yG 1<|yp h fun _ h=>zn<|sim_end<|zk<|yC h (fun h=>?_) fun h=>?_
     · refine zs<|zr<|zm<|zn<|zk<|sim_ret<|sim_block_ret<|sim_then_ret<|sim_then_ret<|sim_block_ret<|sim_block_ret<|sim_then_ret<|sim_then_ret<|sim_block_ret<|sim_then_ret ?_
       exact body_ret1 rfl rfl h
     exact sim_skip<|sim_block_normal<|zk<|zr<|zm<|yb h fun _ w h=>zm<|zn<|zk<|⟨rfl,h⟩
   exact sim_exit<|sim_then_exit<|sim_then_exit<|sim_block_hit<|sim_block_normal<|zk<|zr<|zm<|yb h fun _ w h=>zm<|zn<|zk<|⟨rfl,h⟩
 refine sim_exit<|sim_then_exit<|sim_then_exit<|sim_block_hit<|zk<|zs<|zr<|yv h fun _ w h=>yv h fun _ w h=>yx h fun _ w h=>yb h fun _ w h=>zm<|zn<|zk<|sim_ret ?_
 exact body_ret1 rfl rfl h
def n9c1 (t35 t45 t48:Value) (next1:KV) (R:RT) (w:World):Prop :=
 opV Pg (Op.unary .not t48) (panK R) w fun t49 w =>
 joinK (fun (t52:Value) (w:World) =>
 pickK t49 (.bool true) t52 fun t53 =>
 condP t53 (
 R (.returned (.bool false)) w) (
 B0 .add 3 true t35 (.int .i64 1) R w fun t54 w =>
 next1 t54 w)) fun K2 =>
 guardP t49 false (
 B0 .neq 31 true t45 (.int .i64 0) R w fun t52 w =>
 K2 t52 w) (
 K2 undef w)
def n9c2 (t35 t39 t43:Value) (next1:KV) (R:RT) (w:World):Prop :=
 opV Pg (Instr.extract t43 0) (panK R) w fun t44 w =>
 opV Pg (Instr.extract t43 1) (panK R) w fun t45 w =>
 C0 14 #[t44,t39] R w fun t48 w =>
 n9c1 t35 t45 t48 next1 R w
def n9c3 (t130 t160 t163:Value) (R:RT) (w:World):Prop :=
 pickK t160 t163 (.bool false) fun t164 =>
 joinK (fun (t167:Value) (w:World) =>
 pickK t164 t167 (.bool false) fun t168 =>
 R (.returned t168) w) fun K16 =>
 guardP t164 true (
 B0 .eql 31 true t130 (.int .i64 9) R w fun t167 w =>
 K16 t167 w) (
 K16 undef w)
def n9c4 (t125 t130 t156 t159:Value) (R:RT) (w:World):Prop :=
 pickK t156 t159 (.bool false) fun t160 =>
 joinK (fun (t163:Value) (w:World) =>
 n9c3 t130 t160 t163 R w) fun K15 =>
 guardP t160 true (
 B0 .eql 31 true t125 (.int .i64 0) R w fun t163 w =>
 K15 t163 w) (
 K15 undef w)
def n9c5 (t120 t125 t130 t152 t155:Value) (R:RT) (w:World):Prop :=
 pickK t152 t155 (.bool false) fun t156 =>
 joinK (fun (t159:Value) (w:World) =>
 n9c4 t125 t130 t156 t159 R w) fun K14 =>
 guardP t156 true (
 B0 .eql 31 true t120 (.int .i64 0) R w fun t159 w =>
 K14 t159 w) (
 K14 undef w)
def n9c6 (t115 t120 t125 t130 t148 t151:Value) (R:RT) (w:World):Prop :=
 pickK t148 t151 (.bool false) fun t152 =>
 joinK (fun (t155:Value) (w:World) =>
 n9c5 t120 t125 t130 t152 t155 R w) fun K13 =>
 guardP t152 true (
 B0 .eql 31 true t115 (.int .i64 0) R w fun t155 w =>
 K13 t155 w) (
 K13 undef w)
def n9c7 (t110 t115 t120 t125 t130 t143 t147:Value) (R:RT) (w:World):Prop :=
 pickK t143 t147 (.bool false) fun t148 =>
 joinK (fun (t151:Value) (w:World) =>
 n9c6 t115 t120 t125 t130 t148 t151 R w) fun K12 =>
 guardP t148 true (
 B0 .eql 31 true t110 (.int .i64 0) R w fun t151 w =>
 K12 t151 w) (
 K12 undef w)
def n9c8 (t110 t115 t120 t124 t125 t130 t138 t142:Value) (R:RT) (w:World):Prop :=
 pickK t138 t142 (.bool false) fun t143 =>
 joinK (fun (t147:Value) (w:World) =>
 n9c7 t110 t115 t120 t125 t130 t143 t147 R w) fun K11 =>
 guardP t143 true (
 opV Pg (Instr.buildSlice 30 2 #[(0,(.int .i64 2)),(1,(.int .i64 1))]) (panK R) w fun t146 w =>
 C0 14 #[t124,t146] R w fun t147 w =>
 K11 t147 w) (
 K11 undef w)
def n9c9 (t110 t115 t119 t120 t124 t125 t130 t133 t137:Value) (R:RT) (w:World):Prop :=
 pickK t133 t137 (.bool false) fun t138 =>
 joinK (fun (t142:Value) (w:World) =>
 n9c8 t110 t115 t120 t124 t125 t130 t138 t142 R w) fun K10 =>
 guardP t138 true (
 opV Pg (Instr.buildSlice 30 2 #[(0,(.int .i64 2)),(1,(.int .i64 0))]) (panK R) w fun t141 w =>
 C0 14 #[t119,t141] R w fun t142 w =>
 K10 t142 w) (
 K10 undef w)
def n9c10 (t110 t114 t115 t119 t120 t124 t125 t130 t133:Value) (R:RT) (w:World):Prop :=
 joinK (fun (t137:Value) (w:World) =>
 n9c9 t110 t115 t119 t120 t124 t125 t130 t133 t137 R w) fun K9 =>
 guardP t133 true (
 opV Pg (Instr.buildSlice 30 1 #[(0,(.int .i64 3))]) (panK R) w fun t136 w =>
 C0 14 #[t114,t136] R w fun t137 w =>
 K9 t137 w) (
 K9 undef w)
def n9c11 (t109 t110 t114 t115 t119 t120 t124 t125 t128:Value) (R:RT) (w:World):Prop :=
 opV Pg (Instr.extract t128 0) (panK R) w fun t129 w =>
 opV Pg (Instr.extract t128 1) (panK R) w fun t130 w =>
 opV Pg (Instr.buildSlice 30 3 #[(0,(.int .i64 0)),(1,(.int .i64 1)),(2,(.int .i64 2))]) (panK R) w fun t132 w =>
 C0 14 #[t109,t132] R w fun t133 w =>
 n9c10 t110 t114 t115 t119 t120 t124 t125 t130 t133 R w
def n9c12 (t1 t109 t110 t114 t115 t119 t120 t123:Value) (R:RT) (w:World):Prop :=
 opV Pg (Instr.extract t123 0) (panK R) w fun t124 w =>
 opV Pg (Instr.extract t123 1) (panK R) w fun t125 w =>
 L0 28 t1 R w fun t127 w =>
 C0 24 #[t127,(.int .i64 3)] R w fun t128 w =>
 n9c11 t109 t110 t114 t115 t119 t120 t124 t125 t128 R w
def n9c13 (t1 t109 t110 t114 t115 t118:Value) (R:RT) (w:World):Prop :=
 opV Pg (Instr.extract t118 0) (panK R) w fun t119 w =>
 opV Pg (Instr.extract t118 1) (panK R) w fun t120 w =>
 L0 28 t1 R w fun t122 w =>
 C0 24 #[t122,(.int .i64 1)] R w fun t123 w =>
 n9c12 t1 t109 t110 t114 t115 t119 t120 t123 R w
def n9c14 (t1 t109 t110 t113:Value) (R:RT) (w:World):Prop :=
 opV Pg (Instr.extract t113 0) (panK R) w fun t114 w =>
 opV Pg (Instr.extract t113 1) (panK R) w fun t115 w =>
 L0 28 t1 R w fun t117 w =>
 C0 24 #[t117,(.int .i64 0)] R w fun t118 w =>
 n9c13 t1 t109 t110 t114 t115 t118 R w
def n9c15 (t1 t108:Value) (R:RT) (w:World):Prop :=
 opV Pg (Instr.extract t108 0) (panK R) w fun t109 w =>
 opV Pg (Instr.extract t108 1) (panK R) w fun t110 w =>
 L0 28 t1 R w fun t112 w =>
 C0 21 #[t112] R w fun t113 w =>
 n9c14 t1 t109 t110 t113 R w
def n9c16 (t1 t96 t104:Value) (R:RT) (w:World):Prop :=
 pickK t96 (.bool true) t104 fun t105 =>
 condP t105 (
 R (.returned (.bool false)) w) (
 L0 28 t1 R w fun t107 w =>
 C0 20 #[t107] R w fun t108 w =>
 n9c15 t1 t108 R w)
def n9c17 (t1:Value) (K8:KV) (R:RT) (w:World):Prop :=
 F0 28 t1 1 R w fun t98 w =>
 L0 26 t98 R w fun t99 w =>
 opV Pg (Instr.indexAt 26 t99 (.int .i64 0)) (panK R) w fun t100 w =>
 L0 24 t100 R w fun t101 w =>
 opV Pg (Instr.buildSlice 30 1 #[(0,(.int .i64 0))]) (panK R) w fun t102 w =>
 C0 18 #[t101,(.int .i64 9),t102] R w fun t103 w =>
 opV Pg (Op.unary .not t103) (panK R) w fun t104 w =>
 K8 t104 w
def n9c18 (t1 t91 t95:Value) (R:RT) (w:World):Prop :=
 pickK t91 (.bool true) t95 fun t96 =>
 joinK (fun (t104:Value) (w:World) =>
 n9c16 t1 t96 t104 R w) fun K8 =>
 guardP t96 false (
 n9c17 t1 K8 R w) (
 K8 undef w)
def n9c19 (t1 t2 t87 t90:Value) (R:RT) (w:World):Prop :=
 pickK t87 (.bool true) t90 fun t91 =>
 joinK (fun (t95:Value) (w:World) =>
 n9c18 t1 t91 t95 R w) fun K7 =>
 guardP t91 false (
 L0 24 t2 R w fun t93 w =>
 C0 18 #[t93,(.int .i64 9),(Value.slice none 0 0)] R w fun t94 w =>
 opV Pg (Op.unary .not t94) (panK R) w fun t95 w =>
 K7 t95 w) (
 K7 undef w)
def n9c20 (t1 t2 t69 t83 t86:Value) (R:RT) (w:World):Prop :=
 pickK t83 (.bool true) t86 fun t87 =>
 joinK (fun (t90:Value) (w:World) =>
 n9c19 t1 t2 t87 t90 R w) fun K6 =>
 guardP t87 false (
 B0 .neq 31 true t69 (.int .i64 0) R w fun t90 w =>
 K6 t90 w) (
 K6 undef w)
def n9c21 (t1 t2 t64 t69 t77 t82:Value) (R:RT) (w:World):Prop :=
 pickK t77 (.bool true) t82 fun t83 =>
 joinK (fun (t86:Value) (w:World) =>
 n9c20 t1 t2 t69 t83 t86 R w) fun K5 =>
 guardP t83 false (
 B0 .neq 31 true t64 (.int .i64 0) R w fun t86 w =>
 K5 t86 w) (
 K5 undef w)
def n9c22 (t1 t2 t64 t68 t69 t71 t76:Value) (R:RT) (w:World):Prop :=
 pickK t71 (.bool true) t76 fun t77 =>
 joinK (fun (t82:Value) (w:World) =>
 n9c21 t1 t2 t64 t69 t77 t82 R w) fun K4 =>
 guardP t77 false (
 opV Pg (Instr.buildSlice 30 1 #[(0,(.int .i64 4))]) (panK R) w fun t80 w =>
 C0 14 #[t68,t80] R w fun t81 w =>
 opV Pg (Op.unary .not t81) (panK R) w fun t82 w =>
 K4 t82 w) (
 K4 undef w)
def n9c23 (t1 t2 t59 t63 t64 t67:Value) (R:RT) (w:World):Prop :=
 opV Pg (Instr.extract t67 0) (panK R) w fun t68 w =>
 opV Pg (Instr.extract t67 1) (panK R) w fun t69 w =>
 B0 .neq 31 true t59 (.int .i64 3) R w fun t71 w =>
 joinK (fun (t76:Value) (w:World) =>
 n9c22 t1 t2 t64 t68 t69 t71 t76 R w) fun K3 =>
 guardP t71 false (
 opV Pg (Instr.buildSlice 30 1 #[(0,(.int .i64 2))]) (panK R) w fun t74 w =>
 C0 14 #[t63,t74] R w fun t75 w =>
 opV Pg (Op.unary .not t75) (panK R) w fun t76 w =>
 K3 t76 w) (
 K3 undef w)
def n9c24 (t1 t2 t59 t62:Value) (R:RT) (w:World):Prop :=
 opV Pg (Instr.extract t62 0) (panK R) w fun t63 w =>
 opV Pg (Instr.extract t62 1) (panK R) w fun t64 w =>
 L0 24 t2 R w fun t66 w =>
 C0 13 #[t66,(.int .i64 2)] R w fun t67 w =>
 n9c23 t1 t2 t59 t63 t64 t67 R w
def n9c25 (t1 t2 t57:Value) (R:RT) (w:World):Prop :=
 opV Pg (Instr.extract t57 0) (panK R) w fun t58 w =>
 opV Pg (Instr.extract t57 1) (panK R) w fun t59 w =>
 L0 24 t2 R w fun t61 w =>
 C0 13 #[t61,(.int .i64 0)] R w fun t62 w =>
 n9c24 t1 t2 t59 t62 R w
def n9c26 (t2 t33 t35:Value) (next1:KV) (R:RT) (w:World):Prop :=
 X0 78 t33 t35 R w fun t38 w =>
 L0 30 t38 R w fun t39 w =>
 L0 24 t2 R w fun t41 w =>
 C0 12 #[t41,t35] R w fun t43 w =>
 n9c2 t35 t39 t43 next1 R w
def n9c27 (t1 t2 t33 t34 t35:Value) (next1:KV) (R:RT) (w:World):Prop :=
 B0 .lss 3 false t35 t34 R w fun t36 w =>
 condP t36 (
 n9c26 t2 t33 t35 next1 R w) (
 L0 24 t2 R w fun t56 w =>
 C0 12 #[t56,(.int .i64 5)] R w fun t57 w =>
 n9c25 t1 t2 t57 R w)
def n9c28 (t23:Value) (R:RT) (w:World):Prop :=
 opV Pg (Instr.alloc 28 true (.tuple #[])) (panK R) w fun t1 w =>
 opU Pg (Instr.storeAt 28 t1 t23) (panK R) w fun w =>
 F0 28 t1 1 R w fun t24 w =>
 L0 26 t24 R w fun t25 w =>
 opV Pg (Instr.indexAt 26 t25 (.int .i64 2)) (panK R) w fun t26 w =>
 L0 24 t26 R w fun t27 w =>
 opV Pg (Instr.alloc 24 true (.tuple #[])) (panK R) w fun t2 w =>
 opU Pg (Instr.storeAt 24 t2 t27) (panK R) w fun w =>
 opV Pg (Instr.buildSlice 30 0 #[]) (panK R) w fun t28 w =>
 opV Pg (Instr.buildSlice 30 0 #[]) (panK R) w fun t29 w =>
 opV Pg (Instr.buildSlice 30 1 #[(0,(.int .i64 0))]) (panK R) w fun t30 w =>
 opV Pg (Instr.buildSlice 30 1 #[(0,(.int .i64 1))]) (panK R) w fun t31 w =>
 opV Pg (Instr.buildSlice 30 1 #[(0,(.int .i64 2))]) (panK R) w fun t32 w =>
 opV Pg (Instr.buildSlice 78 5 #[(0,t28),(1,t29),(2,t30),(3,t31),(4,t32)]) (panK R) w fun t33 w =>
 opV Pg (Builtin.len_ #[78] 3 #[t33]) (panK R) w fun t34 w =>
 loop1 (fun t35 w next1 =>
 n9c27 t1 t2 t33 t34 t35 next1 R w) (.int .i64 0) w
def n9 (R:RT) (w:World):Prop :=
 C0 38 #[] R w fun t23 w =>
 n9c28 t23 R w
set_option maxHeartbeats 40000000 in
theorem n9s {R:RT} {w:World} (h:n9 R w):Calls Pg 11 #[] w R:=by
 refine yD Tryz.func11 ?_
 refine zs<|zr<|zm<|zn<|zk<|zs<|zr<|yc h c38 fun _ w h=>yv h fun _ w h=>yu h fun w h=>zn<|zk<|zs<|zr<|yv h fun _ w h=>?_
 refine yv h fun _ w h=>yv h fun _ w h=>yv h fun _ w h=>yv h fun _ w h=>yu h fun w h=>zn<|zk<|zs<|zs<|zr<|yS h fun _ w h=>yS h fun _ w h=>yS h fun _ w h=>yS h fun _ w h=>yS h fun _ w h=>?_
 refine yS h fun _ w h=>yx h fun _ w h=>zm<|zn<|zk<|sim_block<|yl1 [0,3,4,5,6,35,36,37,38,39,40,41,42,43,44,45,46,47,48,49,50,51,52,53,54] 35 h fun σ w next h=>zs<|zr<|yb h fun _ w h=>zn<|zk<|zs<|yC h (fun h=>?_) fun h=>?_
 · refine sim_skip<|zk<|zs<|sim_block<|zs<|zr<|zm<|yv h fun _ w h=>yv h fun _ w h=>zm<|zm<|zn<|zk<|zs<|zr ?_
   refine yv h fun _ w h=>zm<|yc h c12 fun _ w h=>zm<|yv h fun _ w h=>yv h fun _ w h=>zm<|zm<|zn<|zk<|zs<|sim_regionG<|yG 5<|zm<|zm ?_
   refine yc h c14 fun _ w h=>yv h fun _ w h=>zm<|zn<|yg1 2 4 false [51,52] 52 h (fun _ T hT h=>?_) fun σ w h=>?_
   · refine zm<|yb h fun _ w h=>zn ?_
     exact zt hT h
   refine yG 1<|yp h fun _ h=>zn<|sim_end<|zk<|yC h (fun h=>zs<|zr<|zm<|zn<|zk<|sim_ret<|sim_block_ret<|sim_then_ret<|sim_then_ret<|sim_block_ret<|sim_then_ret<|body_ret1 rfl rfl h) fun h=>sim_skip<|sim_block_normal<|zk<|zr<|yb h fun _ w h=>zm<|zn<|zk ?_
   exact ⟨rfl,h⟩
 refine sim_exit<|sim_then_exit<|sim_then_exit<|sim_block_hit<|zk<|zs<|zr<|yv h fun _ w h=>yc h c12 fun _ w h=>zm<|yv h fun _ w h=>yv h fun _ w h=>zm<|zm<|zn ?_
 refine zk<|zs<|zr<|yv h fun _ w h=>yc h c13 fun _ w h=>zm<|yv h fun _ w h=>yv h fun _ w h=>zm<|zm<|zn<|zk<|zs<|zr<|yv h fun _ w h=>?_
 refine yc h c13 fun _ w h=>zm<|yv h fun _ w h=>yv h fun _ w h=>zm<|zm<|zn<|zk<|zs<|zs<|sim_regionG<|yG 3<|zm<|yb h fun _ w h=>zm ?_
 refine zn<|yg1 4 2 false [73,74,75,76] 76 h (fun _ T hT h=>?_) fun σ w h=>?_
 · refine zm<|yS h fun _ w h=>yc h c14 fun _ w h=>yv h fun _ w h=>zn ?_
   exact zt hT h
 refine yG 2<|yp h fun _ h=>zm<|zn<|yg1 4 8 false [79,80,81,82] 82 h (fun _ T hT h=>?_) fun σ w h=>?_
 · refine zm<|yS h fun _ w h=>yc h c14 fun _ w h=>yv h fun _ w h=>zn ?_
   exact zt hT h
 refine yG 2<|yp h fun _ h=>zm<|zn<|yg1 2 14 false [85,86] 86 h (fun _ T hT h=>?_) fun σ w h=>?_
 · refine zm<|yb h fun _ w h=>zn ?_
   exact zt hT h
 refine yG 2<|yp h fun _ h=>zm<|zn<|yg1 2 18 false [89,90] 90 h (fun _ T hT h=>?_) fun σ w h=>?_
 · refine zm<|yb h fun _ w h=>zn ?_
   exact zt hT h
 refine yG 2<|yp h fun _ h=>zm<|zn<|yg1 3 22 false [93,94,95] 95 h (fun _ T hT h=>?_) fun σ w h=>?_
 · refine yv h fun _ w h=>yc h c18 fun _ w h=>yv h fun _ w h=>zn ?_
   exact zt hT h
 refine yG 2<|yp h fun _ h=>zm<|zn<|yg1 7 27 false [98,99,100,101,102,103,104] 104 h (fun _ T hT h=>?_) fun σ w h=>?_
 · refine yv h fun _ w h=>yv h fun _ w h=>yv h fun _ w h=>yv h fun _ w h=>yS h fun _ w h=>yc h c18 fun _ w h=>yv h fun _ w h=>zn ?_
   exact zt hT h
 refine yG 1<|yp h fun _ h=>zn<|sim_end<|zk<|yC h (fun h=>zs<|zr<|zm<|zn<|zk<|sim_ret<|sim_then_ret<|body_ret1 rfl rfl h) fun h=>sim_skip<|zk<|zs<|zr<|yv h fun _ w h=>yc h c20 fun _ w h=>zm<|yv h fun _ w h=>?_
 refine yv h fun _ w h=>zm<|zm<|zn<|zk<|zs<|zr<|yv h fun _ w h=>yc h c21 fun _ w h=>zm<|yv h fun _ w h=>yv h fun _ w h=>zm<|zm<|zn ?_
 refine zk<|zs<|zr<|yv h fun _ w h=>yc h c24 fun _ w h=>zm<|yv h fun _ w h=>yv h fun _ w h=>zm<|zm<|zn<|zk<|zs<|zr<|yv h fun _ w h=>?_
 refine yc h c24 fun _ w h=>zm<|yv h fun _ w h=>yv h fun _ w h=>zm<|zm<|zn<|zk<|zs<|zr<|yv h fun _ w h=>yc h c24 fun _ w h=>zm<|yv h fun _ w h=>yv h fun _ w h=>?_
 refine zm<|zm<|zn<|zk<|zs<|sim_regionG<|yG 4<|zm<|yS h fun _ w h=>yc h c14 fun _ w h=>zm<|zn<|yg1 3 3 true [135,136,137] 137 h (fun _ T hT h=>?_) fun σ w h=>?_
 · refine zm<|yS h fun _ w h=>yc h c14 fun _ w h=>zn ?_
   exact zt hT h
 refine yG 2<|yp h fun _ h=>zm<|zn<|yg1 3 8 true [140,141,142] 142 h (fun _ T hT h=>?_) fun σ w h=>?_
 · refine zm<|yS h fun _ w h=>yc h c14 fun _ w h=>zn ?_
   exact zt hT h
 refine yG 2<|yp h fun _ h=>zm<|zn<|yg1 3 13 true [145,146,147] 147 h (fun _ T hT h=>?_) fun σ w h=>?_
 · refine zm<|yS h fun _ w h=>yc h c14 fun _ w h=>zn ?_
   exact zt hT h
 refine yG 2<|yp h fun _ h=>zm<|zn<|yg1 2 18 true [150,151] 151 h (fun _ T hT h=>?_) fun σ w h=>?_
 · refine zm<|yb h fun _ w h=>zn ?_
   exact zt hT h
 refine yG 2<|yp h fun _ h=>zm<|zn<|yg1 2 22 true [154,155] 155 h (fun _ T hT h=>?_) fun σ w h=>?_
 · refine zm<|yb h fun _ w h=>zn ?_
   exact zt hT h
 refine yG 2<|yp h fun _ h=>zm<|zn<|yg1 2 26 true [158,159] 159 h (fun _ T hT h=>?_) fun σ w h=>?_
 · refine zm<|yb h fun _ w h=>zn ?_
   exact zt hT h
 refine yG 2<|yp h fun _ h=>zm<|zn<|yg1 2 30 true [162,163] 163 h (fun _ T hT h=>?_) fun σ w h=>?_
 · refine zm<|yb h fun _ w h=>zn ?_
   exact zt hT h
 refine yG 2<|yp h fun _ h=>zm<|zn<|yg1 2 34 true [166,167] 167 h (fun _ T hT h=>?_) fun σ w h=>?_
 · refine zm<|yb h fun _ w h=>zn ?_
   exact zt hT h
 exact yG 2<|yp h fun _ h=>zm<|zn<|sim_end<|zk<|sim_ret<|body_ret1 rfl rfl h
def n73c1 (t1 t2 t8:Value) (R:RT) (w:World):Prop :=
 opV Pg (Op.unary .not t8) (panK R) w fun t9 w =>
 condP t9 (
 R (.returned (.tuple #[(Value.slice none 0 0),(.int .i64 3)])) w) (
 L0 24 t2 R w fun t10 w =>
 C0 40 #[t10,t1] R w fun t12 w =>
 R (.returned (.tuple #[t12,(.int .i64 0)])) w)
def n73 (t0 t1:Value) (R:RT) (w:World):Prop :=
 opV Pg (Instr.box 24 t0) (panK R) w fun t2 w =>
 L0 24 t2 R w fun t6 w =>
 C0 39 #[t6,t1] R w fun t8 w =>
 n73c1 t1 t2 t8 R w
theorem n73s {t0 t1:Value} {R:RT} {w:World} (h:n73 t0 t1 R w):Calls Pg 12 #[t0,t1] w R:=by
 refine yD Tryz.func12 ?_
 refine zs<|zr<|yv h fun _ w h=>zm<|zm<|zn<|zk<|zs<|zs<|zr<|yv h fun _ w h=>zm<|yc h c39 fun _ w h=>yv h fun _ w h=>zn ?_
 refine zk<|yC h (fun h=>zs<|zr<|zm<|zm<|zn<|zk<|sim_ret<|sim_then_ret<|body_ret2 rfl rfl rfl h) fun h=>sim_skip<|zk<|zs<|zr<|yv h fun _ w h=>zm<|yc h c40 fun _ w h=>zm<|zm<|zn<|zk<|sim_ret ?_
 exact body_ret2 rfl rfl rfl h
def n71c1 (t2 t3:Value) (R:RT) (w:World):Prop :=
 F0 24 t2 1 R w fun t10 w =>
 L0 22 t10 R w fun t11 w =>
 opV Pg (Instr.makeFunc (.func 42) #[] #[t2,t3]) (panK R) w fun t12 w =>
 C0 41 #[t11,t12] R w fun t13 w =>
 R (.returned (.tuple #[t13,(.int .i64 0)])) w
def n71 (t0 t1:Value) (R:RT) (w:World):Prop :=
 opV Pg (Instr.box 24 t0) (panK R) w fun t2 w =>
 opV Pg (Instr.box 3 t1) (panK R) w fun t3 w =>
 L0 24 t2 R w fun t6 w =>
 L0 3 t3 R w fun t7 w =>
 C0 39 #[t6,t7] R w fun t8 w =>
 opV Pg (Op.unary .not t8) (panK R) w fun t9 w =>
 condP t9 (
 R (.returned (.tuple #[(Value.slice none 0 0),(.int .i64 3)])) w) (
 n71c1 t2 t3 R w)
theorem n71s {t0 t1:Value} {R:RT} {w:World} (h:n71 t0 t1 R w):Calls Pg 13 #[t0,t1] w R:=by
 refine yD Tryz.func13 ?_
 refine zs<|zr<|yv h fun _ w h=>yv h fun _ w h=>zm<|zm<|zn<|zk<|zs<|zs<|zr<|yv h fun _ w h=>yv h fun _ w h=>yc h c39 fun _ w h=>yv h fun _ w h=>?_
 refine zn<|zk<|yC h (fun h=>zs<|zr<|zm<|zm<|zn<|zk<|sim_ret<|sim_then_ret<|body_ret2 rfl rfl rfl h) fun h=>sim_skip<|zk<|zs<|zr<|yv h fun _ w h=>yv h fun _ w h=>yF h fun _ w h=>yc h c41 fun _ w h=>zm<|zm<|zn ?_
 exact zk<|sim_ret<|body_ret2 rfl rfl rfl h
open Go.RowKit (intOf Below)
def sumF (l:List MsgD):Nat:=(l.map fun m=>m.fields.length).sum
def okF (f:FieldD):Prop:=f.cases.length≤50∧f.terms.length≤10
def fitsP (d:DefD):Prop:=d.msgs.length≤70∧sumF d.msgs≤400∧∀ m∈d.msgs,∀ f∈m.fields,okF f
theorem sumF_take {l:List MsgD} {k:Nat} {x:MsgD} (hx:l[k]?=some x):sumF (l.take (k+1))=sumF (l.take k)+x.fields.length:=by
 rw [take_snoc hx];simp [sumF]
theorem le_sumF {l:List MsgD} {m:MsgD} (h:m∈l):m.fields.length≤sumF l:=by
 unfold sumF
 induction l with
 | nil=>cases h
 | cons a l ih =>
  rcases List.mem_cons.1 h with rfl | h
  · simp
  · have:=ih h;simp at this ⊢;omega
theorem forall_take {α:Type} {p:α→Prop} {l:List α} {k:Nat} {x:α} (h:∀ y∈l.take k,p y) (hx:l[k]?=some x) (hp:p x):∀ y∈l.take (k+1),p y:=by
 rw [take_snoc hx]
 intro y hy
 rcases List.mem_append.1 hy with hy | hy
 · exact h y hy
 · simp only [List.mem_singleton] at hy;subst hy;exact hp
theorem fits_ret (w0:World) (v:Value) (d:DefD) (hd:DefVal w0 v d) (hs:DefSm d):Ret Pg 10 #[v] w0 fun r w'=>∃ b,r = .bool b∧(b=true→fitsP d)∧Ext w0 w':=by
 obtain ⟨mv,rfl,hM⟩:=hd
 obtain ⟨A,c,rfl,hlc,hcm,hlm,hel⟩:=SliceOf.open hM
 refine n4s (R:=retR _) ?_;unfold n4
 simp (disch:=try exact DI) only [↓PR,QR,simprocAttr]
 have hBW:=ElemAt.new (w:=w0) (defCells d (.slice A d.msgs.length c)) (28)
 have eW:Ext w0 (w0.alloc (Obj.cells (List.toArray (defCells d (.slice A d.msgs.length c))) (28))):=(Ext.refl _).alloc _
 generalize (w0.alloc (Obj.cells (List.toArray (defCells d (.slice A d.msgs.length c))) (28)))=W at hBW eW ⊢
 refine loop2_intro (fun a0 a1 w=>∃ (k:Nat) , a0 = .int .i64 (sumF (d.msgs.take k):Nat)∧a1 = .int .i64 (k:Int)∧k≤d.msgs.length∧Ext W w∧sumF (d.msgs.take k)≤400∧∀ m∈d.msgs.take k,∀ f∈m.fields,okF f) (fun a0 a1 _=>d.msgs.length - (intOf a1).toNat) ⟨0,rfl,rfl,Nat.zero_le _,ee,⟨by simp [sumF],by simp⟩⟩ ?_
 rintro _ _ w ⟨k,rfl,rfl,hk,e,hI⟩
 have se:=e.size
 rcases drop_cases hk with ⟨x,hx,hd,hlt,hdec⟩ | ⟨hk,hd,hdec⟩
 · obtain ⟨h400,hok⟩:=hI
   obtain ⟨b,o,cs,rfl,hl,hA,fv,rfl,hF⟩:=hel k x hx
   obtain ⟨A2,c2,rfl,hlc2,hcm2,hlm2,hel2⟩:=SliceOf.open hF
   have hxm:=List.mem_of_getElem? hx
   have hsx:=hs.2 x hxm
   have hx1:=hsx.1
   have e':=eW.trans e
   unfold n4c5
   by_cases hk70:k≤70
   · have d1:decide ((k:Int)≤70)=true:=by simp;omega
     simp (disch:=try exact DI) only [↓PR,QR,simprocAttr,hBW.c3,hdec,d1]
     unfold n4c4
     have hwr:IntKind.i64.wrap ((sumF (d.msgs.take k):Int)+(x.fields.length:Int))=((sumF (d.msgs.take (k+1)):Nat):Int):=by
      rw [sumF_take hx,wrap_ok (by omega) (by omega)];omega
     by_cases hn:sumF (d.msgs.take (k+1))≤400
     · have d2:decide (((sumF (d.msgs.take (k+1)):Nat):Int) > 400)=false:=by simp;omega
       simp (disch:=try exact DI) only [↓PR,QR,simprocAttr,hBW.c3,(hA.c2 e').1,(hA.c2 e').2,hwr,d2]
       rw [hwr]
       refine loop1_intro (fun a0 wb=>∃ (kb:Nat) , a0 = .int .i64 (kb:Int)∧kb≤x.fields.length∧Ext w wb∧∀ f∈x.fields.take kb,okF f) (fun a0 _=>x.fields.length - (intOf a0).toNat) ⟨0,rfl,Nat.zero_le _,ee,by simp⟩ ?_
       rintro _ wb ⟨kb,rfl,hkb,eb,hIb⟩
       have seb:=eb.size
       rcases drop_cases hkb with ⟨xb,hxb,hdb,hltb,hdecb⟩ | ⟨hkb,hdb,hdecb⟩
       · obtain ⟨b2,o2,cs2,rfl,hl2,hA2,hE2⟩:=hel2 kb xb hxb
         obtain ⟨tv,cv,rfl,hT,hC,ht1,hc1⟩:=hE2.op
         obtain ⟨A3,c3,rfl,hlc3,hcm3,hlm3,hel3⟩:=SliceOf.open hC
         obtain ⟨A4,c4,rfl,hlc4,hcm4,hlm4,hel4⟩:=SliceOf.open hT
         have eb':=e'.trans eb
         unfold n4c2
         simp (disch:=try exact DI) only [↓PR,QR,simprocAttr,hdecb]
         unfold n4c1
         have hcell:=hA2.c15 eb'
         by_cases hc50:xb.cases.length≤50
         · have d3:decide ((xb.cases.length:Int) > 50)=false:=by simp;omega
           by_cases ht10:xb.terms.length≤10
           · have d4:decide ((xb.terms.length:Int) > 10)=false:=by simp;omega
             simp (disch:=try exact DI) only [↓PR,QR,simprocAttr,hcell,d3,d4]
             exact ⟨⟨kb+1,rfl,by omega,ee,forall_take hIb hxb ⟨hc50,ht10⟩⟩,meas_lt (kd := .i64) hltb⟩
           · have d4:decide ((xb.terms.length:Int) > 10)=true:=by simp;omega
             simp (disch:=try exact DI) only [↓PR,QR,simprocAttr,hcell,d3,d4]
             exact ⟨false,rfl,by simp,ee⟩
         · have d3:decide ((xb.cases.length:Int) > 50)=true:=by simp;omega
           simp (disch:=try exact DI) only [↓PR,QR,simprocAttr,hcell,d3]
           exact ⟨false,rfl,by simp,ee⟩
       · subst hkb
         rw [List.take_length] at hIb
         unfold n4c2
         simp (disch:=try exact DI) only [↓PR,QR,simprocAttr,hdecb]
         exact ⟨⟨k+1,rfl,rfl,by omega,ee,⟨hn,forall_take hok hx hIb⟩⟩,meas_lt (kd := .i64) hlt⟩
     · have d2:decide (((sumF (d.msgs.take (k+1)):Nat):Int) > 400)=true:=by simp;omega
       simp (disch:=try exact DI) only [↓PR,QR,simprocAttr,hBW.c3,(hA.c2 e').1,(hA.c2 e').2,hwr,d2]
       exact ⟨false,rfl,by simp,ee⟩
   · have d1:decide ((k:Int)≤70)=false:=by simp;omega
     have d2:decide ((d.msgs.length:Int)≤70)=false:=by simp;omega
     simp (disch:=try exact DI) only [↓PR,QR,simprocAttr,hBW.c3,hdec,d1,n4c3,d2]
     exact ⟨false,rfl,by simp,ee⟩
 · subst hk
   obtain ⟨h400,hok⟩:=hI
   rw [List.take_length] at h400 hok
   unfold n4c5
   simp (disch:=try exact DI) only [↓PR,QR,simprocAttr,hBW.c3,hdec,n4c3]
   exact ⟨_,rfl,fun hb=>⟨by have:=of_decide_eq_true hb;omega,h400,hok⟩,ee⟩
theorem refsF_len {f:FieldD} (h:okF f):(refsF f).length≤50:=by
 unfold refsF
 split
 · simp
 · split
   · simpa using h.1
   · simp
theorem allRefs_len:∀ {l:List FieldD},(∀ f∈l,okF f)→(allRefs l).length≤l.length*50
 | [],_=>by simp [allRefs]
 | f::l,h=>by
  have h1:=refsF_len (h f (List.mem_cons_self ..))
  have h2:=allRefs_len (l:=l) (fun g hg=>h g (List.mem_cons_of_mem _ hg))
  unfold allRefs at *
  rw [List.flatMap_cons,List.length_append,List.length_cons]
  omega
theorem fits_calm {d:DefD} (h:fitsP d):calm d:=fun m hm=>by
 have h1:=le_sumF hm
 have h2:=h.2.1
 have h3:=allRefs_len (h.2.2 m hm)
 exact ⟨by omega,fun f hf=>by have:=(h.2.2 m hm f hf).2;omega⟩
theorem fits_tame {d:DefD} (h:fitsP d):tame d:=⟨by have:=h.1;omega,fun m hm=>⟨by have:=le_sumF hm;have:=h.2.1;omega,fun f hf=>⟨by have:=(h.2.2 m hm f hf).2;omega,by have:=(h.2.2 m hm f hf).1;omega⟩⟩⟩
def n10c1 (t0 t1 t5:Value) (C2:World→Prop) (next1:KV) (R:RT) (w:World):Prop :=
 qV Pg C2 (Instr.indexAt 30 t0 t5) fun t19 =>
 qV Pg C2 (Instr.loadAt 3 t19) fun t20 =>
 qV Pg C2 (Instr.indexAt 30 t1 t5) fun t23 =>
 qV Pg C2 (Instr.loadAt 3 t23) fun t24 =>
 qV Pg C2 (binS .neq 3 false t20 t24) fun t25 =>
 condP t25 (
 R (.returned (.bool false)) w) (
 B0 .add 3 true t5 (.int .i64 1) R w fun t16 w =>
 next1 t16 w)
def n10c2 (t0 t1 t5:Value) (next1:KV) (R:RT) (w:World):Prop :=
 opV Pg (Builtin.len_ #[30] 3 #[t0]) (panK R) w fun t13 w =>
 B0 .lss 3 false t5 t13 R w fun t14 w =>
 condP t14 (
 drawK w fun C2 w =>
 n10c1 t0 t1 t5 C2 next1 R w) (
 R (.returned (.bool true)) w)
def n10 (t0 t1:Value) (R:RT) (w:World):Prop :=
 opV Pg (Builtin.len_ #[30] 3 #[t0]) (panK R) w fun t7 w =>
 opV Pg (Builtin.len_ #[30] 3 #[t1]) (panK R) w fun t9 w =>
 B0 .neq 3 false t7 t9 R w fun t10 w =>
 condP t10 (
 R (.returned (.bool false)) w) (
 loop1 (fun t5 w next1 =>
 n10c2 t0 t1 t5 next1 R w) (.int .i64 0) w)
theorem n10s {t0 t1:Value} {R:RT} {w:World} (h:n10 t0 t1 R w):Calls Pg 14 #[t0,t1] w R:=by
 refine yD Tryz.func14 ?_
 refine zs<|zr<|zm<|zn<|zk<|zs<|zs<|zr<|zm<|yx h fun _ w h=>zm<|yx h fun _ w h=>yb h fun _ w h=>zn<|zk ?_
 refine yC h (fun h=>zs<|zr<|zm<|zn<|zk<|sim_ret<|sim_then_ret<|body_ret1 rfl rfl h) fun h=>sim_skip<|zk<|zs<|zs<|zr<|zm<|zn<|zk<|sim_block<|yl1 [4,5,11,12,13,14,15,16,17,18,19,20,21,22,23,24,25] 5 h fun σ w next h=>zs<|zs<|zr ?_
 refine zm<|zm<|yx h fun _ w h=>yb h fun _ w h=>zn<|zk<|yC h (fun h=>?_) fun h=>?_
 · refine sim_skip<|zk<|zs<|sim_block<|zs<|yh [17,18,19,20,21,22,23,24,25] h fun C hC h=>yw 0 hC ?_
   refine yw 1 hC ?_
   refine ye 2 hC h fun _ h=>?_
   refine ye 3 hC h fun _ h=>?_
   refine yw 4 hC ?_
   refine yw 5 hC ?_
   refine ye 6 hC h fun _ h=>?_
   refine ye 7 hC h fun _ h=>?_
   refine ye 8 hC h fun _ h=>?_
   exact yz<|zk<|yC h (fun h=>zs<|zr<|zm<|zn<|zk<|sim_ret<|sim_block_ret<|sim_then_ret<|sim_then_ret<|sim_block_ret<|sim_then_ret<|body_ret1 rfl rfl h) fun h=>sim_skip<|sim_block_normal<|zk<|zr<|zm<|yb h fun _ w h=>zm<|zn<|zk<|⟨rfl,h⟩
 exact sim_exit<|sim_then_exit<|sim_then_exit<|sim_block_hit<|zk<|zs<|zr<|zm<|zn<|zk<|sim_ret<|body_ret1 rfl rfl h
theorem same_ret (w0:World) (v u:Value) (l m:List Int) (hl:SliceOf w0 1 EInt v l) (hm:SliceOf w0 1 EInt u m) :
 Ret Pg 14 #[v,u] w0 fun r w'=>r = .bool (decide (l=m))∧Ext w0 w':=by
 obtain ⟨A,c,rfl,hlc,hcm,hlm,hel⟩:=SliceOf.open hl
 obtain ⟨A',c',rfl,hlc',hcm',hlm',hel'⟩:=SliceOf.open hm
 refine n10s (R:=retR _) ?_;unfold n10
 simp (disch:=try exact DI) only [↓PR,QR,simprocAttr]
 by_cases hlen:l.length=m.length
 · have hne:((l.length:Int) != (m.length:Int))=false:=by simp [hlen]
   simp (disch:=try exact DI) only [↓PR,QR,simprocAttr,hne]
   refine loop1_intro (fun a0 w=>∃ (k:Nat) , a0 = .int .i64 (k:Int)∧k≤l.length∧Ext w0 w∧l.take k=m.take k) (fun a0 _=>l.length - (intOf a0).toNat) ⟨0,rfl,Nat.zero_le _,ee,rfl⟩ ?_
   rintro _ w ⟨k,rfl,hk,e,hI⟩
   have se:=e.size
   rcases drop_cases hk with ⟨x,hx,hd,hlt,hdec⟩ | ⟨hk,hd,hdec⟩
   · obtain ⟨b,o,cs,rfl,_,hA,rfl⟩:=hel k x hx
     obtain ⟨y,hy⟩:=getElem?_lt (l:=m) (k:=k) (by omega)
     obtain ⟨b',o',cs',rfl,_,hA',rfl⟩:=hel' k y hy
     have hlt':k < m.length:=by omega
     have eD:Ext w0 w.drew:=e.wdrew
     simp (disch:=try exact DI) only [↓PR,QR,simprocAttr,↓n10c2,hdec]
     refine drawK_intro ?_
     unfold n10c1
     by_cases hxy:x=y
     · subst hxy
       have hxx:(x != x)=false:=by simp
       simp (disch:=try exact DI) only [↓PR,QR,simprocAttr,hA.c1,hA'.c1,hxx]
       exact ⟨⟨k+1,rfl,by omega,ee,by rw [List.take_add_one,List.take_add_one,hx,hy,hI]⟩,meas_lt (kd := .i64) hlt⟩
     · have hxx:(x != y)=true:=by simpa using hxy
       simp (disch:=try exact DI) only [↓PR,QR,simprocAttr,hA.c1,hA'.c1,hxx]
       have hne':¬ l=m:=by
        rintro rfl
        rw [hx] at hy
        injection hy with hy
        exact hxy hy
       exact ⟨by simp [hne'],eD⟩
   · subst hk
     simp (disch:=try exact DI) only [↓PR,QR,simprocAttr,↓n10c2,hdec]
     rw [List.take_length,hlen,List.take_length] at hI
     exact ⟨by simp [hI],e⟩
 · have hne:((l.length:Int) != (m.length:Int))=true:=by simp;omega
   simp (disch:=try exact DI) only [↓PR,QR,simprocAttr,hne]
   have hne':¬ l=m:=fun h=>hlen (by rw [h])
   exact ⟨by simp [hne'],Ext.refl _⟩
theorem slice_rows {α:Type} {w:World} {b n:Nat} {T:TypeId} {E:World→List Value→α→Prop} (css:List (List Value)) (l:List α) (hn0:0 < n) (h:w.heap[b]?=some (.cells css.flatten.toArray T (0,0))) (hn:∀ cs∈css,cs.length=n) (hl:l.length=css.length) (hb:l.length≤1048576) (hE:∀ (k:Nat) cs x,css[k]?=some cs→l[k]?=some x→E w cs x):SliceOf w n E (.slice (some ⟨b,0,none⟩) l.length l.length) l:=by
 refine ⟨_,_,rfl,Nat.le_refl _,by omega,fun _=>⟨b,0,rfl,fun k x hx=>?_⟩⟩
 obtain ⟨cs,hcs⟩:=getElem?_lt (l:=css) (k:=k) (by have:=(List.getElem?_eq_some_iff.1 hx).1;omega)
 refine ⟨cs,hn cs (List.mem_of_getElem? hcs),fun j u hu=>?_,hE k cs x hcs hx⟩
 rw [(cells_of_heap h).1]
 have hj:j < n:=by have:=(List.getElem?_eq_some_iff.1 hu).1;rw [hn cs (List.mem_of_getElem? hcs)] at this;exact this
 have key:∀ (css:List (List Value)) (k:Nat),(∀ cs∈css,cs.length=n)→css[k]?=some cs→css.flatten[k*n+j]?=some u:=by
  intro css
  induction css with
  | nil=>intro k _ h;cases h
  | cons c css ih =>
   intro k hn h
   have hc:=hn c (List.mem_cons_self ..)
   cases k with
   | zero =>
    injection h with h
    subst h
    rw [List.flatten_cons,Nat.zero_mul,Nat.zero_add,List.getElem?_append_left (by omega)]
    exact hu
   | succ k =>
    rw [List.flatten_cons,List.getElem?_append_right (by rw [hc,Nat.succ_mul];omega),hc,show (k+1)*n+j - n=k*n+j by rw [Nat.succ_mul];omega]
    exact ih k (fun cs hm=>hn cs (List.mem_cons_of_mem _ hm)) h
 have:=key css k hn hcs
 simpa using this
def zF:FieldD:={ name:=ByteArray.empty,kind:=0,bits:=0,little:=false,loose:=false,low:=0,high:=0,base:=0,terms:=[],of:=ByteArray.empty,tag:=ByteArray.empty,fr:=ByteArray.empty,cases:=[],check:=0,key:=0 }
def fN:FieldD:={ zF with name:=⟨#[110]⟩,kind:=1,bits:=8,high:=9 }
def fX:FieldD:={ zF with name:=⟨#[120]⟩,kind:=8,of:=⟨#[97]⟩ }
def fT:FieldD:={ zF with name:=⟨#[116]⟩,kind:=3,high:=9 }
def fL:FieldD:={ zF with name:=⟨#[108]⟩,kind:=7,of:=⟨#[98]⟩,terms:=[⟨⟨#[110]⟩,2⟩] }
def fS:FieldD:={ zF with name:=⟨#[115]⟩,kind:=9,tag:=⟨#[116]⟩,cases:=[⟨0,0,⟨#[97]⟩⟩,⟨1,1,⟨#[98]⟩⟩] }
def fK:FieldD:={ zF with name:=⟨#[107]⟩,kind:=11,check:=1,fr:=⟨#[108]⟩ }
def mA:MsgD:=⟨⟨#[97]⟩,[fN]⟩
def mB:MsgD:=⟨⟨#[98]⟩,[fX]⟩
def mC:MsgD:=⟨⟨#[99]⟩,[fN,fT,fL,fS,fK]⟩
def mZ:MsgD:=⟨⟨#[122]⟩,[fN]⟩
def gvD:DefD:=⟨⟨#[100]⟩,[mA,mB,mC,mZ],⟨#[99]⟩⟩
theorem given_ret (w0:World):Ret Pg 38 #[] w0 fun r w'=>(∃ b fa fb fc fz,r = .agg #[.string ⟨#[100]⟩,.slice (some ⟨b,0,none⟩) 4 4,.string ⟨#[99]⟩]∧w'.heap[b]?=some (.cells #[.string ⟨#[97]⟩,fa,.string ⟨#[98]⟩,fb,.string ⟨#[99]⟩,fc,.string ⟨#[122]⟩,fz] 24 (0,0))∧FieldsOf w' fa [fN]∧FieldsOf w' fb [fX]∧FieldsOf w' fc mC.fields∧FieldsOf w' fz [fN])∧Ext w0 w':=by
 refine n8s (R:=retR _) ?_;unfold n8
 simp (disch:=try exact DI) only [↓PR,QR,simprocAttr]
 generalize hn:w0.heap.size=n
 refine ⟨⟨n+8,.slice (some ⟨n+2,0,none⟩) 1 1,.slice (some ⟨n+3,0,none⟩) 1 1,.slice (some ⟨n+6,0,none⟩) 5 5,.slice (some ⟨n+7,0,none⟩) 1 1,rfl,?_,?_,?_,?_,?_⟩,ee⟩
 · subst hn
   simp (disch:=try exact DI) only [↓PR,QR,simprocAttr]
 · subst hn
   exact slice_rows [fieldCells fN (.slice none 0 0) (.slice none 0 0)] [fN] (by decide) (by simp (disch:=try exact DI) only [↓PR,QR,simprocAttr];rfl) (by simp [fieldCells]) rfl (by decide) fun k cs x h1 h2=>by
    match k with
    | 0=>injection h1 with h1;injection h2 with h2;subst h1 h2;exact ⟨_,_,rfl,SliceOf.nil _ _ _,SliceOf.nil _ _ _⟩
 · subst hn
   exact slice_rows [fieldCells fX (.slice none 0 0) (.slice none 0 0)] [fX] (by decide) (by simp (disch:=try exact DI) only [↓PR,QR,simprocAttr];rfl) (by simp [fieldCells]) rfl (by decide) fun k cs x h1 h2=>by
    match k with
    | 0=>injection h1 with h1;injection h2 with h2;subst h1 h2;exact ⟨_,_,rfl,SliceOf.nil _ _ _,SliceOf.nil _ _ _⟩
 · subst hn
   refine slice_rows [fieldCells fN (.slice none 0 0) (.slice none 0 0),fieldCells fT (.slice none 0 0) (.slice none 0 0),fieldCells fL (.slice (some ⟨w0.heap.size+4,0,none⟩) 1 1) (.slice none 0 0),fieldCells fS (.slice none 0 0) (.slice (some ⟨w0.heap.size+5,0,none⟩) 2 2),fieldCells fK (.slice none 0 0) (.slice none 0 0)] mC.fields (by decide) (by simp (disch:=try exact DI) only [↓PR,QR,simprocAttr];rfl) (by simp [fieldCells]) rfl (by decide) fun k cs x h1 h2=>?_
   match k with
   | 0=>injection h1 with h1;injection h2 with h2;subst h1 h2;exact ⟨_,_,rfl,SliceOf.nil _ _ _,SliceOf.nil _ _ _⟩
   | 1=>injection h1 with h1;injection h2 with h2;subst h1 h2;exact ⟨_,_,rfl,SliceOf.nil _ _ _,SliceOf.nil _ _ _⟩
   | 2 =>
    injection h1 with h1;injection h2 with h2;subst h1 h2
    refine ⟨_,_,rfl,?_,SliceOf.nil _ _ _⟩
    exact slice_rows (T:=62) [termCells ⟨⟨#[110]⟩,2⟩] fL.terms (by decide) (by simp (disch:=try exact DI) only [↓PR,QR,simprocAttr];rfl) (by simp [termCells]) rfl (by decide) fun k cs x h1 h2=>by
     match k with
     | 0=>injection h1 with h1;injection h2 with h2;subst h1 h2;rfl
   | 3 =>
    injection h1 with h1;injection h2 with h2;subst h1 h2
    refine ⟨_,_,rfl,SliceOf.nil _ _ _,?_⟩
    exact slice_rows (T:=60) [caseCells ⟨0,0,⟨#[97]⟩⟩,caseCells ⟨1,1,⟨#[98]⟩⟩] fS.cases (by decide) (by simp (disch:=try exact DI) only [↓PR,QR,simprocAttr];rfl) (by simp [caseCells]) rfl (by decide) fun k cs x h1 h2=>by
     match k with
     | 0=>injection h1 with h1;injection h2 with h2;subst h1 h2;rfl
     | 1=>injection h1 with h1;injection h2 with h2;subst h1 h2;rfl
   | 4=>injection h1 with h1;injection h2 with h2;subst h1 h2;exact ⟨_,_,rfl,SliceOf.nil _ _ _,SliceOf.nil _ _ _⟩
 · subst hn
   exact slice_rows [fieldCells fN (.slice none 0 0) (.slice none 0 0)] [fN] (by decide) (by simp (disch:=try exact DI) only [↓PR,QR,simprocAttr];rfl) (by simp [fieldCells]) rfl (by decide) fun k cs x h1 h2=>by
    match k with
    | 0=>injection h1 with h1;injection h2 with h2;subst h1 h2;exact ⟨_,_,rfl,SliceOf.nil _ _ _,SliceOf.nil _ _ _⟩
def fewM (m:MsgD):Prop:=m.fields.length≤1048576∧∀ f∈m.fields,f.terms.length≤1048576
theorem used_ret (w0:World) (v:Value) (m:MsgD) (k:Nat) (hm:MsgVal w0 v m) (hk:k < m.fields.length) (hb:fewM m):Ret Pg 40 #[v,.int .i64 (k:Int)] w0 fun r w'=>RowI w' w0.heap.size r (usesP m.fields k)∧Ext w0 w':=by
 obtain ⟨fv,rfl,hF⟩:=hm
 obtain ⟨f,hf⟩:=getElem?_lt hk
 have hF0:=hF
 obtain ⟨b,o,c,rfl,_,hcm,_,_,hel⟩:=open1 hF hf
 obtain ⟨cs,_,hA,hE⟩:=hel k f hf
 obtain ⟨tv,cv,rfl,hT,hC,ht1,hc1⟩:=hE.op
 refine n79s (R:=retR _) ?_;unfold n79
 rw [op_boxA]
 have o2:=heap_new w0 (msgCells m (.slice (some ⟨b,o,none⟩) m.fields.length c)).toArray 24
 have eW:Ext w0 (w0.alloc (.cells (msgCells m (.slice (some ⟨b,o,none⟩) m.fields.length c)).toArray 24)):=ee
 generalize (w0.alloc (.cells (msgCells m (.slice (some ⟨b,o,none⟩) m.fields.length c)).toArray 24))=W at o2 eW ⊢
 generalize hp2:w0.heap.size=p2 at o2 ⊢
 simp (disch:=try exact DI) only [↓PR,QR,simprocAttr,(cells_of_heap o2).1,hA.c15 eW]
 have o5:=heap_new W (fieldCells f tv cv).toArray 48
 have e1:Ext W (W.alloc (.cells (fieldCells f tv cv).toArray 48)):=ee
 generalize (W.alloc (.cells (fieldCells f tv cv).toArray 48))=V at o5 e1 ⊢
 generalize W.heap.size=p5 at o5 ⊢
 have x2:=e1.obj o2
 have E1:=eW.trans e1
 refine drawK_intro ?_
 have eD:Ext V V.drew:=(Ext.refl V).wdrew
 have E2:=E1.trans eD
 have y2:=eD.obj x2
 have y5:=eD.obj o5
 unfold n79c6
 simp (disch:=try exact DI) only [↓PR,QR,simprocAttr,(cells_of_heap y5).1]
 refine callK_ret (uses_ret _) ?_
 rintro _ w3 ⟨r,L,cc,rfl,hr,hM,hL,e3⟩
 refine narrowK_KM e3 hM ?_
 haveI:ClassNe (KM V.drew r kindEnc L cc):=⟨⟨w3,e3,hM⟩⟩
 unfold n79c5
 simp only [drew_wdrew]
 rw [qV_lookupKM Tryz.underlying128 (KeyOK.int Tryz.underlying42) ty83 ⟨w3,e3,hM⟩]
 obtain ⟨hn,h4,h9,h11⟩:=hL
 have hb':=hb.2 f (List.mem_of_getElem? hf)
 subst hp2
 by_cases k4:f.kind=4∨f.kind=7∨f.kind=12
 · rw [h4 _ k4]
   simp (disch:=try exact DI) only [↓PR,QR,simprocAttr]
   exact used_tail hf hF0 hb' hT hC (E2.trans e3) c110 _ uses1_names (by unfold namesU;rw [if_pos k4]) (e3.obj y2) (e3.obj y5)
 by_cases k9:f.kind=9
 · rw [k9,h9]
   simp (disch:=try exact DI) only [↓PR,QR,simprocAttr]
   exact used_tail hf hF0 hb' hT hC (E2.trans e3) c111 _ uses2_names (by unfold namesU;rw [if_neg k4,if_pos k9]) (e3.obj y2) (e3.obj y5)
 by_cases k11:f.kind=11
 · rw [k11,h11]
   simp (disch:=try exact DI) only [↓PR,QR,simprocAttr]
   exact used_tail hf hF0 hb' hT hC (E2.trans e3) c112 _ uses3_names (by unfold namesU;rw [if_neg k4,if_neg k9,if_pos k11]) (e3.obj y2) (e3.obj y5)
 rw [hn _ (by omega)]
 simp (disch:=try exact DI) only [↓PR,QR,simprocAttr]
 rw [uses_nil hf (by unfold namesU;rw [if_neg k4,if_neg k9,if_neg k11])]
 exact ⟨OwnE.nil _ _ _ _ _,E2.trans e3⟩
theorem in_ret (w0:World) (v:Value) (m:MsgD) (k:Int) (hm:MsgVal w0 v m):Ret Pg 39 #[v,.int .i64 k] w0 fun r w'=>r = .bool (decide (0≤k∧k < m.fields.length))∧Ext w0 w':=by
 obtain ⟨fv,rfl,hF⟩:=hm
 obtain ⟨A,c,rfl,hlc,hcm,hlm,hel⟩:=SliceOf.open hF
 refine n76s (R:=retR _) ?_;unfold n76
 simp (disch:=try exact DI) only [↓PR,QR,simprocAttr]
 exact ⟨by rw [Bool.decide_and],ee⟩
def errU (m:MsgD) (k:Int):Int:=if 0≤k∧k < m.fields.length then 0 else 3
def usesE (m:MsgD) (k:Int):List Int:=if 0≤k∧k < m.fields.length then usesP m.fields k.toNat else []
def usersE (m:MsgD) (k:Int):List Int:=if 0≤k∧k < m.fields.length then usersP m.fields k.toNat else []
theorem Uses_ret (w0:World) (v:Value) (m:MsgD) (k:Int) (hm:MsgVal w0 v m) (hb:fewM m):Ret Pg 12 #[v,.int .i64 k] w0 fun r w'=>(∃ u,r = .tuple #[u,.int .i64 (errU m k)]∧RowI w' w0.heap.size u (usesE m k))∧Ext w0 w':=by
 obtain ⟨fv,rfl,hF⟩:=hm
 have hf1:=SliceOf.oneCell hF
 refine n73s (R:=retR _) ?_;unfold n73
 rw [op_boxA]
 have hBW:=ElemAt.new (w:=w0) (msgCells m fv) (24)
 have eW:Ext w0 (w0.alloc (Obj.cells (List.toArray (msgCells m fv)) (24))):=(Ext.refl _).alloc _
 generalize (w0.alloc (Obj.cells (List.toArray (msgCells m fv)) (24)))=W at hBW eW ⊢
 simp (disch:=try exact DI) only [↓PR,QR,simprocAttr,hBW.c2 (Ext.refl W)]
 refine zcr (in_ret _ _ m k ⟨_,rfl,FieldsOf.ext hF eW⟩) fun w1 e1=>?_
 unfold n73c1
 by_cases hk:0≤k∧k < m.fields.length
 · obtain ⟨j,rfl⟩:∃ j:Nat,k=j:=⟨k.toNat,by omega⟩
   rw [decide_eq_true hk,show errU m (j:Int)=0 from if_pos hk,show usesE m (j:Int)=usesP m.fields j from if_pos hk]
   simp (disch:=try exact DI) only [↓PR,QR,simprocAttr,hBW.c2 e1]
   refine callK_ret (used_ret _ _ m j ⟨_,rfl,FieldsOf.ext hF (eW.trans e1)⟩ (by omega) hb) ?_
   rintro r w2 ⟨hR,e2⟩
   have s:=(eW.trans e1).size
   exact ⟨_,rfl,⟨r,rfl,hR.base s⟩,eW.trans (e1.trans e2)⟩
 · rw [decide_eq_false hk,show errU m k=3 from if_neg hk,show usesE m k=[] from if_neg hk]
   simp (disch:=try exact DI) only [↓PR,QR,simprocAttr]
   exact ⟨⟨.slice none 0 0,rfl,OwnE.nil _ _ _ _ _⟩,eW.trans e1⟩
theorem Index_int_ret (w0:World) (v:Value) (l:List Int) (n:Int) (hs:SliceOf w0 1 EInt v l):Ret Pg 85 #[v,.int .i64 n] w0 fun r w'=>r = .int .i64 (idx (fun x=>decide (x=n)) l)∧Ext w0 w':=by
 obtain ⟨A,c,rfl,hlc,hcm,hlm,hel⟩:=SliceOf.open hs
 refine n121s (R:=retR _) ?_;unfold n121
 simp (disch:=try exact DI) only [↓PR,QR,simprocAttr]
 refine loop1_intro (fun a0 w=>∃ (k:Nat) , a0 = .int .i64 (k:Int)∧k≤l.length∧Ext w0 w∧∀ (j:Nat) (y:Int),j < k→l[j]?=some y→(fun x=>decide (x=n)) y=false) (fun a0 _=>l.length - (intOf a0).toNat) ⟨0,rfl,Nat.zero_le _,ee,fun j y hj=>absurd hj (Nat.not_lt_zero _)⟩ ?_
 rintro _ w ⟨k,rfl,hk,e,hI⟩
 have se:=e.size
 rcases drop_cases hk with ⟨x,hx,hd,hlt,hdec⟩ | ⟨hk,hd,hdec⟩
 · obtain ⟨b,o,cs,rfl,hl',hA,rfl⟩:=hel k x hx
   have hA':=hA.ext e
   by_cases hxn:n=x
   · have hd:(n == x)=true:=by simpa using hxn
     simp (disch:=try exact DI) only [↓PR,QR,simprocAttr,hdec,↓n121c1,hA'.c1 (Ext.refl _),hd]
     exact ⟨by rw [idx_here hx (by simp [hxn]) hI],e⟩
   · have hd:(n == x)=false:=by simpa using hxn
     simp (disch:=try exact DI) only [↓PR,QR,simprocAttr,hdec,↓n121c1,hA'.c1 (Ext.refl _),hd]
     exact ⟨⟨k+1,rfl,by omega,ee,before_succ hI hx (decide_eq_false (fun h=>hxn h.symm))⟩,meas_lt (kd := .i64) hlt⟩
 · subst hk
   simp (disch:=try exact DI) only [↓PR,QR,simprocAttr,hdec]
   exact ⟨by rw [idx_none fun j y hy=>hI j y (List.getElem?_eq_some_iff.1 hy).1 hy],e⟩
theorem any_contains (l:List Int) (n:Int):l.any (fun x=>decide (x=n))=l.contains n:=by
 rw [Bool.eq_iff_iff,List.any_eq_true,List.contains_iff_mem]
 constructor
 · rintro ⟨x,hx,h⟩
   rw [← of_decide_eq_true h];exact hx
 · exact fun h=>⟨n,h,by simp⟩
theorem Contains_int_ret (w0:World) (v:Value) (l:List Int) (n:Int) (hs:SliceOf w0 1 EInt v l):Ret Pg 43 #[v,.int .i64 n] w0 fun r w'=>r = .bool (l.contains n)∧Ext w0 w':=by
 refine n110s (R:=retR _) ?_;unfold n110
 refine zcr (Index_int_ret _ _ l n hs) fun w1 e1=>?_
 have h:=idx_neg (p:=fun x=>decide (x=n)) (l:=l)
 rw [any_contains] at h
 simp (disch:=try exact DI) only [↓PR,QR,simprocAttr,h]
 exact ⟨trivial,e1⟩
theorem Users1_ret {w:World} {m:MsgD} {fv:Value} {p2 p3:Nat} {k:Int} (i:Nat) (x:FieldD) (u:Value) (hi:m.fields[i]?=some x) (hF:FieldsOf w fv m.fields) (hb:fewM m) (o2:w.heap[p2]?=some (.cells (msgCells m fv).toArray 24 (0,0))) (o3:w.heap[p3]?=some (.cells #[.int .i64 k] 3 (0,0))) (hu:FieldVal w u x) :
 Ret Pg 42 #[.int .i64 (i:Int),u,.pointer (some ⟨p2,0,none⟩),.pointer (some ⟨p3,0,none⟩)] w fun r w'=>r = .bool ((usesP m.fields i).contains k)∧Ext w w':=by
 obtain ⟨tv,cv,rfl,hT,hC⟩:=hu
 have ht1:=SliceOf.oneCell hT
 have hc1:=SliceOf.oneCell hC
 have hf1:=SliceOf.oneCell hF
 refine n72s (R:=retR _) ?_;unfold n72
 rw [op_boxA]
 have hBW:=ElemAt.new (w:=w) (fieldCells x tv cv) (48)
 have eW:Ext w (w.alloc (Obj.cells (List.toArray (fieldCells x tv cv)) (48))):=(Ext.refl _).alloc _
 generalize (w.alloc (Obj.cells (List.toArray (fieldCells x tv cv)) (48)))=W at hBW eW ⊢
 refine drawK_intro ?_
 have eD:Ext W W.drew:=(Ext.refl W).wdrew
 have E:=eW.trans eD
 unfold n72c1
 simp (disch:=try exact DI) only [↓PR,QR,simprocAttr,(cells_of_heap (E.obj o2)).1,(cells_of_heap (E.obj o3)).1]
 refine callK_ret (used_ret _ _ m i ⟨_,rfl,FieldsOf.ext hF E⟩ (List.getElem?_eq_some_iff.1 hi).1 hb) ?_
 rintro r w1 ⟨hR,e1⟩
 refine ⟨e1,?_⟩
 refine zcr (Contains_int_ret _ _ _ _ hR.ints) fun w2 e2=>?_
 exact ⟨e1.trans e2,_,rfl,rfl,E.trans (e1.trans e2)⟩
theorem Users_ret (w0:World) (v:Value) (m:MsgD) (k:Int) (hm:MsgVal w0 v m) (hb:fewM m):Ret Pg 13 #[v,.int .i64 k] w0 fun r w'=>(∃ u,r = .tuple #[u,.int .i64 (errU m k)]∧RowI w' w0.heap.size u (usersE m k))∧Ext w0 w':=by
 obtain ⟨fv,rfl,hF⟩:=hm
 have hf1:=SliceOf.oneCell hF
 refine n71s (R:=retR _) ?_;unfold n71
 simp (disch:=try exact DI) only [↓PR,QR,simprocAttr]
 generalize hV:World.alloc (World.alloc w0 _) _=V
 have eV:Ext w0 V:=by rw [← hV];exact ee
 have o2:V.heap[w0.heap.size]?=some (.cells (msgCells m fv).toArray 24 (0,0)):=by rw [← hV];simp (disch:=try exact DI) only [↓PR,QR,simprocAttr]
 have o3:V.heap[w0.heap.size+1]?=some (.cells #[.int .i64 k] 3 (0,0)):=by rw [← hV];simp (disch:=try exact DI) only [↓PR,QR,simprocAttr]
 clear hV
 refine zcr (in_ret _ _ m k ⟨_,rfl,FieldsOf.ext hF eV⟩) fun w1 e1=>?_
 by_cases hk:0≤k∧k < m.fields.length
 · obtain ⟨j,rfl⟩:∃ j:Nat,k=j:=⟨k.toNat,by omega⟩
   rw [decide_eq_true hk,show errU m (j:Int)=0 from if_pos hk,show usersE m (j:Int)=usersP m.fields j from if_pos hk]
   simp (disch:=try exact DI) only [↓PR,QR,simprocAttr,↓n71c1,(cells_of_heap (e1.obj o2)).1]
   refine callK_ret (where_Field_ret _ _ m.fields _ _ (fun i=>(usesP m.fields i).contains (j:Int)) (FieldsOf.ext hF (eV.trans e1)) hb.1 c42 ?_) ?_
   · intro w i x u hx e hu
     exact Users1_ret i x u hx (FieldsOf.ext hF (eV.trans (e1.trans e))) hb ((e1.trans e).obj o2) ((e1.trans e).obj o3) hu
   rintro r w2 ⟨hR,e2⟩
   have s:=(eV.trans e1).size
   exact ⟨_,rfl,⟨r,rfl,hR.base (by omega)⟩,eV.trans (e1.trans e2)⟩
 · rw [decide_eq_false hk,show errU m k=3 from if_neg hk,show usersE m k=[] from if_neg hk]
   simp (disch:=try exact DI) only [↓PR,QR,simprocAttr]
   exact ⟨⟨.slice none 0 0,rfl,OwnE.nil _ _ _ _ _⟩,eV.trans e1⟩
theorem outs_marks {L:List (Option TypeId×Value)} {R:RT} {bs:List Nat}:∀ {w w0:World},bs.Nodup→(∀ b∈bs,MarkAt b w∧w0.heap.size≤b)→Ext w0 w →
 (∀ w',Ext w0 w'→(∀ (b:Nat) (o:Obj),(∀ d,o ≠ .deferred d)→w.heap[b]?=some o→w'.heap[b]?=some o)→outX Pg [] L R w')→outX Pg (bs.map Sw.mark) L R w:=by
 induction bs with
 | nil=>exact fun _ _ e h=>h _ e fun _ _ _ h=>h
 | cons b bs ih =>
  intro w w0 hn hm e h
  obtain ⟨hb,hn'⟩:=List.nodup_cons.1 hn
  have hmb:=hm b (List.mem_cons_self ..)
  refine outX_mark hmb.1 (ih (w0:=w0) hn' (fun c hc=>⟨?_,(hm c (List.mem_cons_of_mem _ hc)).2⟩) (e.putObj hmb.2 _) (fun w' e' h'=>h w' e' (fun c o ho hc=>h' c o ho ((World.putObj_heap_other ?_).trans hc))))
  · exact (World.putObj_heap_other (fun (e:c=b)=>hb (by rw [← e];exact hc))).trans (hm c (List.mem_cons_of_mem _ hc)).1
  · rintro rfl
    have:=hmb.1
    unfold MarkAt at this
    rw [hc] at this
    injection this with this
    exact ho _ this
theorem has_nd {T:TypeId} {cs:Array Value}:∀ d,Obj.cells cs T (0,0) ≠ .deferred d:=fun _ h=>by cases h
def IntsAt (w:World) (pb:Nat) (sv:Value) (l:List Int):Prop:=w.cell? ⟨pb,0,none⟩=some sv∧SliceOf w 1 EInt sv l
theorem IntsAt.ext {w w':World} {pb:Nat} {sv:Value} {l:List Int} (h:IntsAt w pb sv l) (e:Ext w w'):IntsAt w' pb sv l:=⟨e.cell h.1,h.2.ext keptInt e⟩
def intX (l:List Int) (k:Nat):Value:=match l[k]? with
 | some n => .int .i64 n
 | none=>undef
theorem Values_seq (pb:Nat) (sv:Value) (l:List Int):SeqIt Pg 86 #[.pointer (some ⟨pb,0,none⟩)] l.length (intX l) (fun w=>IntsAt w pb sv l):=by
 intro yv J Jx Jp w hFP hJe hJx hstep h0
 obtain ⟨hc,hT⟩:=hFP 0 w h0
 obtain ⟨A,c,rfl,hlc,hcm,hlm,hel⟩:=SliceOf.open hT
 refine n124s (t0:=yv) (t1 := .pointer (some ⟨pb,0,none⟩)) ?_
 unfold n124
 simp (disch:=try exact DI) only [↓PR,QR,simprocAttr,hc]
 refine loop1_intro (fun i w=>∃ k:Nat,i = .int .i64 k∧k≤l.length∧J k w) (fun i _=>l.length - (intOf i).toNat) ⟨0,rfl,by omega,h0⟩ ?_
 rintro _ w' ⟨k,rfl,hk,hJ⟩
 rcases drop_cases hk with ⟨x,hx,hd,hlt,hdec⟩ | ⟨hk,hd,hdec⟩
 · obtain ⟨hc',hT'⟩:=hFP k w' hJ
   obtain ⟨A',c',hv,_,hcm',_,hel'⟩:=SliceOf.open hT'
   injection hv with hv _ hv'
   subst hv hv'
   obtain ⟨b,o,cs,rfl,hl,hA,rfl⟩:=hel' k x hx
   have er:=Ext.refl w'
   have hs:=hstep k hlt w' hJ
   rw [show intX l k = .int .i64 x by unfold intX;rw [hx]] at hs
   simp (disch:=try exact DI) only [↓PR,QR,simprocAttr,↓n124c1,↓n124c2,hdec,hA.c1 er]
   refine callV_mono hs (fun ch w h=>h) ?_
   rintro v w3 (⟨rfl,h2⟩ | ⟨rfl,h2⟩)
   · simp (disch:=try exact DI) only [↓PR,QR,simprocAttr,↓n124c1,↓n124c2]
     exact ⟨⟨k+1,rfl,by omega,h2⟩,meas_lt (kd := .i64) hlt⟩
   · simp (disch:=try exact DI) only [↓PR,QR,simprocAttr,↓n124c1,↓n124c2]
     exact .inr h2
 · subst hk
   simp (disch:=try exact DI) only [↓PR,QR,simprocAttr,↓n124c1,↓n124c2,hdec]
   exact .inl hJ
theorem free_at {l:List FieldD} {i:Nat} {x:FieldD} (h:l[i]?=some x):((match l[i]? with
 | some f=>numberB f
 | none=>false)&&(usersP l i).isEmpty)=(numberB x&&(usersP l i).isEmpty):=by rw [h]
theorem Free1_ret {w:World} {m:MsgD} {fv:Value} {p1:Nat} (i:Nat) (x:FieldD) (u:Value) (hi:m.fields[i]?=some x) (hF:FieldsOf w fv m.fields) (hb:fewM m) (o1:w.heap[p1]?=some (.cells (msgCells m fv).toArray 24 (0,0))) (hu:FieldVal w u x) :
 Ret Pg 48 #[.int .i64 (i:Int),u,.pointer (some ⟨p1,0,none⟩)] w fun r w'=>r = .bool (numberB x&&(usersP m.fields i).isEmpty)∧Ext w w':=by
 obtain ⟨tv,cv,rfl,hT,hC⟩:=hu
 have ht1:=SliceOf.oneCell hT
 have hc1:=SliceOf.oneCell hC
 have hf1:=SliceOf.oneCell hF
 have hil:=(List.getElem?_eq_some_iff.1 hi).1
 refine n66s (R:=retR _) ?_;unfold n66
 rw [op_boxA]
 have o4:=heap_new w (fieldCells x tv cv).toArray 48
 have eW:Ext w (w.alloc (.cells (fieldCells x tv cv).toArray 48)):=ee
 generalize (w.alloc (.cells (fieldCells x tv cv).toArray 48))=W at o4 eW ⊢
 generalize w.heap.size=p4 at o4 ⊢
 simp (disch:=try exact DI) only [↓PR,QR,simprocAttr,(cells_of_heap (eW.obj o1)).1]
 refine callK_ret (Users_ret _ _ m i ⟨_,rfl,FieldsOf.ext hF eW⟩ hb) ?_
 rintro _ w1 ⟨⟨uv,rfl,hR⟩,e1⟩
 have hin:0≤(i:Int)∧(i:Int) < m.fields.length:=by omega
 rw [show usersE m (i:Int)=usersP m.fields i by unfold usersE;rw [if_pos hin,Int.toNat_natCast]] at hR
 unfold n66c2
 simp (disch:=try exact DI) only [↓PR,QR,simprocAttr,(cells_of_heap (e1.obj o4)).1]
 refine zcr (Number_ret _ _ x ⟨_,_,rfl,hT.ext (eW.trans e1),hC.ext (eW.trans e1)⟩) fun w2 e2=>?_
 obtain ⟨A,c,rfl,_⟩:=SliceOf.open hR.ints
 have hz:(((usersP m.fields i).length:Int) == 0)=(usersP m.fields i).isEmpty:=by
  cases usersP m.fields i with
  | nil=>rfl
  | cons a l=>simp;omega
 have E:=eW.trans (e1.trans e2)
 unfold n66c1
 cases hn:numberB x with
 | true=>simp (disch:=try exact DI) only [↓PR,QR,simprocAttr,hz];exact ⟨by trivial,E⟩
 | false=>simp (disch:=try exact DI) only [↓PR,QR,simprocAttr];exact ⟨by trivial,E⟩
theorem Free_ret (w0:World) (v:Value) (m:MsgD) (hm:MsgVal w0 v m) (hb:fewM m):Ret Pg 19 #[v] w0 fun r w'=>∃ pb sv,r = .func (.func 86) #[] #[.pointer (some ⟨pb,0,none⟩)]∧IntsAt w' pb sv (freeP m.fields)∧w0.heap.size≤pb∧(∀ A n c,sv = .slice (some A) n c→w0.heap.size≤A.block)∧Ext w0 w':=by
 obtain ⟨fv,rfl,hF⟩:=hm
 have hf1:=SliceOf.oneCell hF
 refine n65s (R:=retR _) ?_;unfold n65
 rw [op_boxA]
 have o1:=heap_new w0 (msgCells m fv).toArray 24
 have eW:Ext w0 (w0.alloc (.cells (msgCells m fv).toArray 24)):=ee
 generalize (w0.alloc (.cells (msgCells m fv).toArray 24))=W at o1 eW ⊢
 simp (disch:=try exact DI) only [↓PR,QR,simprocAttr,(cells_of_heap o1).1]
 refine callK_ret (where_Field_ret _ _ m.fields _ _ (fun i=>(match m.fields[i]? with
  | some f=>numberB f
  | none=>false)&&(usersP m.fields i).isEmpty) (FieldsOf.ext hF eW) hb.1 c48 ?_) ?_
 · intro w i x u hx e hu
   rw [free_at hx]
   exact Free1_ret i x u hx (FieldsOf.ext hF (eW.trans e)) hb (e.obj o1) hu
 rintro sv w1 ⟨hR,e1⟩
 have s1:=(eW.trans e1).size
 have h1:=SliceOf.oneCell hR.ints
 simp (disch:=try exact DI) only [↓PR,QR,simprocAttr]
 have hV:Ret Pg 50 #[sv] w1 fun r w'=>r = .func (.func 86) #[] #[.pointer (some ⟨w1.heap.size,0,none⟩)]∧w'.cell? ⟨w1.heap.size,0,none⟩=some sv∧Ext w1 w':=by
  refine n123s (R:=retR _) ?_;unfold n123
  simp (disch:=try exact DI) only [↓PR,QR,simprocAttr]
  exact ⟨by trivial,by rw [cells_one h1];rfl,ee⟩
 refine callK_ret hV ?_
 rintro _ w2 ⟨rfl,hc,e2⟩
 refine ⟨_,rfl,_,sv,rfl,⟨hc,hR.ints.ext keptInt e2⟩,s1,fun A n c h=>?_,eW.trans (e1.trans e2)⟩
 subst h
 have:=(hR.lt A.block rfl).1
 have:=eW.size
 omega
section
variable {R:RT}
def turnF (a:Value) (w:World):Nat:=match a with
 | .pointer (some p)=>(match w.cell? p with
  | some (.int _ t)=>(2 - t).toNat
  | _=>0)
 | _=>0
theorem lastsF (B:Nat) (l:List Nat):Lasts B (fun w=>∀ b∈l,MarkAt b w):=⟨fun w w' h e b hb=>(h b hb).ext e,fun w q r r' hl h hr b hb=>by
 have:=h b hb
 exact (World.putObj_heap_other (by rintro rfl;unfold MarkAt at this;rw [this] at hr;cases hr)).trans this⟩
theorem fre_after1 {w2:World} {pA pB pC pD pE:Nat} {many:Int} {t k n:Nat} {A:Option Addr} {cc:Nat} {ds:List Deferred} {next1:List Deferred→Value→World→Prop} (xA:w2.heap[pA]?=some (.cells #[.int .i64 many] 3 (0,0))) (xB:w2.heap[pB]?=some (.cells #[.slice A n cc] 30 (0,0))) (yD:w2.heap[pD]?=some (.cells #[.int .i64 (t:Int)] 3 (0,0))) (yE:w2.heap[pE]?=some (.cells #[.int .i64 (k:Int)] 3 (0,0)))
 (ht:t < 2) (h0:t=0→(k:Int)=min (n:Int) (max 1 many)) (h1:t=1→k=n) (hn:∀ w',w2.heap.size < w'.heap.size→w'.heap[w2.heap.size]?=some (.cells #[.int .i64 ((t+1:Nat):Int)] 3 (0,0))→Ext w2 w'→next1 ds (.pointer (some ⟨w2.heap.size,0,none⟩)) w') :
 n5c8 (.pointer (some ⟨pA,0,none⟩)) (.pointer (some ⟨pB,0,none⟩)) (.pointer (some ⟨pC,0,none⟩)) (.pointer (some ⟨pD,0,none⟩)) (.pointer (some ⟨pE,0,none⟩)) next1 ds R w2:=by
 have fin:n5c3 (.pointer (some ⟨pC,0,none⟩)) (.pointer (some ⟨pD,0,none⟩)) next1 ds R w2:=by
  unfold n5c3
  simp (disch:=try exact DI) only [↓PR,QR,simprocAttr,(cells_of_heap yD).1]
  exact hn _ (by simp only [World.size_alloc];omega) (by simpa using heap_new w2 #[.int .i64 ((t+1:Nat):Int)] 3) ee
 unfold n5c8
 have hcase:t=0∨t=1:=by omega
 rcases hcase with rfl | rfl
 · have hm:(if (if many > 1 then many else 1) < (n:Int) then (if many > 1 then many else 1) else (n:Int))=(k:Int):=by
    rw [h0 rfl]
    split<;>split<;>omega
   have d0:((((0:Nat):Int)) == 0)=true:=rfl
   have d1:((((0:Nat):Int)) == 1)=false:=rfl
   have dk:((k:Int) != (k:Int))=false:=by simp
   simp (disch:=try exact DI) only [↓PR,QR,simprocAttr,(cells_of_heap yD).1,d0,(cells_of_heap yE).1,(cells_of_heap xB).1,(cells_of_heap xA).1,hm,dk,d1,↓n5c7,↓n5c6,↓n5c5,↓n5c4]
   exact fin
 · have d0:((((1:Nat):Int)) == 0)=false:=rfl
   have d1:((((1:Nat):Int)) == 1)=true:=rfl
   have dk:((k:Int) != (n:Int))=false:=by rw [h1 rfl];simp
   simp (disch:=try exact DI) only [↓PR,QR,simprocAttr,(cells_of_heap yD).1,d0,d1,(cells_of_heap yE).1,(cells_of_heap xB).1,dk,↓n5c7,↓n5c6,↓n5c5,↓n5c4]
   exact fin
theorem fre_after2 {w2:World} {pA pB pC pD pE:Nat} {many:Int} {t k n:Nat} {A:Option Addr} {cc:Nat} {ds:List Deferred} {next1:List Deferred→Value→World→Prop} (xA:w2.heap[pA]?=some (.cells #[.int .i64 many] 3 (0,0))) (xB:w2.heap[pB]?=some (.cells #[.slice A n cc] 30 (0,0))) (yD:w2.heap[pD]?=some (.cells #[.int .i64 (t:Int)] 3 (0,0))) (yE:w2.heap[pE]?=some (.cells #[.int .i64 (k:Int)] 3 (0,0)))
 (ht:t < 2) (h0:t=0→(k:Int)=min (n:Int) (max 1 many)) (h1:t=1→k=n) (hn:∀ w',w2.heap.size < w'.heap.size→w'.heap[w2.heap.size]?=some (.cells #[.int .i64 ((t+1:Nat):Int)] 3 (0,0))→Ext w2 w'→next1 ds (.pointer (some ⟨w2.heap.size,0,none⟩)) w') :
 n5c14 (.pointer (some ⟨pA,0,none⟩)) (.pointer (some ⟨pB,0,none⟩)) (.pointer (some ⟨pC,0,none⟩)) (.pointer (some ⟨pD,0,none⟩)) (.pointer (some ⟨pE,0,none⟩)) next1 ds R w2:=by
 have fin:n5c9 (.pointer (some ⟨pC,0,none⟩)) (.pointer (some ⟨pD,0,none⟩)) next1 ds R w2:=by
  unfold n5c9
  simp (disch:=try exact DI) only [↓PR,QR,simprocAttr,(cells_of_heap yD).1]
  exact hn _ (by simp only [World.size_alloc];omega) (by simpa using heap_new w2 #[.int .i64 ((t+1:Nat):Int)] 3) ee
 unfold n5c14
 have hcase:t=0∨t=1:=by omega
 rcases hcase with rfl | rfl
 · have hm:(if (if many > 1 then many else 1) < (n:Int) then (if many > 1 then many else 1) else (n:Int))=(k:Int):=by
    rw [h0 rfl]
    split<;>split<;>omega
   have d0:((((0:Nat):Int)) == 0)=true:=rfl
   have d1:((((0:Nat):Int)) == 1)=false:=rfl
   have dk:((k:Int) != (k:Int))=false:=by simp
   simp (disch:=try exact DI) only [↓PR,QR,simprocAttr,(cells_of_heap yD).1,d0,(cells_of_heap yE).1,(cells_of_heap xB).1,(cells_of_heap xA).1,hm,dk,d1,↓n5c13,↓n5c12,↓n5c11,↓n5c10,↓n5c10]
   exact fin
 · have d0:((((1:Nat):Int)) == 0)=false:=rfl
   have d1:((((1:Nat):Int)) == 1)=true:=rfl
   have dk:((k:Int) != (n:Int))=false:=by rw [h1 rfl];simp
   simp (disch:=try exact DI) only [↓PR,QR,simprocAttr,(cells_of_heap yD).1,d0,d1,(cells_of_heap yE).1,(cells_of_heap xB).1,dk,↓n5c13,↓n5c12,↓n5c11,↓n5c10,↓n5c10]
   exact fin
end
theorem frees_ret (w0:World) (v:Value) (m:MsgD) (many:Int) (wv:Value) (hm:MsgVal w0 v m) (hb:fewM m) (hL:SliceOf w0 1 EInt wv (freeP m.fields)):Ret Pg 18 #[v,.int .i64 many,wv] w0 fun r w'=>r = .bool true∧Ext w0 w':=by
 obtain ⟨fv,rfl,hF⟩:=hm
 have hm1:=SliceOf.oneCell hF
 have hw1:=SliceOf.oneCell hL
 refine n5s (R:=retR _) ?_;unfold n5
 simp (disch:=try exact DI) only [↓PR,QR,simprocAttr]
 simp only [World.size_alloc,cells_one hw1]
 generalize hW:World.alloc (World.alloc (World.alloc (World.alloc w0 _) _) _) _=W
 have e0:Ext w0 W:=by rw [← hW];exact ee
 have oA:W.heap[w0.heap.size+1]?=some (.cells #[.int .i64 many] 3 (0,0)):=by rw [← hW];simp (disch:=try exact DI) only [↓PR,QR,simprocAttr]
 have oB:W.heap[w0.heap.size+1+1]?=some (.cells #[wv] 30 (0,0)):=by rw [← hW];simp (disch:=try exact DI) only [↓PR,QR,simprocAttr]
 have oC:W.heap[w0.heap.size+1+1+1]?=some (.cells #[.bool false] 4 (0,0)):=by rw [← hW];simp (disch:=try exact DI) only [↓PR,QR,simprocAttr]
 clear hW
 generalize hpA:w0.heap.size+1=pA at *
 generalize hpB:pA+1=pB at *
 generalize hpC:pB+1=pC at *
 refine callK_ret (Free_ret _ _ m ⟨_,rfl,FieldsOf.ext hF e0⟩ hb) ?_
 rintro _ w1 ⟨pb,sv,rfl,hIt,_,_,e1⟩
 have E1:=e0.trans e1
 have xA:=e1.obj oA
 have xB:=e1.obj oB
 have xC:=e1.obj oC
 have hL1:=hL.ext keptInt E1
 generalize freeP m.fields=l at hIt hL1
 clear oA oB oC hL
 obtain ⟨A,cc,rfl,hlc,hcm,hlm,hel⟩:=SliceOf.open hL1
 unfold n5c18
 simp (disch:=try exact DI) only [↓PR,QR,simprocAttr]
 unfold n5c17
 simp (disch:=try exact DI) only [↓PR,QR,simprocAttr]
 have lC:=(Array.getElem?_eq_some_iff.1 xC).1
 have oD:=heap_new w1 #[.int .i64 0] 3
 have eX:Ext w1 (w1.alloc (Obj.cells #[.int .i64 0] 3)):=ee
 generalize (w1.alloc (Obj.cells #[.int .i64 0] 3))=X at oD eX ⊢
 refine loopM1_intro (fun ds a w'=>∃ (pD:Nat) (t:Nat),a = .pointer (some ⟨pD,0,none⟩)∧t≤2∧w1.heap.size≤pD∧w'.heap[pD]?=some (.cells #[.int .i64 (t:Int)] 3 (0,0))∧Ext w1 w'∧(∃ bs:List Nat,ds=bs.map Sw.mark∧bs.Nodup∧∀ b∈bs,MarkAt b w'∧w1.heap.size≤b)) turnF ⟨w1.heap.size,0,rfl,by omega,Nat.le_refl _,oD,eX,[],rfl,by simp,by simp⟩ ?_
 rintro ds _ w2 ⟨pD,t,rfl,ht2,hpD,yD,e2,bs,rfl,hnd,hbs⟩
 have hcw:∀ (w':World) (p u:Nat),w'.heap[p]?=some (.cells #[.int .i64 (u:Int)] 3 (0,0))→turnF (.pointer (some ⟨p,0,none⟩)) w'=2 - u:=by
  intro w' p u h
  unfold turnF
  simp only
  rw [(cells_of_heap h).1 0]
  show ((2:Int) - (u:Int)).toNat=2 - u
  omega
 unfold n5c16
 by_cases ht:t < 2
 · have dt:decide ((t:Int) < 2)=true:=by simp;omega
   simp (disch:=try exact DI) only [↓PR,QR,simprocAttr,(cells_of_heap yD).1,dt]
   unfold n5c15
   simp (disch:=try exact DI) only [↓PR,QR,simprocAttr]
   have lD:pD < w2.heap.size:=(Array.getElem?_eq_some_iff.1 yD).1
   have eB:Ext w2 (w2.alloc (Obj.cells #[.int .i64 0] 3)):=ee
   have oE:=heap_new w2 #[.int .i64 0] 3
   have hs3:(w2.alloc (Obj.cells #[.int .i64 0] 3)).heap.size=w2.heap.size+1:=by simp only [World.size_alloc]
   generalize hpE:w2.heap.size=pE at oE hs3 ⊢
   generalize (w2.alloc (Obj.cells #[.int .i64 0] 3))=w3 at eB oE hs3 ⊢
   have s2:=e2.size
   let I:Nat→World→Prop:=fun k w'=>Ext w1 w'∧(∀ b∈bs,MarkAt b w')∧w'.heap[pD]?=some (.cells #[.int .i64 (t:Int)] 3 (0,0))∧w'.heap[pE]?=some (.cells #[.int .i64 (k:Int)] 3 (0,0))∧(t=0→k=0∨(k:Int) < many)
   let Ix:Nat→World→Prop:=fun c w'=>c=1∧Ext w1 w'∧(∀ b∈bs,MarkAt b w')∧w'.heap[pD]?=some (.cells #[.int .i64 (t:Int)] 3 (0,0))∧∃ k:Nat,w'.heap[pE]?=some (.cells #[.int .i64 (k:Int)] 3 (0,0))∧t=0∧(k:Int)=min (l.length:Int) (max 1 many)
   have hLI:∀ k,Lasts w3.heap.size (I k):=fun k=>Lasts.and (Lasts.from (by omega)) (Lasts.and (lastsF _ _) (Lasts.and (Lasts.has _ (by simp)) (Lasts.and (Lasts.has _ (by simp)) (Lasts.const _ _))))
   have hLX:∀ k,Lasts w3.heap.size (Ix k):=fun k=>Lasts.and (Lasts.const _ _) (Lasts.and (Lasts.from (by omega)) (Lasts.and (lastsF _ _) (Lasts.and (Lasts.has _ (by simp)) (Lasts.ex fun k=>Lasts.and (Lasts.has _ (by simp)) (Lasts.const _ _)))))
   have hfin:∀ (w4:World),Ext w1 w4→(∀ b∈bs,MarkAt b w4)→MarkAt w3.heap.size w4→∀ w5,w4.heap.size < w5.heap.size→w5.heap[w4.heap.size]?=some (.cells #[.int .i64 ((t+1:Nat):Int)] 3 (0,0))→Ext w4 w5 →
    (∃ (pD:Nat) (t':Nat),Value.pointer (some ⟨w4.heap.size,0,none⟩) = .pointer (some ⟨pD,0,none⟩)∧t'≤2∧w1.heap.size≤pD∧w5.heap[pD]?=some (.cells #[.int .i64 (t':Int)] 3 (0,0))∧Ext w1 w5∧(∃ bs':List Nat,(Sw.mark w3.heap.size::bs.map Sw.mark)=bs'.map Sw.mark∧bs'.Nodup∧∀ b∈bs',MarkAt b w5∧w1.heap.size≤b)) ∧
    turnF (.pointer (some ⟨w4.heap.size,0,none⟩)) w5 < turnF (.pointer (some ⟨pD,0,none⟩)) w2:=by
    intro w4 e4 hm4 hmk w5 hlt5 h5 e5
    have s4:=e4.size
    refine ⟨⟨w4.heap.size,t+1,rfl,by omega,by omega,h5,e4.trans e5,w3.heap.size::bs,rfl,List.nodup_cons.2 ⟨fun hin=>?_,hnd⟩,fun b hb=>?_⟩,?_⟩
    · have:=(Array.getElem?_eq_some_iff.1 (hbs _ hin).1).1
      omega
    · rcases List.mem_cons.1 hb with rfl | hb
      · exact ⟨hmk.ext e5,by omega⟩
      · exact ⟨(hm4 b hb).ext e5,(hbs b hb).2⟩
    · rw [hcw w5 _ (t+1) h5,hcw w2 pD t yD];omega
   refine ⟨_,_,l.length,intX l,fun w=>IntsAt w pb sv l,I,Ix,fun _ _=>False,rfl,c86,Values_seq pb sv l,⟨e2.trans eB,fun b hb=>(hbs b hb).1.ext eB,eB.obj yD,oE,fun _ => .inl rfl⟩,fun k w' h=>hIt.ext h.1,hLI,hLX,?_,?_,?_,?_⟩
   · intro rec j w4 hj hI4 hrec hready
     refine ⟨hready,fun w5 hbz=>?_⟩
     have hrec5:=hrec.busied hbz
     have hI5:=(hLI j).busied hbz (Nat.le_succ _) hI4
     clear hI4 hrec hready hbz
     obtain ⟨e5,hm5,qD,qE,hjm⟩:=hI5
     obtain ⟨n,hn⟩:=getElem?_lt hj
     obtain ⟨b,o,cs,rfl,_,hE,hcs⟩:=hel j n hn
     subst hcs
     rw [show intX l j = .int .i64 n by unfold intX;rw [hn]]
     have lE:pE < w5.heap.size:=(Array.getElem?_eq_some_iff.1 qE).1
     have hge:decide ((j:Int)≥(l.length:Int))=false:=by simp;omega
     have hss:(n != n)=false:=by simp
     unfold n5c2
     simp (disch:=try exact DI) only [↓PR,QR,simprocAttr,(cells_of_heap qE).1,(cells_of_heap (e5.obj xB)).1,hge,hE.c1 e5,hss]
     unfold n5c1
     have hw:IntKind.i64.wrap ((j:Int)+1)=((j+1:Nat):Int):=by rw [wrap_ok (by omega) (by omega)];omega
     have rE:(w5.setCell ⟨pE,0,none⟩ (.int .i64 ((j+1:Nat):Int))).heap[pE]?=some (.cells #[.int .i64 ((j+1:Nat):Int)] 3 (0,0)):=by simpa using heap_set (o:=0) qE (.int .i64 ((j+1:Nat):Int))
     have rD:=(Only.setCell w5 pE 0 (.int .i64 ((j+1:Nat):Int)) pD (by omega)).trans qD
     have e6:Ext w1 (w5.setCell ⟨pE,0,none⟩ (.int .i64 ((j+1:Nat):Int))):=e5.setCell (by show w1.heap.size≤pE;omega) _
     have hm6:∀ b∈bs,MarkAt b (w5.setCell ⟨pE,0,none⟩ (.int .i64 ((j+1:Nat):Int))):=fun b hb=>(hm5 b hb).setCell _ _
     have hrec6:=hrec5.setCell ⟨pE,0,none⟩ (.int .i64 ((j+1:Nat):Int))
     have xA':=e5.obj xA
     have hcase:t=0∨t=1:=by omega
     rcases hcase with ht0 | ht1
     · have d0:((t:Int) == 0)=true:=by rw [ht0];rfl
       by_cases hmy:((j+1:Nat):Int)≥many
       · have dm:decide (((j+1:Nat):Int)≥many)=true:=by simpa using hmy
         simp (disch:=try exact DI) only [↓PR,QR,simprocAttr,(cells_of_heap qE).1,(cells_of_heap qE).2,(cells_of_heap qD).1,d0,(cells_of_heap rE).1,(cells_of_heap xA').1,dm]
         refine ⟨hrec6,rfl,e6,hm6,rD,j+1,rE,ht0,?_⟩
         have:=hjm ht0
         omega
       · have dm:decide (((j+1:Nat):Int)≥many)=false:=by simpa using hmy
         simp (disch:=try exact DI) only [↓PR,QR,simprocAttr,(cells_of_heap qE).1,(cells_of_heap qE).2,(cells_of_heap qD).1,d0,(cells_of_heap rE).1,(cells_of_heap xA').1,dm]
         exact ⟨hrec6,e6,hm6,rD,rE,fun _ => .inr (by omega)⟩
     · have d0:((t:Int) == 0)=false:=by rw [ht1];rfl
       simp (disch:=try exact DI) only [↓PR,QR,simprocAttr,(cells_of_heap qE).1,(cells_of_heap qE).2,(cells_of_heap qD).1,d0]
       exact ⟨hrec6,e6,hm6,rD,rE,fun h=>by omega⟩
   · rintro w4 ⟨e4,hm4,qD,qE,hjm⟩ hmk
     exact fre_after1 (e4.obj xA) (e4.obj xB) qD qE ht (fun h=>by have:=hjm h;omega) (fun _=>rfl) (hfin w4 e4 hm4 hmk)
   · rintro c w4 ⟨rfl,e4,hm4,qD,k,qE,ht0,hk⟩ hmk
     exact fre_after2 (e4.obj xA) (e4.obj xB) qD qE ht (fun _=>hk) (fun h=>by omega) (hfin w4 e4 hm4 hmk)
   · rintro ch w4 h
     exact h.elim
 · have dt:decide ((t:Int) < 2)=false:=by simp;omega
   have qC:=e2.obj xC
   simp (disch:=try exact DI) only [↓PR,QR,simprocAttr,(cells_of_heap yD).1,dt,(cells_of_heap qC).1,(cells_of_heap qC).2]
   have rC:(w2.setCell ⟨pC,0,none⟩ (.bool true)).heap[pC]?=some (.cells #[.bool true] 4 (0,0)):=by simpa using heap_set (o:=0) qC (.bool true)
   refine outs_marks (w0:=w0) hnd (fun b hb=>⟨(hbs b hb).1.setCell _ _,by have:=(hbs b hb).2;have:=E1.size;omega⟩) ((E1.trans e2).setCell (by show w0.heap.size≤pC;omega) _) (fun w' e' hh=>?_)
   have zC:=hh _ _ has_nd rC
   simp (disch:=try exact DI) only [↓PR,QR,simprocAttr,outX_nil,retV,resOne,(cells_of_heap zC).1]
   exact ⟨by trivial,e'⟩
def wantC:Nat→List Int
 | 2=>[0]
 | 3=>[1]
 | 4=>[2]
 | _=>[]
theorem kn_uses:∀ k:Nat,k < 5→usesE mC k=wantC k∧errU mC k=0:=by decide +kernel
theorem kn_u5:errU mC 5=3:=by decide +kernel
theorem kn_e0:errU mC 0=0:=by decide +kernel
theorem kn_e2:errU mC 2=0:=by decide +kernel
theorem fresh_ints (w:World) (l:List Int) (hl:l.length≤1048576):SliceOf (w.alloc (.cells (l.map fun n=>Value.int .i64 n).toArray 3)) 1 EInt (.slice (some ⟨w.heap.size,0,none⟩) l.length l.length) l :=
 slice_rows (T:=3) (l.map fun n=>[Value.int .i64 n]) l (by decide) (by rw [heap_new];congr 3;clear hl;induction l<;>simp_all) (by simp) (by simp) hl fun k cs x h1 h2=>by
  rw [List.getElem?_map,h2] at h1
  injection h1 with h1
  exact h1.symm
theorem kn_us0:usersE mC 0=[2]:=by decide +kernel
theorem kn_us2:usersE mC 2=[4]:=by decide +kernel
theorem kn_frC:freeP mC.fields=[]:=by decide +kernel
theorem kn_frA:freeP mA.fields=[0]:=by decide +kernel
theorem kn_ed:errD gvD=0:=by decide +kernel
theorem kn_chT:chosenP gvD true=[0,1,2]:=by decide +kernel
theorem kn_chF:chosenP gvD false=[3]:=by decide +kernel
theorem kn_p0:pathE gvD 0=[2,0]∧errP gvD 0=0:=by decide +kernel
theorem kn_p1:pathE gvD 1=[2,1]∧errP gvD 1=0:=by decide +kernel
theorem kn_p3:errP gvD 3=9:=by decide +kernel
theorem kn_calm:calm gvD:=by unfold calm;decide +kernel
theorem kn_few:fewM mC∧fewM mA:=by unfold fewM;decide +kernel
def rowC (n:Nat):Nat→Value
 | 0 => .slice (some ⟨n+2,0,none⟩) 0 0
 | 1 => .slice (some ⟨n+3,0,none⟩) 0 0
 | 2 => .slice (some ⟨n+4,0,none⟩) 1 1
 | 3 => .slice (some ⟨n+5,0,none⟩) 1 1
 | _ => .slice (some ⟨n+6,0,none⟩) 1 1
theorem one_int {w:World} (n:Int):∀ (k:Nat) cs (x:Int),[[Value.int .i64 n]][k]?=some cs→[n][k]?=some x→EInt w cs x:=fun k cs x h1 h2=>by
 match k with
 | 0=>injection h1 with h1;injection h2 with h2;subst h1 h2;rfl
theorem known_ret (w0:World):Ret Pg 11 #[] w0 fun r w'=>r = .bool true∧Ext w0 w':=by
 refine n9s (R:=retR _) ?_;unfold n9
 refine callK_ret (given_ret _) ?_
 rintro _ w1 ⟨⟨b,fa,fb,fc,fz,rfl,hb,hfa,hfb,hfc,hfz⟩,e1⟩
 have ha1:=SliceOf.oneCell hfa
 have hb1:=SliceOf.oneCell hfb
 have hc1:=SliceOf.oneCell hfc
 have hz1:=SliceOf.oneCell hfz
 have hidx2:∀ (w:World) (QP:List PanicEntry→World→Prop) (K:Value→World→Prop),opV Pg (Instr.indexAt 26 (.slice (some ⟨b,0,none⟩) 4 4) (.int .i64 2)) QP w K=K (.pointer (some ⟨b,4,none⟩)) w:=fun w QP K=>op_indexN (w:=w) (QP:=QP) (k:=K) Tryz.underlying26 ty24 b 0 4 4 .i64 2 (by decide)
 have hidx0:∀ (w:World) (QP:List PanicEntry→World→Prop) (K:Value→World→Prop),opV Pg (Instr.indexAt 26 (.slice (some ⟨b,0,none⟩) 4 4) (.int .i64 0)) QP w K=K (.pointer (some ⟨b,0,none⟩)) w:=fun w QP K=>op_indexN (w:=w) (QP:=QP) (k:=K) Tryz.underlying26 ty24 b 0 4 4 .i64 0 (by decide)
 have hc4:∀ O,(w1.alloc O).cell? ⟨b,4,none⟩=some (.string ⟨#[99]⟩):=fun O=>by rw [(cells_of_heap ((Ext.alloc (Ext.refl w1) O).obj hb)).1];rfl
 have hc5:∀ O,(w1.alloc O).cell? ⟨b,5,none⟩=some fc:=fun O=>by rw [(cells_of_heap ((Ext.alloc (Ext.refl w1) O).obj hb)).1];rfl
 unfold n9c28
 simp (disch:=try exact DI) only [↓PR,QR,simprocAttr,↓hidx2,hc4,hc5]
 simp only [World.size_alloc,World.size_setCell]
 generalize hV:World.alloc (World.alloc _ _) _=V
 generalize hn:w1.heap.size=n at hV ⊢
 have eV:Ext w1 V:=by rw [← hV];exact ee
 have oD:V.heap[n]?=some (.cells #[.string ⟨#[100]⟩,.slice (some ⟨b,0,none⟩) 4 4,.string ⟨#[99]⟩] 28 (0,0)):=by rw [← hV,← hn];simp (disch:=try exact DI) only [↓PR,QR,simprocAttr]
 have oM:V.heap[n+1]?=some (.cells #[.string ⟨#[99]⟩,fc] 24 (0,0)):=by rw [← hV,← hn];simp (disch:=try exact DI) only [↓PR,QR,simprocAttr]
 have oR:V.heap[n+7]?=some (.cells #[rowC n 0,rowC n 1,rowC n 2,rowC n 3,rowC n 4] TS (0,0)):=by rw [← hV,← hn];simp (disch:=try exact DI) only [↓PR,QR,simprocAttr];rfl
 have o2:V.heap[n+4]?=some (.cells #[.int .i64 0] 3 (0,0)):=by rw [← hV,← hn];simp (disch:=try exact DI) only [↓PR,QR,simprocAttr]
 have o3:V.heap[n+5]?=some (.cells #[.int .i64 1] 3 (0,0)):=by rw [← hV,← hn];simp (disch:=try exact DI) only [↓PR,QR,simprocAttr]
 have o4:V.heap[n+6]?=some (.cells #[.int .i64 2] 3 (0,0)):=by rw [← hV,← hn];simp (disch:=try exact DI) only [↓PR,QR,simprocAttr]
 clear hV
 have E1:=e1.trans eV
 have hrow:∀ k,k < 5→V.cell? ⟨n+7,k,none⟩=some (rowC n k)∧SliceOf V 1 EInt (rowC n k) (wantC k)∧(rowC n k).oneCell'=true:=by
  intro k hk
  rw [(cells_of_heap oR).1]
  match k,hk with
  | 0,_=>exact ⟨rfl,⟨_,0,rfl,Nat.le_refl _,by decide,fun h=>absurd rfl h⟩,rfl⟩
  | 1,_=>exact ⟨rfl,⟨_,0,rfl,Nat.le_refl _,by decide,fun h=>absurd rfl h⟩,rfl⟩
  | 2,_=>exact ⟨rfl,slice_rows [[.int .i64 0]] [0] (by decide) o2 (by simp) rfl (by decide) (one_int 0),rfl⟩
  | 3,_=>exact ⟨rfl,slice_rows [[.int .i64 1]] [1] (by decide) o3 (by simp) rfl (by decide) (one_int 1),rfl⟩
  | 4,_=>exact ⟨rfl,slice_rows [[.int .i64 2]] [2] (by decide) o4 (by simp) rfl (by decide) (one_int 2),rfl⟩
 have hmsg:∀ w,Ext V w→MsgVal w (.agg #[.string ⟨#[99]⟩,fc]) mC:=fun w e=>⟨fc,rfl,hfc.ext (eV.trans e)⟩
 have hmsA:∀ w,Ext V w→MsgVal w (.agg #[.string ⟨#[97]⟩,fa]) mA:=fun w e=>⟨fa,rfl,hfa.ext (eV.trans e)⟩
 have hdef:∀ w,Ext V w→DefVal w (.agg #[.string ⟨#[100]⟩,.slice (some ⟨b,0,none⟩) 4 4,.string ⟨#[99]⟩]) gvD:=by
  intro w e
  refine ⟨_,rfl,slice_rows (T:=24) [msgCells mA fa,msgCells mB fb,msgCells mC fc,msgCells mZ fz] gvD.msgs (by decide) ((eV.trans e).obj hb) (by simp [msgCells]) rfl (by decide) fun k cs x h1 h2=>?_⟩
  have e':=eV.trans e
  match k with
  | 0=>injection h1 with h1;injection h2 with h2;subst h1 h2;exact ⟨fa,rfl,hfa.ext e'⟩
  | 1=>injection h1 with h1;injection h2 with h2;subst h1 h2;exact ⟨fb,rfl,hfb.ext e'⟩
  | 2=>injection h1 with h1;injection h2 with h2;subst h1 h2;exact ⟨fc,rfl,hfc.ext e'⟩
  | 3=>injection h1 with h1;injection h2 with h2;subst h1 h2;exact ⟨fz,rfl,hfz.ext e'⟩
 rw [show n+1+1+1+1+1+1+1=n+7 by omega]
 refine loop1_intro (fun i w'=>∃ k:Nat,i = .int .i64 k∧k≤5∧Ext V w') (fun i _=>5 - (intOf i).toNat) ⟨0,rfl,by omega,Ext.refl _⟩ ?_
 rintro _ w2 ⟨k,rfl,hk,e2⟩
 have hM2:=(cells_of_heap (e2.obj oM)).1
 rcases Nat.lt_or_ge k 5 with hlt | hge
 · have hdec:decide ((k:Int) < 5)=true:=decide_eq_true (by omega)
   obtain ⟨h1,h2,h3⟩:=hrow k hlt
   have h1':=e2.cell h1
   obtain ⟨hu,he⟩:=kn_uses k hlt
   unfold n9c27
   simp (disch:=try exact DI) only [↓PR,QR,simprocAttr,hdec,↓n9c26,h1',hM2,Nat.mul_one,Nat.zero_add]
   refine callK_ret (Uses_ret _ _ mC k (hmsg _ e2) kn_few.1) ?_
   rintro _ w3 ⟨⟨u,rfl,hU⟩,e3⟩
   rw [he]
   rw [hu] at hU
   have hu1:=SliceOf.oneCell hU.ints
   unfold n9c2
   simp (disch:=try exact DI) only [↓PR,QR,simprocAttr]
   refine zcr (same_ret _ _ _ _ _ hU.ints (SliceOf.ext keptInt h2 (e2.trans e3))) fun w4 e4=>?_
   have hwr:IntKind.i64.wrap ((k:Int)+1)=(k:Int)+1:=wrap_ok (by omega) (by omega)
   simp (disch:=try exact DI) only [↓PR,QR,simprocAttr,↓n9c1,decide_true,hwr]
   exact ⟨⟨k+1,rfl,by omega,e2.trans (e3.trans e4)⟩,meas_lt (kd := .i64) hlt⟩
 · have hdec:decide ((k:Int) < 5)=false:=decide_eq_false (by omega)
   unfold n9c27
   simp (disch:=try exact DI) only [↓PR,QR,simprocAttr,hdec,hM2]
   refine callK_ret (Uses_ret _ _ mC 5 (hmsg _ e2) kn_few.1) ?_
   rintro _ w3 ⟨⟨u3,rfl,hU3⟩,e3⟩
   have f3:=e2.trans e3
   rw [kn_u5]
   simp (disch:=try exact DI) only [↓PR,QR,simprocAttr,↓n9c25,(cells_of_heap (f3.obj oM)).1]
   refine callK_ret (Users_ret _ _ mC 0 (hmsg _ f3) kn_few.1) ?_
   rintro _ w4 ⟨⟨u4,rfl,hU4⟩,e4⟩
   have f4:=f3.trans e4
   rw [kn_e0]
   rw [kn_us0] at hU4
   have hu4:=SliceOf.oneCell hU4.ints
   simp (disch:=try exact DI) only [↓PR,QR,simprocAttr,↓n9c24,(cells_of_heap (f4.obj oM)).1]
   refine callK_ret (Users_ret _ _ mC 2 (hmsg _ f4) kn_few.1) ?_
   rintro _ w5 ⟨⟨u5,rfl,hU5⟩,e5⟩
   have f5:=f4.trans e5
   rw [kn_e2]
   rw [kn_us2] at hU5
   have hu5:=SliceOf.oneCell hU5.ints
   unfold n9c23
   simp (disch:=try exact DI) only [↓PR,QR,simprocAttr]
   have eY5:Ext w5 (w5.alloc (.cells #[.int .i64 2] 3)):=ee
   refine zcr (same_ret _ _ _ _ [2] (RowI.ints (hU4.ext (e5.trans eY5))) (fresh_ints w5 [2] (by decide))) fun w6 e6=>?_
   have f6:=f5.trans (eY5.trans e6)
   simp (disch:=try exact DI) only [↓PR,QR,simprocAttr,↓n9c22,decide_true]
   have eY6:Ext w6 (w6.alloc (.cells #[.int .i64 4] 3)):=ee
   refine zcr (same_ret _ _ _ _ [4] (RowI.ints (hU5.ext (eY5.trans (e6.trans eY6)))) (fresh_ints w6 [4] (by decide))) fun w7 e7=>?_
   have f7:=f6.trans (eY6.trans e7)
   simp (disch:=try exact DI) only [↓PR,QR,simprocAttr,↓n9c21,↓n9c20,↓n9c19,decide_true,(cells_of_heap (f7.obj oM)).1]
   refine zcr (frees_ret _ _ mC 9 _ (hmsg _ f7) kn_few.1 (by rw [kn_frC];exact SliceOf.nil _ _ _)) fun w8 e8=>?_
   have f8:=f7.trans e8
   have hA0:w8.cell? ⟨b,0,none⟩=some (.string ⟨#[97]⟩):=by rw [(cells_of_heap ((eV.trans f8).obj hb)).1];rfl
   have hA1:w8.cell? ⟨b,1,none⟩=some fa:=by rw [(cells_of_heap ((eV.trans f8).obj hb)).1];rfl
   simp (disch:=try exact DI) only [↓PR,QR,simprocAttr,↓n9c18,↓n9c17,↓hidx0,(cells_of_heap (f8.obj oD)).1,hA0,hA1]
   have eY8:Ext w8 (w8.alloc (.cells #[.int .i64 0] 3)):=ee
   refine zcr (frees_ret _ _ mA 9 _ (hmsA _ (f8.trans eY8)) kn_few.2 (by rw [kn_frA];exact fresh_ints w8 [0] (by decide))) fun w9 e9=>?_
   have f9:=f8.trans (eY8.trans e9)
   simp (disch:=try exact DI) only [↓PR,QR,simprocAttr,↓n9c16,(cells_of_heap (f9.obj oD)).1]
   refine callK_ret (Reach_ret _ _ gvD (hdef _ f9) kn_calm) ?_
   rintro _ w10 ⟨⟨u10,rfl,hU10⟩,e10⟩
   have f10:=f9.trans e10
   rw [kn_ed]
   rw [kn_chT] at hU10
   have hu10:=SliceOf.oneCell hU10.ints
   simp (disch:=try exact DI) only [↓PR,QR,simprocAttr,↓n9c15,(cells_of_heap (f10.obj oD)).1]
   refine callK_ret (Unused_ret _ _ gvD (hdef _ f10) kn_calm) ?_
   rintro _ w11 ⟨⟨u11,rfl,hU11⟩,e11⟩
   have f11:=f10.trans e11
   rw [kn_ed]
   rw [kn_chF] at hU11
   have hu11:=SliceOf.oneCell hU11.ints
   simp (disch:=try exact DI) only [↓PR,QR,simprocAttr,↓n9c14,(cells_of_heap (f11.obj oD)).1]
   refine callK_ret (Path_ret _ _ gvD 0 (hdef _ f11) kn_calm) ?_
   rintro _ w12 ⟨⟨u12,rfl,hU12⟩,e12⟩
   have f12:=f11.trans e12
   rw [kn_p0.2]
   rw [kn_p0.1] at hU12
   have hu12:=SliceOf.oneCell hU12.ints
   simp (disch:=try exact DI) only [↓PR,QR,simprocAttr,↓n9c13,(cells_of_heap (f12.obj oD)).1]
   refine callK_ret (Path_ret _ _ gvD 1 (hdef _ f12) kn_calm) ?_
   rintro _ w13 ⟨⟨u13,rfl,hU13⟩,e13⟩
   have f13:=f12.trans e13
   rw [kn_p1.2]
   rw [kn_p1.1] at hU13
   have hu13:=SliceOf.oneCell hU13.ints
   simp (disch:=try exact DI) only [↓PR,QR,simprocAttr,↓n9c12,(cells_of_heap (f13.obj oD)).1]
   refine callK_ret (Path_ret _ _ gvD 3 (hdef _ f13) kn_calm) ?_
   rintro _ w14 ⟨⟨u14,rfl,_⟩,e14⟩
   have f14:=f13.trans e14
   rw [kn_p3]
   simp (disch:=try exact DI) only [↓PR,QR,simprocAttr,↓n9c11]
   have eY14:Ext w14 (w14.alloc (.cells #[.int .i64 0,.int .i64 1,.int .i64 2] 3)):=ee
   refine zcr (same_ret _ _ _ _ [0,1,2] (RowI.ints (hU10.ext (e11.trans (e12.trans (e13.trans (e14.trans eY14)))))) (fresh_ints w14 [0,1,2] (by decide))) fun w15 e15=>?_
   have f15:=f14.trans (eY14.trans e15)
   simp (disch:=try exact DI) only [↓PR,QR,simprocAttr,↓n9c10,decide_true]
   have eY15:Ext w15 (w15.alloc (.cells #[.int .i64 3] 3)):=ee
   have g15:=eY14.trans (e15.trans eY15)
   refine zcr (same_ret _ _ _ _ [3] (RowI.ints (hU11.ext (e12.trans (e13.trans (e14.trans g15))))) (fresh_ints w15 [3] (by decide))) fun w16 e16=>?_
   have f16:=f15.trans (eY15.trans e16)
   simp (disch:=try exact DI) only [↓PR,QR,simprocAttr,↓n9c9,decide_true]
   have eY16:Ext w16 (w16.alloc (.cells #[.int .i64 2,.int .i64 0] 3)):=ee
   have g16:=g15.trans (e16.trans eY16)
   refine zcr (same_ret _ _ _ _ [2,0] (RowI.ints (hU12.ext (e13.trans (e14.trans g16)))) (fresh_ints w16 [2,0] (by decide))) fun w17 e17=>?_
   have f17:=f16.trans (eY16.trans e17)
   simp (disch:=try exact DI) only [↓PR,QR,simprocAttr,↓n9c8,decide_true]
   have eY17:Ext w17 (w17.alloc (.cells #[.int .i64 2,.int .i64 1] 3)):=ee
   have g17:=g16.trans (e17.trans eY17)
   refine zcr (same_ret _ _ _ _ [2,1] (RowI.ints (hU13.ext (e14.trans g17))) (fresh_ints w17 [2,1] (by decide))) fun w18 e18=>?_
   have f18:=f17.trans (eY17.trans e18)
   simp (disch:=try exact DI) only [↓PR,QR,simprocAttr,↓n9c7,↓n9c6,↓n9c5,↓n9c4,↓n9c3,decide_true]
   exact ⟨by trivial,E1.trans f18⟩
def pick {α:Type} (l:List α) (L:List Int):List α:=L.filterMap fun i=>l[i.toNat]?
theorem pick_snoc {α:Type} {l:List α} {L:List Int} {i:Nat} {x:α} (h:l[i]?=some x):pick l (L++[(i:Int)])=pick l L++[x]:=by
 unfold pick
 rw [List.filterMap_append]
 simp [h]
theorem pick_len {α:Type} {l:List α}:∀ {L:List Int},(∀ x∈L,x.toNat < l.length)→(pick l L).length=L.length
 | [],_=>rfl
 | x::L,h=>by
  obtain ⟨y,hy⟩:=getElem?_lt (h x (List.mem_cons_self ..))
  have:=pick_len (L:=L) fun z hz=>h z (List.mem_cons_of_mem _ hz)
  unfold pick at this ⊢
  rw [List.filterMap_cons,hy]
  simp [this]
theorem pick_get {α:Type} {l:List α}:∀ {L:List Int} (k:Nat) (x:α),(∀ x∈L,x.toNat < l.length)→(pick l L)[k]?=some x→∃ i:Int,L[k]?=some i∧l[i.toNat]?=some x
 | [],k,x,_,h=>by simp [pick] at h
 | y::L,k,x,hL,h=>by
  obtain ⟨z,hz⟩:=getElem?_lt (hL y (List.mem_cons_self ..))
  unfold pick at h
  rw [List.filterMap_cons,hz] at h
  cases k with
  | zero=>injection h with h;subst h;exact ⟨y,rfl,hz⟩
  | succ k=>exact pick_get (L:=L) k x (fun w hw=>hL w (List.mem_cons_of_mem _ hw)) h
theorem pick_mates {α:Type} {n:Nat} {E:List Value→α→Prop} {css:List (Cs n)} {l:List α} (h:Mates n E css l) {L:List Int} (hL:∀ x∈L,x.toNat < l.length):Mates n E (pick css L) (pick l L):=by
 have hL':∀ x∈L,x.toNat < css.length:=fun x hx=>by rw [h.1];exact hL x hx
 refine ⟨by rw [pick_len hL,pick_len hL'],fun k x cs hx hcs=>?_⟩
 obtain ⟨i,h1,h2⟩:=pick_get k x hL hx
 obtain ⟨j,h3,h4⟩:=pick_get k cs hL' hcs
 rw [h1] at h3
 injection h3 with h3
 subst h3
 exact h.2 _ _ _ h2 h4
def nilDef:DefD:=⟨ByteArray.empty,[],ByteArray.empty⟩
def pruneP (d:DefD):DefD:=if (checkP d).2.2=0 then ⟨d.name,pick d.msgs (reachP d.msgs (startI d)),d.start⟩ else nilDef
theorem append_msg {w:World} {QP:List PanicEntry→World→Prop} {k:Value→World→Prop} {base b:Nat} {v:Value} {css:List (Cs 2)} {cs:Cs 2} (hown:OwnE w base TM 2 Subtype.val v css) (h1:∀ u∈cs.1,u.oneCell'=true) (hc:ElemAt w b 0 cs.1) (hb:base≤w.heap.size) (hl:css.length≤1000)
 (hk:∀ v' w',OwnE w' base TM 2 Subtype.val v' (css++[cs])→w.grownBy w' v.ownBlock→k v' w') :
 opV Pg (Builtin.append_ #[26,26] 26 #[v,.slice (some ⟨b,0,none⟩) 1 1]) QP w k:=by
 refine op_appendE (l':=[cs]) Tryz.underlying26 ty24 rfl (by decide) (fun x=>x.2) (fun x hx u hu=>?_) hown (fun j x hx=>?_) hb (Nat.le_trans (Nat.mul_le_mul (show css.length+[cs].length≤1001 by simp;omega) by24) (by decide)) (by simp;omega) hk
 · simp only [List.mem_singleton] at hx
   subst hx
   exact h1 u hu
 · cases j with
   | zero=>injection hx with hx;subst hx;rw [Nat.zero_mul,Nat.zero_add];exact hc
   | succ j=>cases hx
theorem Prune_ret (w0:World) (v:Value) (d:DefD) (hd:DefVal w0 v d) (ht:calm d) (htm:tame d):Ret Pg 26 #[v] w0 fun r w'=>(∃ u,r = .tuple #[u,.int .i64 (errD d)]∧DefN w' w0.heap.size w'.heap.size u (pruneP d))∧Ext w0 w':=by
 obtain ⟨mv,rfl,hM⟩:=hd
 have hm1:=SliceOf.oneCell hM
 refine n68s (R:=retR _) ?_;unfold n68
 simp (disch:=try exact DI) only [↓PR,QR,simprocAttr]
 simp only [World.size_alloc]
 generalize hV:World.alloc (World.alloc w0 _) _=V
 have eV:Ext w0 V:=by rw [← hV];exact ee
 have o1:V.heap[w0.heap.size]?=some (.cells (defCells d mv).toArray 28 (0,0)):=by rw [← hV];simp (disch:=try exact DI) only [↓PR,QR,simprocAttr]
 have o2:V.heap[w0.heap.size+1]?=some (.cells #[.string ByteArray.empty,.slice none 0 0,.string ByteArray.empty] 28 (0,0)):=by rw [← hV];simp (disch:=try exact DI) only [↓PR,QR,simprocAttr]
 have sV:V.heap.size=w0.heap.size+1+1:=by rw [← hV];simp only [World.size_alloc]
 clear hV
 have hD:∀ w,Ext V w→DefVal w (.agg (defCells d mv).toArray) d:=fun w e=>⟨_,rfl,hM.ext (eV.trans e)⟩
 refine callK_ret (Reach_ret _ _ d (hD _ (Ext.refl _)) ht) ?_
 rintro _ w1 ⟨⟨u1,rfl,hU1⟩,e1⟩
 have hu1:=SliceOf.oneCell hU1.ints
 have x2:=e1.obj o2
 unfold n68c6
 by_cases hc:(checkP d).2.2=0
 case neg =>
  rw [show errD d=2 from if_neg hc,show pruneP d=nilDef from if_neg hc]
  simp (disch:=try exact DI) only [↓PR,QR,simprocAttr,(cells_of_heap x2).1,(cells_of_heap x2).2]
  have y0:∀ (w:World) (o:Nat) (u:Value),Ext w0 w→Ext w0 (w.setCell ⟨w0.heap.size+1,o,none⟩ u):=fun w o u e=>e.setCell (p:=⟨w0.heap.size+1,o,none⟩) (by show w0.heap.size≤w0.heap.size+1;omega) _
  exact ⟨⟨_,rfl,_,rfl,[],⟨OwnE.nil _ _ _ _ _,fun b h=>by cases h⟩,rfl,fun k x cs h=>by cases h⟩,y0 _ _ _ (y0 _ _ _ (y0 _ _ _ (eV.trans e1)))⟩
 rw [show errD d=0 from if_pos hc]
 rw [show chosenP d true=_ from if_pos hc,show selP d.msgs.length (fun i=>reachB d.msgs (startI d) i == true)=reachP d.msgs (startI d) from sel_congr fun i _=>by cases reachB d.msgs (startI d) i<;>rfl] at hU1
 rw [show pruneP d=_ from if_pos hc]
 simp (disch:=try exact DI) only [↓PR,QR,simprocAttr,(cells_of_heap (e1.obj o1)).1]
 refine callK_ret (Copy_ret _ _ d (hD _ e1) htm) ?_
 rintro _ w2 ⟨⟨mc,rfl,hN⟩,e2⟩
 have hmc:=SliceOf.oneCell hN.plain
 have f2:=e1.trans e2
 have hc1:∀ O o,(w2.alloc O).cell? ⟨w0.heap.size,o,none⟩=(defCells d mv).toArray[o]?:=fun O o=>(cells_of_heap ((Ext.alloc (Ext.refl w2) O).obj (f2.obj o1))).1 o
 unfold n68c5
 simp (disch:=try exact DI) only [↓PR,QR,simprocAttr,(cells_of_heap (f2.obj o1)).1,hc1]
 simp only [World.size_alloc,World.size_setCell]
 generalize hW:World.alloc (World.alloc w2 _) _=W
 have eW:Ext w2 W:=by rw [← hW];exact ee
 have o6:W.heap[w2.heap.size]?=some (.cells #[.string d.name,mc,.string d.start] 28 (0,0)):=by rw [← hW];simp (disch:=try exact DI) only [↓PR,QR,simprocAttr]
 have o7:W.heap[w2.heap.size+1]?=some (.cells #[.string d.name,.slice none 0 0,.string d.start] 28 (0,0)):=by rw [← hW];simp (disch:=try exact DI) only [↓PR,QR,simprocAttr]
 have sW:W.heap.size=w2.heap.size+1+1:=by rw [← hW];simp only [World.size_alloc]
 clear hW
 obtain ⟨css,hO,hmt⟩:=hN
 have hlen:1≤d.msgs.length:=(check_fine hc).2.1.1
 have hl60:=(check_fine hc).2.1.2
 obtain ⟨gM,capM,rfl,hgM,hgMl,hTM,hfM,hElM⟩:=hO.1.row (fun x=>x.2) (by rw [hmt.1];omega)
 have hLb:∀ x∈reachP d.msgs (startI d),∃ i:Nat,x=i∧i < d.msgs.length:=fun x hx=>by
  obtain ⟨i,h1,_,h3⟩:=mem_sel.1 hx
  exact ⟨i,h3,h1⟩
 have hLl:(reachP d.msgs (startI d)).length≤d.msgs.length:=sel_len _ _
 generalize reachP d.msgs (startI d)=L at hU1 hLb hLl ⊢
 generalize hp6:w2.heap.size=p6 at o6 o7 sW ⊢
 have hU2:=RowI.ints (hU1.ext e2)
 obtain ⟨A5,c5,rfl,hl5,_,_,hel5⟩:=SliceOf.open hU2
 simp (disch:=try exact DI) only [↓PR,QR,simprocAttr]
 refine loop1_intro (fun a w=>∃ (k:Nat) (v:Value),a = .int .i64 k∧k≤L.length∧Ext w2 w∧w.heap[p6]?=some (.cells #[.string d.name,.slice (some ⟨gM,0,none⟩) d.msgs.length capM,.string d.start] 28 (0,0))∧w.heap[p6+1]?=some (.cells #[.string d.name,v,.string d.start] 28 (0,0))∧OwnE w (p6+1+1) TM 2 Subtype.val v (pick css (L.take k))∧p6+1+1≤w.heap.size) (fun a _=>L.length - (intOf a).toNat) ⟨0,_,rfl,by omega,eW,by rw [← hmt.1];exact o6,o7,OwnE.nil _ _ _ _ _,by omega⟩ ?_
 rintro _ w ⟨k,v,rfl,hk,e,y6,y7,hOv,hsz⟩
 have hv1:v.oneCell'=true:=SliceOf.oneCell (hOv.slice (E:=fun _ cs x=>cs=x.1) (fun x=>x.2) (fun _ _=>rfl))
 have hwk:IntKind.i64.wrap ((k:Int)+1)=(k:Int)+1:=wrap_ok (by omega) (by omega)
 rcases drop_cases hk with ⟨x,hx,_,hlt,hdec⟩ | ⟨hke,_,hdec⟩
 · obtain ⟨i,rfl,hil⟩:=hLb x (List.mem_of_getElem? hx)
   obtain ⟨b5,o5,cs5,rfl,_,hA5,rfl⟩:=hel5 _ _ hx
   obtain ⟨ck,hck⟩:=getElem?_lt (l:=css) (k:=i) (by rw [hmt.1];exact hil)
   obtain ⟨m,hm⟩:=getElem?_lt hil
   obtain ⟨fv,he,hFN⟩:=hmt.2 i m ck hm hck
   have hfv:=SliceOf.oneCell hFN.plain
   have hEk:=hElM i ck hck
   rw [he] at hEk
   simp (disch:=try exact DI) only [↓PR,QR,simprocAttr,hdec,↓n68c4,hA5.c1 e]
   obtain ⟨g,hgd⟩:∃ g,g=v.ownBlock.getD w.heap.size:=⟨_,rfl⟩
   have hgB:p6+1+1≤g:=by
    rw [hgd]
    cases hv:v.ownBlock with
    | none=>exact hsz
    | some b=>exact (hOv.lt b hv).1
   have n6:p6≠g:=by omega
   have n7:p6+1≠g:=by omega
   have nM:gM≠g:=by omega
   have hck2:=hEk.c2 e
   have hq:∀ K:Value→Prop,qV Pg (KB w g g) (Instr.loadAt TM (.pointer (some ⟨gM,i*2,none⟩))) K=K (.agg (msgCells m fv).toArray):=fun K=>qV_eqC fun w' hw=>run_of_op fun QP k=>op_load (ElemAt.loads (w:=w') (b:=gM) (o:=i*2) (cs:=msgCells m fv) (fun j u hu=>KB.cell hw nM nM ((hEk.ext e) j u hu)) ty24 rfl)
   refine drawK_introB (w1:=w) g g (fun _ _ _ _=>rfl) ?_
   unfold n68c2
   simp (disch:=try exact DI) only [↓PR,QR,simprocAttr,(cells_of_heap y7).1,(cells_of_heap y6).1,↓hq]
   generalize hA':World.alloc (World.drew w) _=Z
   have eZ:Ext w Z:=by rw [← hA'];exact ee
   have oZ:Z.heap[w.heap.size]?=some (.cells (msgCells m fv).toArray TM (0,0)):=by
    rw [← hA']
    have:=heap_new w.drew (msgCells m fv).toArray TM
    rw [World.size_drew] at this
    exact this
   clear hA'
   refine ⟨fun b hb _ _=>eZ.block b hb,?_⟩
   have s0:=eZ.size
   have hpl:(pick css (L.take k)).length≤1000:=Nat.le_trans (List.length_filterMap_le _ _) (by rw [List.length_take];omega)
   refine append_msg (cs:=ck) (hOv.ext eZ) (fun u hu=>?_) ?_ (by omega) hpl ?_
   · rw [he] at hu
     simp only [msgCells,List.mem_cons,List.not_mem_nil,or_false] at hu
     rcases hu with rfl | rfl
     · rfl
     · exact hfv
   · rw [he]
     exact fun j u hu=>by rw [Nat.zero_add,(cells_of_heap oZ).1];simpa using hu
   intro v' w' hO' hg'
   have hown:∀ b,v.ownBlock=some b→p6+1+1≤b:=fun b hb=>(hOv.lt b hb).1
   refine ⟨fun b hb hbg _=>(hg'.block b (by omega) fun h=>hbg (by rw [hgd,← h];rfl)).trans (eZ.block b hb),?_⟩
   have z7:w'.heap[p6+1]?=_:=(hg'.block (p6+1) (by omega) fun h=>by have:=hown _ h.symm;omega).trans (eZ.obj y7)
   have z6:w'.heap[p6]?=_:=(hg'.block p6 (by omega) fun h=>by have:=hown _ h.symm;omega).trans (eZ.obj y6)
   have e':Ext w2 w':=(e.trans eZ).grown hg' fun b hb=>by have:=hown b hb;omega
   have s':=hg'.size
   have hv'1:v'.oneCell'=true:=SliceOf.oneCell (hO'.slice (E:=fun _ cs x=>cs=x.1) (fun x=>x.2) (fun _ _=>rfl))
   unfold n68c1
   simp (disch:=try exact DI) only [↓PR,QR,simprocAttr,(cells_of_heap z7).1,(cells_of_heap z7).2]
   refine turnK_intro ?_
   have ho:=Only.setCell w' (p6+1) 1 v'
   have u7:(w'.setCell ⟨p6+1,1,none⟩ v').heap[p6+1]?=some (.cells #[.string d.name,v',.string d.start] 28 (0,0)):=by simpa using heap_set (o:=1) z7 v'
   simp (disch:=try exact DI) only [↓PR,QR,simprocAttr,hwk]
   refine ⟨⟨k+1,v',rfl,by omega,e'.setCell (p:=⟨p6+1,1,none⟩) (by show w2.heap.size≤p6+1;omega) _,z6,u7,?_,by omega⟩,meas_lt (kd := .i64) hlt⟩
   rw [take_snoc hx,pick_snoc hck]
   exact (OwnR.only (OwnE.range hO') ho (.inr (.inl (by omega)))).1
 · subst hke
   rw [List.take_length] at hOv
   have x2':=(e2.trans e).obj x2
   have s1:=e1.size
   have s2:=e2.size
   have hMN:MsgsN w w1.heap.size w.heap.size v (pick d.msgs L):=by
    refine ⟨pick css L,⟨hOv.base (by omega),fun b hb=>(hOv.lt b hb).2⟩,(pick_mates hmt fun x hx=>?_).imp fun cs m h=>(h.ext e).mono (Nat.le_refl _) (by omega)⟩
    obtain ⟨i,rfl,hi⟩:=hLb x hx
    simpa using hi
   simp (disch:=try exact DI) only [↓PR,QR,simprocAttr,hdec,↓n68c3,(cells_of_heap y7).1,(cells_of_heap x2').1,(cells_of_heap x2').2]
   have st:∀ (w':World) (o:Nat) (u:Value),(Ext w0 w'∧MsgsN w' w1.heap.size w.heap.size v (pick d.msgs L))→(Ext w0 (w'.setCell ⟨w0.heap.size+1,o,none⟩ u)∧MsgsN (w'.setCell ⟨w0.heap.size+1,o,none⟩ u) w1.heap.size w.heap.size v (pick d.msgs L)):=fun w' o u ⟨a,b⟩ =>
    ⟨a.setCell (p:=⟨w0.heap.size+1,o,none⟩) (by show w0.heap.size≤w0.heap.size+1;omega) _,b.only (Only.setCell w' (w0.heap.size+1) o u) (.inr (.inl (by omega)))⟩
   obtain ⟨E3,N3⟩:=st _ 2 (.string d.start) (st _ 1 v (st _ 0 (.string d.name) ⟨eV.trans (f2.trans e),hMN⟩))
   exact ⟨⟨_,rfl,v,rfl,N3.mono (by omega) (Nat.le_refl _)⟩,E3⟩
section
variable {deps deps':List (ByteArray×Int)} {strs strs':List (ByteArray×Bool)}
theorem casesL_congr (hi:Int):∀ (l:List CaseD) (lo:Int),(∀ c∈l,lastP deps' c.of=lastP deps c.of)→casesL hi (vI deps') lo l=casesL hi (vI deps) lo l
 | [],_,_=>rfl
 | x::l,lo,h=>by
  simp only [casesL,isI]
  rw [h x List.mem_cons_self,casesL_congr hi l _ fun c hc=>h c (List.mem_cons_of_mem _ hc)]
theorem examine_congr {bef:List FieldD} {f:FieldD} (h:∀ s∈refsF f,lastP deps' s=lastP deps s∧lastP strs' s=lastP strs s):examineC bef (vI deps') (vB strs') f=examineC bef (vI deps) (vB strs) f:=by
 have:checkC bef (vI deps') (vB strs') f=checkC bef (vI deps) (vB strs) f:=by
  unfold refsF at h
  unfold checkC
  by_cases k7:f.kind=7∨f.kind=8∨f.kind=12
  · rw [if_pos k7] at h
    obtain ⟨h1,h2⟩:=h _ (List.mem_singleton.2 rfl)
    simp only [isI,strB_vB,h1,h2]
    have k9:¬ f.kind=9:=by omega
    simp only [if_neg k9]
  · rw [if_neg k7] at h
    have h7:¬ f.kind=7:=by omega
    have h8:¬ f.kind=8:=by omega
    have h12:¬ f.kind=12:=by omega
    simp only [if_neg h7,if_neg h8,if_neg h12]
    by_cases k9:f.kind=9
    · rw [if_pos k9] at h
      have:casesC bef (vI deps') f=casesC bef (vI deps) f:=by
       unfold casesC
       rw [casesL_congr _ _ _ fun c hc=>(h _ (List.mem_map.2 ⟨c,hc,rfl⟩)).1]
      rw [this]
    · simp only [if_neg k9]
 unfold examineC
 rw [this]
theorem fields_congr:∀ (l bef:List FieldD),(∀ s∈allRefs l,lastP deps' s=lastP deps s∧lastP strs' s=lastP strs s)→fieldsP deps' strs' bef l=fieldsP deps strs bef l
 | [],_,_=>rfl
 | f::l,bef,h=>by
  unfold fieldsP
  rw [examine_congr fun s hs=>h s (List.mem_append_left _ hs),fields_congr l _ fun s hs=>h s (List.mem_append_right (refsF f) hs)]
theorem strict_less (hs:Sub strs' strs) {m:MsgD} (h:∀ s∈allRefs m.fields,(lastP strs' s).isSome=true):strictM strs' m=strictM strs m:=by
 have:∀ (l:List ByteArray),(∀ s∈l,(lastP strs' s).isSome=true)→(l.all fun s=>(lastP strs' s).getD false)=l.all fun s=>(lastP strs s).getD false:=by
  intro l
  induction l with
  | nil=>intro _;rfl
  | cons x l ih =>
   intro hl
   rw [List.all_cons,List.all_cons,ih fun s hs=>hl s (List.mem_cons_of_mem _ hs),hs.eq (hl x List.mem_cons_self)]
 unfold strictM
 rw [this (refsM m) fun s hs=>h s (mem_dedupA hs)]
theorem next_less (hd:Sub deps' deps) (hs:Sub strs' strs) {m:MsgD} (h:(nextP deps strs m).2=0) (hr:∀ s∈allRefs m.fields,(lastP deps' s).isSome=true∧(lastP strs' s).isSome=true):(nextP deps' strs' m).2=0:=by
 obtain ⟨h1,h2,h3,h4,h5⟩:=next_parts h
 have h6:lastP deps' m.name=none:=by
  cases hl:lastP deps' m.name with
  | none=>rfl
  | some v=>rw [hd _ _ hl] at h2;cases h2
 have h7:fieldsP deps' strs' [] m.fields=fieldsP deps strs [] m.fields:=fields_congr _ _ fun s hs'=>⟨(hd.eq (hr s hs').1).symm,(hs.eq (hr s hs').2).symm⟩
 unfold nextP
 rw [if_pos h1,h6,if_neg (by simp),if_pos h3]
 unfold tailP
 rw [h7,if_pos h4,← depth_mono hd fun s hs'=>(hr s hs').1,if_pos h5]
end
theorem Sub.both {β:Type} {a b:List (ByteArray×β)} (h:Sub a b) (p:ByteArray×β):Sub (a++[p]) (b++[p]):=by
 intro s v x
 rw [lastP_snoc] at x ⊢
 split at x
 · rename_i e;rw [if_pos e];exact x
 · rename_i e;rw [if_neg e];exact h s v x
theorem dedup_mem {s:ByteArray}:∀ {l seen:List ByteArray},s∈l→(seen.any fun y=>decide (s=y))=false→s∈dedupA seen l
 | x::l,seen,h,hs=>by
  unfold dedupA
  by_cases hx:s=x
  · subst hx
    rw [if_neg (by rw [hs];simp)]
    exact List.mem_cons_self
  · have:=dedup_mem (seen:=seen++[x]) ((List.mem_cons.1 h).resolve_left hx) (by rw [List.any_append,hs];simp [hx])
    split
    · exact this
    · exact List.mem_cons_of_mem _ this
theorem pick_mem {α:Type} {l:List α} {L:List Int} {i:Int} {x:α} (hi:i∈L) (hx:l[i.toNat]?=some x):x∈pick l L:=List.mem_filterMap.2 ⟨i,hi,hx⟩
theorem pick_at {α:Type} {l:List α}:∀ {L:List Int} (k:Nat) (i:Int),(∀ x∈L,x.toNat < l.length)→L[k]?=some i→(pick l L)[k]?=l[i.toNat]?
 | [],k,i,_,h=>by simp at h
 | y::L,k,i,hL,h=>by
  obtain ⟨z,hz⟩:=getElem?_lt (hL y (List.mem_cons_self ..))
  unfold pick
  rw [List.filterMap_cons,hz]
  cases k with
  | zero=>injection h with h;subst h;exact hz.symm
  | succ k=>exact pick_at (L:=L) k i (fun w hw=>hL w (List.mem_cons_of_mem _ hw)) h
theorem Fine.snoc {l:List MsgD} {m:MsgD} (h:Fine l) (hn:(nextP (depsOf l) (strsOf l) m).2=0):Fine (l++[m]):=by
 unfold Fine
 rw [(msgs_append [m] l [] [] 0).1 h]
 exact congrArg (·.2.2) (msgs_cons0 hn)
section
variable {l:List MsgD} {r:Nat→Bool}
theorem names_apart (h:Fine l) {i j:Nat} {m m':MsgD} (hi:l[i]?=some m) (hj:l[j]?=some m') (hn:m.name=m'.name):i=j:=by
 have main:∀ (i j:Nat) (m m':MsgD),i < j→l[i]?=some m→l[j]?=some m'→m.name≠m'.name:=by
  intro i j m m' hij hi hj hn
  have h2:=(next_parts (h.next hj)).2.1
  rw [← Option.not_isSome_iff_eq_none,isD] at h2
  exact h2 ⟨m,List.mem_of_getElem? (i:=i) (by rw [List.getElem?_take,if_pos hij];exact hi),hn⟩
 rcases Nat.lt_trichotomy i j with h1 | h1 | h1
 · exact absurd hn (main _ _ _ _ h1 hi hj)
 · exact h1
 · exact absurd hn.symm (main _ _ _ _ h1 hj hi)
theorem refs_to (h:Fine l) {k:Nat} {m:MsgD} (hk:l[k]?=some m) {s:ByteArray} (hs:s∈allRefs m.fields):∃ (i:Nat) (m':MsgD),i < k∧l[i]?=some m'∧m'.name=s∧toB l k i=true:=by
 obtain ⟨i,m',h1,h2,h3,h4,_⟩:=fine_idx h hk (s:=s) (dedup_mem hs rfl)
 refine ⟨i,m',h1,h2,h3,?_⟩
 unfold toB
 rw [hk]
 exact List.any_eq_true.2 ⟨s,dedup_mem hs rfl,by rw [h4];simp⟩
theorem sel_low {n:Nat} {p:Nat→Bool} {m:Nat} (hm:n≤m):∀ x∈selP n p,x.toNat < m:=fun x hx=>by
 obtain ⟨i,h1,_,h3⟩:=mem_sel.1 hx
 omega
theorem prune_fine (h:Fine l) (hr:∀ k i,r k=true→toB l k i=true→r i=true):∀ n,n≤l.length→Fine (pick l (selP n r))∧Sub (depsOf (pick l (selP n r))) (depsOf (l.take n))∧Sub (strsOf (pick l (selP n r))) (strsOf (l.take n))
 | 0,_=>⟨rfl,Sub.refl _,Sub.refl _⟩
 | n+1,hn=>by
  obtain ⟨i1,i2,i3⟩:=prune_fine h hr n (by omega)
  obtain ⟨m,hm⟩:=getElem?_lt (show n < l.length by omega)
  rw [sel_succ]
  cases hrn:r n with
  | false =>
   rw [if_neg (by simp),List.append_nil]
   exact ⟨i1,i2.trans (h.sub 1 n).1,i3.trans (h.sub 1 n).2⟩
  | true =>
   rw [if_pos rfl,pick_snoc hm]
   generalize hP:pick l (selP n r)=P at i1 i2 i3 ⊢
   have hx:∀ s∈allRefs m.fields,(lastP (depsOf P) s).isSome=true∧(lastP (strsOf P) s).isSome=true:=by
    intro s hs
    obtain ⟨i,m',h1,h2,h3,h4⟩:=refs_to h hm hs
    have:m'∈P:=by
     rw [← hP]
     exact pick_mem (i:=(i:Int)) (mem_sel.2 ⟨i,h1,hr _ _ hrn h4,rfl⟩) h2
    exact ⟨isD.2 ⟨m',this,h3⟩,isS.2 ⟨m',this,h3⟩⟩
   have h0:=h.next hm
   refine ⟨i1.snoc (next_less i2 i3 h0 hx),?_,?_⟩
   · rw [take_snoc hm,deps_snoc,deps_snoc,depth_mono i2 fun s hs=>(hx s hs).1]
     exact i2.both _
   · rw [take_snoc hm,strs_snoc,strs_snoc,strict_less i3 fun s hs=>(hx s hs).2]
     exact i3.both _
def posn (r:Nat→Bool) (i:Nat):Nat:=(selP i r).length
theorem sel_here {p:Nat→Bool} {i:Nat} (hp:p i=true):∀ n,i < n→(selP n p)[posn p i]?=some (i:Int)
 | 0,h=>by omega
 | n+1,h=>by
  rw [sel_succ]
  by_cases hn:i=n
  · subst hn
    rw [hp,if_pos rfl,posn,List.getElem?_append_right (Nat.le_refl _),Nat.sub_self]
    rfl
  · have ih:=sel_here hp n (by omega)
    rw [List.getElem?_append_left (List.getElem?_eq_some_iff.1 ih).1]
    exact ih
theorem sel_inj {n:Nat} {p:Nat→Bool} {j k:Nat} {x:Int} (hj:(selP n p)[j]?=some x) (hk:(selP n p)[k]?=some x):j=k:=by
 have hs:=List.pairwise_iff_getElem.1 (sel_rise n p)
 obtain ⟨a1,a2⟩:=List.getElem?_eq_some_iff.1 hj
 obtain ⟨b1,b2⟩:=List.getElem?_eq_some_iff.1 hk
 rcases Nat.lt_trichotomy j k with h | h | h
 · have:=hs j k a1 b1 h;omega
 · exact h
 · have:=hs k j b1 a1 h;omega
theorem kept_at {i:Nat} (hi:i < l.length) (hr:r i=true):(pick l (selP l.length r))[posn r i]?=l[i]?:=pick_at _ (i:Int) (sel_low (Nat.le_refl _)) (sel_here hr _ hi)
theorem kept_idx (h:Fine l) {i:Nat} {m:MsgD} (hi:l[i]?=some m) (hr:r i=true):idx (fun x=>decide (x.name=m.name)) (pick l (selP l.length r))=posn r i:=by
 have hlt:=(List.getElem?_eq_some_iff.1 hi).1
 refine idx_here (x:=m) (by rw [kept_at hlt hr];exact hi) (by simp) fun j y hj hy=>?_
 obtain ⟨z,h1,h2⟩:=pick_get j y (sel_low (Nat.le_refl _)) hy
 by_cases hn:y.name=m.name
 · have:=names_apart h h2 hi hn
   have hz:z=(i:Int):=by
    obtain ⟨q,_,_,h5⟩:=mem_sel.1 (List.mem_of_getElem? h1)
    omega
   subst hz
   have:=sel_inj h1 (sel_here hr _ hlt)
   omega
 · simpa using hn
theorem kept_to (h:Fine l) {k i:Nat} (hk:r k=true) (hi:r i=true) (ht:toB l k i=true):toB (pick l (selP l.length r)) (posn r k) (posn r i)=true:=by
 obtain ⟨h1,h2⟩:=to_lt h ht
 obtain ⟨m,hm⟩:=getElem?_lt h2
 have ht2:=ht
 unfold toB at ht ⊢
 rw [hm] at ht
 rw [kept_at h2 hk,hm]
 obtain ⟨s,hs,he⟩:=List.any_eq_true.1 ht
 refine List.any_eq_true.2 ⟨s,hs,?_⟩
 obtain ⟨j,m',_,h4,h5,h6,_⟩:=fine_idx h hm hs
 rw [h6] at he
 have:j=i:=by simp at he;omega
 subst this
 rw [← h5,kept_idx h h4 hi]
 simp
theorem kept_reach (h:Fine l) {s:Nat} (hs:s < l.length) (hP:Fine (pick l (selP l.length (reachB l s)))):∀ (n i:Nat),l.length - i≤n→i < l.length→reachB l s i=true→reachB (pick l (selP l.length (reachB l s))) (posn (reachB l s) s) (posn (reachB l s) i)=true
 | 0,i,h1,h2,_=>by omega
 | n+1,i,h1,h2,hr=>by
  rcases reach_from h _ i (Nat.le_refl _) (show reachN l s l.length i=true from hr) with rfl | ⟨k,hk,ht⟩
  · obtain ⟨m,hm⟩:=getElem?_lt hs
    have:=kept_at (l:=l) hs hr
    rw [hm] at this
    exact reach_start (List.getElem?_eq_some_iff.1 this).1
  · obtain ⟨h3,h4⟩:=to_lt h ht
    exact reach_more hP (kept_reach h hs hP n k (by omega) h4 hk) (kept_to h hk hr ht)
end
theorem pick_all {α:Type} (l:List α) (p:Nat→Bool) (hp:∀ i,i < l.length→p i=true):pick l (selP l.length p)=l:=by
 have hs:∀ n,n≤l.length→(selP n p).length=n:=by
  intro n
  induction n with
  | zero=>intro _;rfl
  | succ n ih=>intro h;rw [sel_succ,hp n (by omega)];simp [ih (by omega)]
 apply List.ext_getElem?
 intro k
 by_cases hk:k < l.length
 · have:=pick_at (l:=l) (posn p k) (k:Int) (sel_low (Nat.le_refl _)) (sel_here (hp k hk) _ hk)
   rw [show posn p k=k from hs k (by omega)] at this
   exact this
 · have h1:(pick l (selP l.length p)).length=l.length:=by rw [pick_len (sel_low (Nat.le_refl _)),hs _ (Nat.le_refl _)]
   rw [List.getElem?_eq_none (l:=l) (by omega),List.getElem?_eq_none (by omega)]
section
variable {d:DefD}
theorem reach_closed (hf:Fine d.msgs):∀ k i,reachB d.msgs (startI d) k=true→toB d.msgs k i=true→reachB d.msgs (startI d) i=true:=fun _ _ h1 h2=>reach_more hf h1 h2
theorem start_at (hc:(checkP d).2.2=0):∃ m,d.msgs[startI d]?=some m∧m.name=d.start:=by
 obtain ⟨h1,h2,_⟩:=start_spec hc
 obtain ⟨m,hm⟩:=getElem?_lt h1
 refine ⟨m,hm,?_⟩
 have hi:0≤idx (fun m:MsgD=>decide (m.name=d.start)) d.msgs:=by
  rw [← idx_neg] at h2
  simpa using h2
 obtain ⟨x,hx,hn⟩:=isD.1 (check_fine hc).2.2.2
 obtain ⟨j,hj⟩:=List.getElem?_of_mem hx
 have:idx (fun m:MsgD=>decide (m.name=d.start)) d.msgs=j:=idx_here hj (by simpa using hn) fun q y hq hy=>by
  by_cases he:y.name=d.start
  · have:=names_apart (check_fine hc).2.2.1 hy hj (he.trans hn.symm);omega
  · simpa using he
 have hs:startI d=j:=by unfold startI;rw [this];rfl
 rw [hs,hj] at hm
 injection hm with hm
 exact hm ▸ hn
theorem prune_valid (hc:(checkP d).2.2=0):(checkP (pruneP d)).2.2=0∧(∀ i,i < (pruneP d).msgs.length→reachB (pruneP d).msgs (startI (pruneP d)) i=true):=by
 obtain ⟨h1,h2,hf,h4⟩:=check_fine hc
 obtain ⟨hs,_,_⟩:=start_spec hc
 obtain ⟨m,hm,hn⟩:=start_at hc
 have hrs:reachB d.msgs (startI d) (startI d)=true:=reach_start hs
 obtain ⟨p1,p2,p3⟩:=prune_fine hf (reach_closed hf) d.msgs.length (Nat.le_refl _)
 have hP:pruneP d=⟨d.name,pick d.msgs (selP d.msgs.length (reachB d.msgs (startI d))),d.start⟩:=if_pos hc
 have hat:=kept_at (l:=d.msgs) hs hrs
 rw [hm] at hat
 have hlen:(pick d.msgs (selP d.msgs.length (reachB d.msgs (startI d)))).length≤d.msgs.length:=by
  rw [pick_len (sel_low (Nat.le_refl _))]
  exact sel_len _ _
 have hpos:=(List.getElem?_eq_some_iff.1 hat).1
 rw [hP]
 refine ⟨fine_check h1 ⟨?_,?_⟩ p1 (isD.2 ⟨m,List.mem_of_getElem? hat,hn⟩),fun i hi=>?_⟩
 · show 1≤(pick d.msgs (selP d.msgs.length (reachB d.msgs (startI d)))).length
   omega
 · show (pick d.msgs (selP d.msgs.length (reachB d.msgs (startI d)))).length≤60
   omega
 · have hsi:startI ⟨d.name,pick d.msgs (selP d.msgs.length (reachB d.msgs (startI d))),d.start⟩=posn (reachB d.msgs (startI d)) (startI d):=by
    have:=kept_idx hf hm hrs
    rw [hn] at this
    unfold startI
    unfold startI at this
    simp only at this ⊢
    rw [this]
    rfl
   rw [hsi]
   obtain ⟨x,hx⟩:=getElem?_lt hi
   obtain ⟨z,h5,h6⟩:=pick_get i x (sel_low (Nat.le_refl _)) hx
   obtain ⟨q,h7,h8,rfl⟩:=mem_sel.1 (List.mem_of_getElem? h5)
   have:=sel_inj h5 (sel_here h8 _ h7)
   subst this
   exact kept_reach hf hs p1 _ _ (Nat.le_refl _) h7 h8
theorem prune_again (hc:(checkP d).2.2=0):pruneP (pruneP d)=pruneP d∧chosenP (pruneP d) false=[]:=by
 obtain ⟨h1,h2⟩:=prune_valid hc
 constructor
 · rw [show pruneP (pruneP d)=_ from if_pos h1]
   unfold reachP
   rw [pick_all _ _ h2]
 · rw [show chosenP (pruneP d) false=_ from if_pos h1]
   apply List.eq_nil_iff_forall_not_mem.2
   intro x hx
   obtain ⟨i,h3,h4,_⟩:=mem_sel.1 hx
   rw [h2 i h3] at h4
   cases h4
theorem prune_gone (hc:(checkP d).2.2=0) {i:Nat} {m:MsgD} (hi:d.msgs[i]?=some m) (hr:reachB d.msgs (startI d) i=false):((pruneP d).msgs.any fun x=>decide (x.name=m.name))=false:=by
 rw [Bool.eq_false_iff]
 intro h
 obtain ⟨x,hx,hn⟩:=List.any_eq_true.1 h
 rw [show pruneP d=_ from if_pos hc] at hx
 obtain ⟨z,h1,h2⟩:=List.mem_filterMap.1 hx
 obtain ⟨q,h3,h4,rfl⟩:=mem_sel.1 h1
 have:=names_apart (check_fine hc).2.2.1 h2 hi (by simpa using hn)
 have:q=i:=by omega
 subst this
 rw [hr] at h4
 cases h4
end
section
variable {l:List MsgD}
theorem to_names (h:Fine l) {k i:Nat} (ht:toB l k i=true):∃ m m',l[k]?=some m∧l[i]?=some m'∧m'.name∈refsM m:=by
 obtain ⟨h1,h2⟩:=to_lt h ht
 obtain ⟨m,hm⟩:=getElem?_lt h2
 unfold toB at ht
 rw [hm] at ht
 obtain ⟨s,hs,he⟩:=List.any_eq_true.1 ht
 obtain ⟨j,m',_,h4,h5,h6,_⟩:=fine_idx h hm hs
 rw [h6] at he
 have:j=i:=by simp at he;omega
 subst this
 exact ⟨m,m',hm,h4,by rw [h5];exact hs⟩
def depB (l:List MsgD) (k:Nat):Int:=match l[k]? with
 | some m=>depthM (depsOf (l.take k)) m
 | none=>0
theorem dep_low (h:Fine l) {k:Nat} (hk:k < l.length):0≤depB l k∧depB l k < 16:=by
 obtain ⟨m,hm⟩:=getElem?_lt hk
 unfold depB
 rw [hm]
 exact ⟨(le_foldl _ _ _).1,(next_parts (h.next hm)).2.2.2.2⟩
theorem dep_falls (h:Fine l) {k i:Nat} (ht:toB l k i=true):depB l i+1≤depB l k:=by
 obtain ⟨m,m',h1,h2,h3⟩:=to_names h ht
 unfold depB
 rw [h1,h2]
 obtain ⟨_,_,_,_,_,_,v,h4,h5⟩:=h.refs h1 h3
 rw [h.depth h2] at h4
 injection h4 with h4
 simp only
 omega
theorem path_dep (h:Fine l) {to s:Nat} (hs:s < l.length) (hf:dN to l s < 1000):∀ j:Nat,(j:Int)≤dN to l s→depB l (pk to l s j)≤15 - j
 | 0,_=>by have:=(dep_low h (k:=pk to l s 0) (pk_lt h hs hf 0 (by simpa using dN_pos h s))).2;simp;omega
 | j+1,hj=>by
  have ih:=path_dep h hs hf j (by omega)
  have:=dep_falls h (pk_to h hf (j:=j) (by omega))
  omega
theorem path_len (h:Fine l) {to s:Nat} (hs:s < l.length) (hf:dN to l s < 1000):1≤(pathP to l s).length∧(pathP to l s).length≤16:=by
 unfold pathP
 rw [pre_len]
 have h0:=dN_pos (to:=to) h s
 have:=path_dep h (to:=to) hs hf (dN to l s).toNat (by omega)
 have:=(dep_low h (pk_lt h hs hf (dN to l s).toNat (by omega))).1
 omega
theorem path_get {to s j:Nat} (hj:j < (pathP to l s).length):(pathP to l s)[j]?=some (pk to l s j:Int):=by
 unfold pathP at hj ⊢
 rw [pre_len] at hj
 unfold preP
 rw [List.getElem?_map,List.getElem?_range hj]
 rfl
theorem path_end (h:Fine l) {to s:Nat} (hf:dN to l s < 1000):pk to l s ((pathP to l s).length - 1)=to:=by
 have h0:=dN_pos (to:=to) h s
 have:=pk_dist h (to:=to) hf (dN to l s).toNat (by omega)
 unfold pathP
 rw [pre_len,Nat.add_sub_cancel]
 apply (dN_zero h).1
 omega
theorem path_step (h:Fine l) {to s j:Nat} (hf:dN to l s < 1000) (hj:j+1 < (pathP to l s).length):toB l (pk to l s j) (pk to l s (j+1))=true:=by
 refine pk_to h hf ?_
 unfold pathP at hj
 rw [pre_len] at hj
 have h0:=dN_pos (to:=to) h s
 omega
theorem path_in (h:Fine l) {to s j:Nat} (hs:s < l.length) (hf:dN to l s < 1000) (hj:j < (pathP to l s).length):pk to l s j < l.length:=by
 refine pk_lt h hs hf j ?_
 unfold pathP at hj
 rw [pre_len] at hj
 have h0:=dN_pos (to:=to) h s
 omega
end
def sumN (f:Nat→Int):Nat→Int
 | 0=>0
 | n+1=>sumN f n+f n
theorem sumN_congr {f g:Nat→Int}:∀ {n:Nat},(∀ i,i < n→f i=g i)→sumN f n=sumN g n
 | 0,_=>rfl
 | n+1,h=>by unfold sumN;rw [sumN_congr fun i hi=>h i (by omega),h n (by omega)]
theorem sumN_add (f g:Nat→Int):∀ n,sumN (fun i=>f i+g i) n=sumN f n+sumN g n
 | 0=>rfl
 | n+1=>by unfold sumN;rw [sumN_add f g n];omega
theorem sumN_sub (f g:Nat→Int):∀ n,sumN (fun i=>f i - g i) n=sumN f n - sumN g n
 | 0=>rfl
 | n+1=>by unfold sumN;rw [sumN_sub f g n];omega
theorem sumN_zero:∀ n,sumN (fun _=>0) n=0
 | 0=>rfl
 | n+1=>by unfold sumN;rw [sumN_zero n];rfl
theorem sumN_swap (f:Nat→Nat→Int) (m:Nat):∀ n,sumN (fun i=>sumN (f i) m) n=sumN (fun k=>sumN (fun i=>f i k) n) m
 | 0=>by simp only [sumN];exact (sumN_zero m).symm
 | n+1=>by simp only [sumN];rw [sumN_swap f m n,← sumN_add]
theorem sumN_abs {f:Nat→Int} {b:Int} {N:Nat} (h:∀ i,i < N → -b≤f i∧f i≤b):∀ n:Nat,n≤N → -(b*n)≤sumN f n∧sumN f n≤b*n
 | 0,_=>by simp [sumN]
 | n+1,hn=>by
  have ih:=sumN_abs h n (by omega)
  have:=h n (by omega)
  simp only [sumN]
  rw [Int.natCast_add,Int.mul_add,Int.natCast_one,Int.mul_one]
  omega
theorem sel_sum (p:Nat→Bool):∀ n,((selP n p).length:Int)=sumN (fun i=>if p i then 1 else 0) n
 | 0=>rfl
 | n+1=>by
  rw [sel_succ,List.length_append]
  unfold sumN
  rw [← sel_sum p n]
  cases p n<;>simp
theorem sel_wide (p:Nat→Bool) {m:Nat}:∀ {n:Nat},m≤n→(selP n fun i=>decide (i < m)&&p i)=selP m p
 | 0,h=>by
  have:m=0:=by omega
  subst this
  rfl
 | n+1,h=>by
  by_cases hm:m=n+1
  · subst hm
    exact sel_congr fun i hi=>by simp [hi]
  · rw [sel_succ,sel_wide p (by omega)]
    have:¬ n < m:=by omega
    simp [this]
theorem mem_uses {l:List FieldD} {k i:Nat}:(i:Int)∈usesP l k↔i < k∧usesB l k i=true:=by
 unfold usesP
 rw [mem_sel]
 constructor
 · rintro ⟨j,h1,h2,h3⟩
   have:i=j:=by omega
   subst this
   exact ⟨h1,h2⟩
 · rintro ⟨h1,h2⟩
   exact ⟨i,h1,h2,rfl⟩
theorem contains_uses {l:List FieldD} {k i:Nat}:(usesP l k).contains (i:Int)=(decide (i < k)&&usesB l k i):=by
 rw [Bool.eq_iff_iff,List.contains_iff_mem,mem_uses]
 simp
theorem mem_users {l:List FieldD} {k i:Nat}:(i:Int)∈usersP l k↔i < l.length∧(k:Int)∈usesP l i:=by
 unfold usersP
 rw [mem_sel]
 constructor
 · rintro ⟨j,h1,h2,h3⟩
   have:i=j:=by omega
   subst this
   exact ⟨h1,List.contains_iff_mem.1 h2⟩
 · rintro ⟨h1,h2⟩
   exact ⟨i,h1,List.contains_iff_mem.2 h2,rfl⟩
def diffU (l:List FieldD) (i:Nat):Int:=((usesP l i).length:Int) - ((usersP l i).length:Int)
theorem uses_users (l:List FieldD):sumN (diffU l) l.length=0:=by
 have h1:∀ i,i < l.length→diffU l i=(fun i=>sumN (fun k=>if decide (k < i)&&usesB l i k then 1 else 0) l.length - sumN (fun k=>if decide (i < k)&&usesB l k i then 1 else 0) l.length) i:=by
  intro i hi
  unfold diffU usersP usesP
  rw [← sel_wide _ (show i≤l.length by omega),sel_sum,sel_sum]
  congr 1
  exact sumN_congr fun k _=>by rw [show selP k (usesB l k)=usesP l k from rfl,contains_uses]
 rw [sumN_congr h1,sumN_sub,sumN_swap]
 exact Int.sub_self _
def n3c1 (t2 t17 t166 t173:Value) (next12:KW) (ds:List Deferred) (R:RT) (w:World):Prop :=
 pickK t166 (.bool true) t173 fun t174 =>
 condP t174 (
 outX Pg ds [(none,(.bool false))] R w) (
 opV Pg (binS .add 3 true t17 (.int .i64 1)) (outQ Pg ds [(none,t2)] R) w fun t136 w =>
 next12 t2 t136 w)
def n3c2 (t2 t12 t17 t110 t162 t165:Value) (next12:KW) (ds:List Deferred) (R:RT) (w:World):Prop :=
 pickK t162 (.bool true) t165 fun t166 =>
 joinK (fun (t173:Value) (w:World) =>
 n3c1 t2 t17 t166 t173 next12 ds R w) fun K17 =>
 guardP t166 false (
 opV Pg (Instr.indexAt 30 t110 t17) (outQ Pg ds [(none,t2)] R) w fun t170 w =>
 opV Pg (Instr.loadAt 3 t170) (outQ Pg ds [(none,t2)] R) w fun t171 w =>
 opV Pg (binS .geq 3 false t171 t12) (outQ Pg ds [(none,t2)] R) w fun t173 w =>
 K17 t173 w) (
 K17 undef w)
def n3c3 (t2 t12 t17 t20 t110 t145:Value) (next12:KW) (ds:List Deferred) (R:RT) (w:World):Prop :=
 opV Pg (binS .neq 31 true t145 (.int .i64 0)) (outQ Pg ds [(none,t2)] R) w fun t162 w =>
 joinK (fun (t165:Value) (w:World) =>
 n3c2 t2 t12 t17 t110 t162 t165 next12 ds R w) fun K16 =>
 guardP t162 false (
 opV Pg (Op.unary .not t20) (outQ Pg ds [(none,t2)] R) w fun t165 w =>
 K16 t165 w) (
 K16 undef w)
def n3c4 (t2 t12 t20 t21 t144:Value) (next14:KW) (ds:List Deferred) (R:RT) (w:World):Prop :=
 joinK (fun (t159:Value) (w:World) =>
 pickK t20 (.bool true) t159 fun t160 =>
 opV Pg (binS .add 3 true t21 (.int .i64 1)) (outQ Pg ds [(none,t2)] R) w fun t151 w =>
 next14 t160 t151 w) fun K15 =>
 guardP t20 false (
 opV Pg (Instr.indexAt 30 t144 t21) (outQ Pg ds [(none,t2)] R) w fun t156 w =>
 opV Pg (Instr.loadAt 3 t156) (outQ Pg ds [(none,t2)] R) w fun t157 w =>
 opV Pg (binS .eql 3 false t157 t12) (outQ Pg ds [(none,t2)] R) w fun t159 w =>
 K15 t159 w) (
 K15 undef w)
def n3c5 (t2 t12 t17 t20 t21 t110 t144 t145:Value) (next12:KW) (next14:KW) (ds:List Deferred) (R:RT) (w:World):Prop :=
 opV Pg (Builtin.len_ #[30] 3 #[t144]) (outQ Pg ds [(none,t2)] R) w fun t148 w =>
 opV Pg (binS .lss 3 false t21 t148) (outQ Pg ds [(none,t2)] R) w fun t149 w =>
 condP t149 (
 n3c4 t2 t12 t20 t21 t144 next14 ds R w) (
 n3c3 t2 t12 t17 t20 t110 t145 next12 ds R w)
def n3c6 (t2 t12 t17 t110 t143:Value) (C13:World→Prop) (next12:KW) (ds:List Deferred) (R:RT) (w:World):Prop :=
 qV Pg C13 (Instr.extract t143 0) fun t144 =>
 qV Pg C13 (Instr.extract t143 1) fun t145 =>
 loop2 (fun t20 t21 w next14 =>
 n3c5 t2 t12 t17 t20 t21 t110 t144 t145 next12 next14 ds R w) (.bool false) (.int .i64 0) w
def n3c7 (t2 t10 t12 t17 t110:Value) (C13:World→Prop) (next12:KW) (ds:List Deferred) (R:RT) (w:World):Prop :=
 qV Pg C13 (Instr.loadAt 24 t10) fun t138 =>
 qV Pg C13 (Instr.indexAt 30 t110 t17) fun t141 =>
 qV Pg C13 (Instr.loadAt 3 t141) fun t142 =>
 callK Pg 13 #[t138,t142] (outQ Pg ds [(none,t2)] R) w fun t143 w =>
 C13 w∧(
 n3c6 t2 t12 t17 t110 t143 C13 next12 ds R w)
def n3c8 (t2 t10 t12 t17 t110 t130:Value) (next10:Value→Value→Value→World→Prop) (next12:KW) (ds:List Deferred) (R:RT) (w:World):Prop :=
 opV Pg (Builtin.len_ #[30] 3 #[t110]) (outQ Pg ds [(none,t2)] R) w fun t133 w =>
 opV Pg (binS .lss 3 false t17 t133) (outQ Pg ds [(none,t2)] R) w fun t134 w =>
 condP t134 (
 drawK w fun C13 w =>
 n3c7 t2 t10 t12 t17 t110 C13 next12 ds R w) (
 opV Pg (binS .add 3 true t12 (.int .i64 1)) (outQ Pg ds [(none,t2)] R) w fun t105 w =>
 next10 t2 t130 t105 w)
def n3c9 (t2 t10 t11 t12 t110 t116:Value) (next10:Value→Value→Value→World→Prop) (ds:List Deferred) (R:RT) (w:World):Prop :=
 opV Pg (Builtin.len_ #[30] 3 #[t110]) (outQ Pg ds [(none,t2)] R) w fun t126 w =>
 opV Pg (binS .add 3 false t11 t126) (outQ Pg ds [(none,t2)] R) w fun t127 w =>
 opV Pg (Builtin.len_ #[30] 3 #[t116]) (outQ Pg ds [(none,t2)] R) w fun t129 w =>
 opV Pg (binS .sub 3 false t127 t129) (outQ Pg ds [(none,t2)] R) w fun t130 w =>
 loop2 (fun t2 t17 w next12 =>
 n3c8 t2 t10 t12 t17 t110 t130 next10 next12 ds R w) t2 (.int .i64 0) w
def n3c10 (t2 t10 t11 t12 t110 t111 t115:Value) (next10:Value→Value→Value→World→Prop) (ds:List Deferred) (R:RT) (w:World):Prop :=
 opV Pg (Instr.extract t115 0) (outQ Pg ds [(none,t2)] R) w fun t116 w =>
 opV Pg (Instr.extract t115 1) (outQ Pg ds [(none,t2)] R) w fun t117 w =>
 opV Pg (binS .neq 31 true t111 (.int .i64 0)) (outQ Pg ds [(none,t2)] R) w fun t119 w =>
 joinK (fun (t122:Value) (w:World) =>
 pickK t119 (.bool true) t122 fun t123 =>
 condP t123 (
 outX Pg ds [(none,(.bool false))] R w) (
 n3c9 t2 t10 t11 t12 t110 t116 next10 ds R w)) fun K11 =>
 guardP t119 false (
 opV Pg (binS .neq 31 true t117 (.int .i64 0)) (outQ Pg ds [(none,t2)] R) w fun t122 w =>
 K11 t122 w) (
 K11 undef w)
def n3c11 (t2 t10 t11 t12 t109:Value) (next10:Value→Value→Value→World→Prop) (ds:List Deferred) (R:RT) (w:World):Prop :=
 opV Pg (Instr.extract t109 0) (outQ Pg ds [(none,t2)] R) w fun t110 w =>
 opV Pg (Instr.extract t109 1) (outQ Pg ds [(none,t2)] R) w fun t111 w =>
 opV Pg (Instr.loadAt 24 t10) (outQ Pg ds [(none,t2)] R) w fun t113 w =>
 callK Pg 13 #[t113,t12] (outQ Pg ds [(none,t2)] R) w fun t115 w =>
 n3c10 t2 t10 t11 t12 t110 t111 t115 next10 ds R w
def n3c12 (t2 t189:Value) (K9:List Deferred→Value→World→Prop) (ds:List Deferred) (R:RT) (w:World):Prop :=
 opV Pg (Instr.extract t189 0) (outQ Pg ds [(none,t2)] R) w fun t190 w =>
 opV Pg (Instr.extract t189 1) (outQ Pg ds [(none,t2)] R) w fun t191 w =>
 condP t191 (
 outX Pg ds [(none,(.bool false))] R w) (
 K9 ds t2 w)
def n3c13 (t2 t26 t225 t234:Value) (next21:KW) (ds:List Deferred) (R:RT) (w:World):Prop :=
 pickK t225 (.bool true) t234 fun t235 =>
 condP t235 (
 outX Pg ds [(none,(.bool false))] R w) (
 opV Pg (binS .add 3 true t26 (.int .i64 1)) (outQ Pg ds [(none,t2)] R) w fun t220 w =>
 next21 t2 t220 w)
def n3c14 (t1 t2 t22 t26:Value) (C22:World→Prop) (next21:KW) (ds:List Deferred) (R:RT) (w:World):Prop :=
 qV Pg C22 (Instr.loadAt 30 t22) fun t221 =>
 qV Pg C22 (Instr.indexAt 30 t221 t26) fun t223 =>
 qV Pg C22 (Instr.loadAt 3 t223) fun t224 =>
 qV Pg C22 (binS .lss 3 true t224 (.int .i64 0)) fun t225 =>
 joinK (fun (t234:Value) (w:World) =>
 n3c13 t2 t26 t225 t234 next21 ds R w) fun K23 =>
 guardP t225 false (
 qV Pg C22 (Instr.loadAt 30 t22) fun t227 =>
 qV Pg C22 (Instr.indexAt 30 t227 t26) fun t229 =>
 qV Pg C22 (Instr.loadAt 3 t229) fun t230 =>
 qV Pg C22 (Instr.fieldAt 28 t1 1) fun t231 =>
 qV Pg C22 (Instr.loadAt 26 t231) fun t232 =>
 qV Pg C22 (Builtin.len_ #[26] 3 #[t232]) fun t233 =>
 qV Pg C22 (binS .geq 3 false t230 t233) fun t234 =>
 K23 t234 w) (
 K23 undef w)
def n3c15 (t1 t22 t27 t266:Value) (C28:World→Prop) (K29:KV) (R:RT) (w:World):Prop :=
 qV Pg C28 (Instr.fieldAt 28 t1 1) fun t270 =>
 qV Pg C28 (Instr.loadAt 26 t270) fun t271 =>
 qV Pg C28 (Instr.loadAt 30 t22) fun t272 =>
 qV Pg C28 (Instr.loadAt 3 t27) fun t273 =>
 qV Pg C28 (Instr.indexAt 30 t272 t273) fun t274 =>
 qV Pg C28 (Instr.loadAt 3 t274) fun t275 =>
 qV Pg C28 (Instr.indexAt 26 t271 t275) fun t276 =>
 qV Pg C28 (Instr.fieldAt 24 t276 0) fun t277 =>
 qV Pg C28 (Instr.loadAt 9 t277) fun t278 =>
 qV Pg C28 (binS .eql 9 false t266 t278) fun t279 =>
 K29 t279 w
def n3c16 (t1 t22 t27 t28 t266:Value) (C28:World→Prop) (Kr27:World→Prop) (Qr27:List PanicEntry→World→Prop) (R:RT) (w:World):Prop :=
 qV Pg C28 (Instr.loadAt 4 t28) fun t267 =>
 joinK (fun (t279:Value) (w:World) =>
 pickK t267 (.bool true) t279 fun t280 =>
 opU Pg (Instr.storeAt 4 t28 t280) Qr27 w fun w =>
 turnK w fun C30 w =>
 Kr27 w) fun K29 =>
 guardP t267 false (
 n3c15 t1 t22 t27 t266 C28 K29 R w) (
 K29 undef w)
def n3c17 (t2 t27:Value) (next25:List Deferred→Value→Value→World→Prop) (ds:List Deferred) (R:RT) (w:World):Prop :=
 opV Pg (Instr.loadAt 3 t27) (outQ Pg ds [(none,t2)] R) w fun t283 w =>
 opV Pg (Instr.alloc 3 true (.tuple #[])) (outQ Pg ds [(none,t2)] R) w fun t27 w =>
 opU Pg (Instr.storeAt 3 t27 t283) (outQ Pg ds [(none,t2)] R) w fun w =>
 opV Pg (Instr.loadAt 3 t27) (outQ Pg ds [(none,t2)] R) w fun t251 w =>
 opV Pg (binS .add 3 true t251 (.int .i64 1)) (outQ Pg ds [(none,t2)] R) w fun t252 w =>
 opU Pg (Instr.storeAt 3 t27 t252) (outQ Pg ds [(none,t2)] R) w fun w =>
 next25 ds t2 t27 w
def n3c18 (t2 t27 t28:Value) (next25:List Deferred→Value→Value→World→Prop) (ds:List Deferred) (R:RT) (w:World):Prop :=
 opV Pg (Instr.loadAt 4 t28) (outQ Pg ds [(none,t2)] R) w fun t281 w =>
 opV Pg (Op.unary .not t281) (outQ Pg ds [(none,t2)] R) w fun t282 w =>
 condP t282 (
 outX Pg ds [(none,(.bool false))] R w) (
 n3c17 t2 t27 next25 ds R w)
def n3c19 (t1 t2 t22 t27 t28 t262:Value) (next25:List Deferred→Value→Value→World→Prop) (ds:List Deferred) (R:RT) (w:World):Prop :=
 rangeN Pg t262 ds (fun l27 t266 w Kr27 Xr27 Qr27 =>
 busyK l27 w fun w =>
 drawK w fun C28 w =>
 n3c16 t1 t22 t27 t28 t266 C28 Kr27 Qr27 R w) (fun ch ds w=>outQ Pg ds [(none,t2)] R ch w) w (fun ds w =>
 n3c18 t2 t27 t28 next25 ds R w) []
def n3c20 (t1 t2 t22 t27 t28 t262:Value) (next25:List Deferred→Value→Value→World→Prop) (ds:List Deferred) (R:RT) (w:World):Prop :=
 opV Pg (binS .eql 66 true t262 .nilFunc) (outQ Pg ds [(none,t2)] R) w fun t264 w =>
 condP t264 (
 outX Pg ds [(none,(.bool false))] R w) (
 n3c19 t1 t2 t22 t27 t28 t262 next25 ds R w)
def n3c21 (t1 t2 t22 t27 t28:Value) (C26:World→Prop) (next25:List Deferred→Value→Value→World→Prop) (ds:List Deferred) (R:RT) (w:World):Prop :=
 qV Pg C26 (Instr.fieldAt 28 t1 1) fun t253 =>
 qV Pg C26 (Instr.loadAt 26 t253) fun t254 =>
 qV Pg C26 (Instr.loadAt 30 t22) fun t255 =>
 qV Pg C26 (Instr.loadAt 3 t27) fun t256 =>
 qV Pg C26 (binS .sub 3 true t256 (.int .i64 1)) fun t257 =>
 qV Pg C26 (Instr.indexAt 30 t255 t257) fun t258 =>
 qV Pg C26 (Instr.loadAt 3 t258) fun t259 =>
 qV Pg C26 (Instr.indexAt 26 t254 t259) fun t260 =>
 qV Pg C26 (Instr.loadAt 24 t260) fun t261 =>
 callK Pg 32 #[t261] (outQ Pg ds [(none,t2)] R) w fun t262 w =>
 C26 w∧(
 n3c20 t1 t2 t22 t27 t28 t262 next25 ds R w)
def n3c22 (t1 t2 t22 t27:Value) (next25:List Deferred→Value→Value→World→Prop) (ds:List Deferred) (R:RT) (w:World):Prop :=
 opV Pg (Instr.alloc 4 true (.tuple #[])) (outQ Pg ds [(none,t2)] R) w fun t28 w =>
 opU Pg (Instr.storeAt 4 t28 (.bool false)) (outQ Pg ds [(none,t2)] R) w fun w =>
 drawK w fun C26 w =>
 n3c21 t1 t2 t22 t27 t28 C26 next25 ds R w
def n3c23 (t1 t2 t22 t27:Value) (K9:List Deferred→Value→World→Prop) (next25:List Deferred→Value→Value→World→Prop) (ds:List Deferred) (R:RT) (w:World):Prop :=
 opV Pg (Instr.loadAt 3 t27) (outQ Pg ds [(none,t2)] R) w fun t247 w =>
 opV Pg (Instr.loadAt 30 t22) (outQ Pg ds [(none,t2)] R) w fun t248 w =>
 opV Pg (Builtin.len_ #[30] 3 #[t248]) (outQ Pg ds [(none,t2)] R) w fun t249 w =>
 opV Pg (binS .lss 3 false t247 t249) (outQ Pg ds [(none,t2)] R) w fun t250 w =>
 condP t250 (
 n3c22 t1 t2 t22 t27 next25 ds R w) (
 K9 ds t2 w)
def n3c24 (t1 t2 t22:Value) (K9:List Deferred→Value→World→Prop) (ds:List Deferred) (R:RT) (w:World):Prop :=
 opV Pg (Instr.alloc 3 true (.tuple #[])) (outQ Pg ds [(none,t2)] R) w fun t27 w =>
 opU Pg (Instr.storeAt 3 t27 (.int .i64 1)) (outQ Pg ds [(none,t2)] R) w fun w =>
 loopM2 (fun ds t2 t27 w next25 =>
 n3c23 t1 t2 t22 t27 K9 next25 ds R w) ds t2 t27 w
def n3c25 (t1 t2 t22:Value) (C24:World→Prop) (K9:List Deferred→Value→World→Prop) (ds:List Deferred) (R:RT) (w:World):Prop :=
 qV Pg C24 (Instr.fieldAt 28 t1 1) fun t236 =>
 qV Pg C24 (Instr.loadAt 26 t236) fun t237 =>
 qV Pg C24 (Instr.loadAt 30 t22) fun t238 =>
 qV Pg C24 (Instr.indexAt 30 t238 (.int .i64 0)) fun t239 =>
 qV Pg C24 (Instr.loadAt 3 t239) fun t240 =>
 qV Pg C24 (Instr.indexAt 26 t237 t240) fun t241 =>
 qV Pg C24 (Instr.fieldAt 24 t241 0) fun t242 =>
 qV Pg C24 (Instr.loadAt 9 t242) fun t243 =>
 qV Pg C24 (Instr.fieldAt 28 t1 2) fun t244 =>
 qV Pg C24 (Instr.loadAt 9 t244) fun t245 =>
 qV Pg C24 (binS .neq 9 false t243 t245) fun t246 =>
 condP t246 (
 outX Pg ds [(none,(.bool false))] R w) (
 n3c24 t1 t2 t22 K9 ds R w)
def n3c26 (t1 t2 t22 t26:Value) (K9:List Deferred→Value→World→Prop) (next21:KW) (ds:List Deferred) (R:RT) (w:World):Prop :=
 opV Pg (Instr.loadAt 30 t22) (outQ Pg ds [(none,t2)] R) w fun t216 w =>
 opV Pg (Builtin.len_ #[30] 3 #[t216]) (outQ Pg ds [(none,t2)] R) w fun t217 w =>
 opV Pg (binS .lss 3 false t26 t217) (outQ Pg ds [(none,t2)] R) w fun t218 w =>
 condP t218 (
 drawK w fun C22 w =>
 n3c14 t1 t2 t22 t26 C22 next21 ds R w) (
 drawK w fun C24 w =>
 n3c25 t1 t2 t22 C24 K9 ds R w)
def n3c27 (t1 t2 t22 t204 t213:Value) (K9:List Deferred→Value→World→Prop) (ds:List Deferred) (R:RT) (w:World):Prop :=
 pickK t204 (.bool true) t213 fun t214 =>
 condP t214 (
 outX Pg ds [(none,(.bool false))] R w) (
 loop2 (fun t2 t26 w next21 =>
 n3c26 t1 t2 t22 t26 K9 next21 ds R w) t2 (.int .i64 0) w)
def n3c28 (t2 t9 t22:Value) (K20:KV) (ds:List Deferred) (R:RT) (w:World):Prop :=
 opV Pg (Instr.loadAt 30 t22) (outQ Pg ds [(none,t2)] R) w fun t206 w =>
 opV Pg (Instr.loadAt 30 t22) (outQ Pg ds [(none,t2)] R) w fun t207 w =>
 opV Pg (Builtin.len_ #[30] 3 #[t207]) (outQ Pg ds [(none,t2)] R) w fun t208 w =>
 opV Pg (binS .sub 3 true t208 (.int .i64 1)) (outQ Pg ds [(none,t2)] R) w fun t209 w =>
 opV Pg (Instr.indexAt 30 t206 t209) (outQ Pg ds [(none,t2)] R) w fun t210 w =>
 opV Pg (Instr.loadAt 3 t210) (outQ Pg ds [(none,t2)] R) w fun t211 w =>
 opV Pg (binS .neq 3 false t211 t9) (outQ Pg ds [(none,t2)] R) w fun t213 w =>
 K20 t213 w
def n3c29 (t1 t2 t9 t22 t199 t203:Value) (K9:List Deferred→Value→World→Prop) (ds:List Deferred) (R:RT) (w:World):Prop :=
 pickK t199 (.bool true) t203 fun t204 =>
 joinK (fun (t213:Value) (w:World) =>
 n3c27 t1 t2 t22 t204 t213 K9 ds R w) fun K20 =>
 guardP t204 false (
 n3c28 t2 t9 t22 K20 ds R w) (
 K20 undef w)
def n3c30 (t1 t2 t9 t22 t194 t198:Value) (K9:List Deferred→Value→World→Prop) (ds:List Deferred) (R:RT) (w:World):Prop :=
 pickK t194 (.bool true) t198 fun t199 =>
 joinK (fun (t203:Value) (w:World) =>
 n3c29 t1 t2 t9 t22 t199 t203 K9 ds R w) fun K19 =>
 guardP t199 false (
 opV Pg (Instr.loadAt 30 t22) (outQ Pg ds [(none,t2)] R) w fun t201 w =>
 opV Pg (Builtin.len_ #[30] 3 #[t201]) (outQ Pg ds [(none,t2)] R) w fun t202 w =>
 opV Pg (binS .gtr 3 true t202 (.int .i64 16)) (outQ Pg ds [(none,t2)] R) w fun t203 w =>
 K19 t203 w) (
 K19 undef w)
def n3c31 (t2 t3 t10:Value) (K9:List Deferred→Value→World→Prop) (ds:List Deferred) (R:RT) (w:World):Prop :=
 opV Pg (Instr.loadAt 28 t3) (outQ Pg ds [(none,t2)] R) w fun t186 w =>
 opV Pg (Instr.fieldAt 24 t10 0) (outQ Pg ds [(none,t2)] R) w fun t187 w =>
 opV Pg (Instr.loadAt 9 t187) (outQ Pg ds [(none,t2)] R) w fun t188 w =>
 callK Pg 31 #[t186,t188] (outQ Pg ds [(none,t2)] R) w fun t189 w =>
 n3c12 t2 t189 K9 ds R w
def n3c32 (t1 t2 t9 t22 t182:Value) (K9:List Deferred→Value→World→Prop) (ds:List Deferred) (R:RT) (w:World):Prop :=
 opV Pg (binS .neq 31 true t182 (.int .i64 0)) (outQ Pg ds [(none,t2)] R) w fun t194 w =>
 joinK (fun (t198:Value) (w:World) =>
 n3c30 t1 t2 t9 t22 t194 t198 K9 ds R w) fun K18 =>
 guardP t194 false (
 opV Pg (Instr.loadAt 30 t22) (outQ Pg ds [(none,t2)] R) w fun t196 w =>
 opV Pg (Builtin.len_ #[30] 3 #[t196]) (outQ Pg ds [(none,t2)] R) w fun t197 w =>
 opV Pg (binS .lss 3 true t197 (.int .i64 1)) (outQ Pg ds [(none,t2)] R) w fun t198 w =>
 K18 t198 w) (
 K18 undef w)
def n3c33 (t1 t2 t3 t9 t10 t180:Value) (K9:List Deferred→Value→World→Prop) (ds:List Deferred) (R:RT) (w:World):Prop :=
 opV Pg (Instr.extract t180 0) (outQ Pg ds [(none,t2)] R) w fun t181 w =>
 opV Pg (Instr.extract t180 1) (outQ Pg ds [(none,t2)] R) w fun t182 w =>
 opV Pg (Instr.alloc 30 true (.tuple #[])) (outQ Pg ds [(none,t2)] R) w fun t22 w =>
 opU Pg (Instr.storeAt 30 t22 t181) (outQ Pg ds [(none,t2)] R) w fun w =>
 opV Pg (binS .eql 31 true t182 (.int .i64 9)) (outQ Pg ds [(none,t2)] R) w fun t184 w =>
 condP t184 (
 n3c31 t2 t3 t10 K9 ds R w) (
 n3c32 t1 t2 t9 t22 t182 K9 ds R w)
def n3c34 (t1 t2 t3 t9 t10:Value) (K9:List Deferred→Value→World→Prop) (ds:List Deferred) (R:RT) (w:World):Prop :=
 opV Pg (Instr.loadAt 28 t1) (outQ Pg ds [(none,t2)] R) w fun t178 w =>
 callK Pg 24 #[t178,t9] (outQ Pg ds [(none,t2)] R) w fun t180 w =>
 n3c33 t1 t2 t3 t9 t10 t180 K9 ds R w
def n3c35 (t1 t2 t3 t9 t10 t11:Value) (K9:List Deferred→Value→World→Prop) (ds:List Deferred) (R:RT) (w:World):Prop :=
 opV Pg (binS .neq 3 true t11 (.int .i64 0)) (outQ Pg ds [(none,t2)] R) w fun t176 w =>
 condP t176 (
 outX Pg ds [(none,(.bool false))] R w) (
 n3c34 t1 t2 t3 t9 t10 K9 ds R w)
def n3c36 (t2 t10 t11 t12:Value) (next10:Value→Value→Value→World→Prop) (ds:List Deferred) (R:RT) (w:World):Prop :=
 opV Pg (Instr.loadAt 24 t10) (outQ Pg ds [(none,t2)] R) w fun t107 w =>
 callK Pg 12 #[t107,t12] (outQ Pg ds [(none,t2)] R) w fun t109 w =>
 n3c11 t2 t10 t11 t12 t109 next10 ds R w
def n3c37 (t1 t2 t3 t9 t10 t11 t12:Value) (K9:List Deferred→Value→World→Prop) (next10:Value→Value→Value→World→Prop) (ds:List Deferred) (R:RT) (w:World):Prop :=
 opV Pg (Instr.fieldAt 24 t10 1) (outQ Pg ds [(none,t2)] R) w fun t100 w =>
 opV Pg (Instr.loadAt 22 t100) (outQ Pg ds [(none,t2)] R) w fun t101 w =>
 opV Pg (Builtin.len_ #[22] 3 #[t101]) (outQ Pg ds [(none,t2)] R) w fun t102 w =>
 opV Pg (binS .lss 3 false t12 t102) (outQ Pg ds [(none,t2)] R) w fun t103 w =>
 condP t103 (
 n3c36 t2 t10 t11 t12 next10 ds R w) (
 n3c35 t1 t2 t3 t9 t10 t11 K9 ds R w)
def n3c38 (t1 t2 t3 t9:Value) (next8:List Deferred→Value→Value→World→Prop) (ds:List Deferred) (R:RT) (w:World):Prop :=
 joinK (fun (ds:List Deferred) (t2:Value) (w:World) =>
 opV Pg (binS .add 3 true t9 (.int .i64 1)) (outQ Pg ds [(none,t2)] R) w fun t93 w =>
 next8 ds t2 t93 w) fun K9 =>
 opV Pg (Instr.fieldAt 28 t1 1) (outQ Pg ds [(none,t2)] R) w fun t94 w =>
 opV Pg (Instr.loadAt 26 t94) (outQ Pg ds [(none,t2)] R) w fun t95 w =>
 opV Pg (Instr.indexAt 26 t95 t9) (outQ Pg ds [(none,t2)] R) w fun t97 w =>
 opV Pg (Instr.loadAt 24 t97) (outQ Pg ds [(none,t2)] R) w fun t98 w =>
 opV Pg (Instr.alloc 24 true (.tuple #[])) (outQ Pg ds [(none,t2)] R) w fun t10 w =>
 opU Pg (Instr.storeAt 24 t10 t98) (outQ Pg ds [(none,t2)] R) w fun w =>
 loop3 (fun t2 t11 t12 w next10 =>
 n3c37 t1 t2 t3 t9 t10 t11 t12 K9 next10 ds R w) t2 (.int .i64 0) (.int .i64 0) w
def n3c39 (t1 t2 t3 t9:Value) (next8:List Deferred→Value→Value→World→Prop) (ds:List Deferred) (R:RT) (w:World):Prop :=
 opV Pg (Instr.fieldAt 28 t1 1) (outQ Pg ds [(none,t2)] R) w fun t88 w =>
 opV Pg (Instr.loadAt 26 t88) (outQ Pg ds [(none,t2)] R) w fun t89 w =>
 opV Pg (Builtin.len_ #[26] 3 #[t89]) (outQ Pg ds [(none,t2)] R) w fun t90 w =>
 opV Pg (binS .lss 3 false t9 t90) (outQ Pg ds [(none,t2)] R) w fun t91 w =>
 condP t91 (
 n3c38 t1 t2 t3 t9 next8 ds R w) (
 callK Pg 11 #[] (outQ Pg ds [(none,t2)] R) w fun t284 w =>
 outX Pg ds [(none,t284)] R w)
def n3c40 (t1 t3 t81 t85:Value) (ds:List Deferred) (R:RT) (w:World):Prop :=
 pickK t81 (.bool true) t85 fun t86 =>
 condP t86 (
 outX Pg ds [(none,(.bool false))] R w) (
 loopM2 (fun ds t2 t9 w next8 =>
 n3c39 t1 t2 t3 t9 next8 ds R w) ds (.bool false) (.int .i64 0) w)
def n3c41 (t1 t3 t59 t75 t80:Value) (ds:List Deferred) (R:RT) (w:World):Prop :=
 pickK t75 (.bool true) t80 fun t81 =>
 joinK (fun (t85:Value) (w:World) =>
 n3c40 t1 t3 t81 t85 ds R w) fun K7 =>
 guardP t81 false (
 opV Pg (Builtin.len_ #[30] 3 #[t59]) (outQ Pg ds [(none,(.bool false))] R) w fun t84 w =>
 opV Pg (binS .neq 3 true t84 (.int .i64 0)) (outQ Pg ds [(none,(.bool false))] R) w fun t85 w =>
 K7 t85 w) (
 K7 undef w)
def n3c42 (t1 t3 t5 t59 t70 t74:Value) (ds:List Deferred) (R:RT) (w:World):Prop :=
 pickK t70 (.bool true) t74 fun t75 =>
 joinK (fun (t80:Value) (w:World) =>
 n3c41 t1 t3 t59 t75 t80 ds R w) fun K6 =>
 guardP t75 false (
 opV Pg (Instr.loadAt 28 t3) (outQ Pg ds [(none,(.bool false))] R) w fun t77 w =>
 opV Pg (Instr.loadAt 28 t5) (outQ Pg ds [(none,(.bool false))] R) w fun t78 w =>
 callK Pg 30 #[t77,t78] (outQ Pg ds [(none,(.bool false))] R) w fun t79 w =>
 opV Pg (Op.unary .not t79) (outQ Pg ds [(none,(.bool false))] R) w fun t80 w =>
 K6 t80 w) (
 K6 undef w)
def n3c43 (t1 t3 t5 t59 t66 t69:Value) (ds:List Deferred) (R:RT) (w:World):Prop :=
 pickK t66 (.bool true) t69 fun t70 =>
 joinK (fun (t74:Value) (w:World) =>
 n3c42 t1 t3 t5 t59 t70 t74 ds R w) fun K5 =>
 guardP t70 false (
 opV Pg (Instr.loadAt 28 t3) (outQ Pg ds [(none,(.bool false))] R) w fun t72 w =>
 callK Pg 29 #[t72] (outQ Pg ds [(none,(.bool false))] R) w fun t73 w =>
 opV Pg (Op.unary .not t73) (outQ Pg ds [(none,(.bool false))] R) w fun t74 w =>
 K5 t74 w) (
 K5 undef w)
def n3c44 (t1 t3 t5 t59 t60 t62 t65:Value) (ds:List Deferred) (R:RT) (w:World):Prop :=
 pickK t62 (.bool true) t65 fun t66 =>
 joinK (fun (t69:Value) (w:World) =>
 n3c43 t1 t3 t5 t59 t66 t69 ds R w) fun K4 =>
 guardP t66 false (
 opV Pg (binS .neq 31 true t60 (.int .i64 0)) (outQ Pg ds [(none,(.bool false))] R) w fun t69 w =>
 K4 t69 w) (
 K4 undef w)
def n3c45 (t1 t3 t5 t50 t55 t58:Value) (ds:List Deferred) (R:RT) (w:World):Prop :=
 opV Pg (Instr.extract t58 0) (outQ Pg ds [(none,(.bool false))] R) w fun t59 w =>
 opV Pg (Instr.extract t58 1) (outQ Pg ds [(none,(.bool false))] R) w fun t60 w =>
 opV Pg (binS .neq 31 true t50 (.int .i64 0)) (outQ Pg ds [(none,(.bool false))] R) w fun t62 w =>
 joinK (fun (t65:Value) (w:World) =>
 n3c44 t1 t3 t5 t59 t60 t62 t65 ds R w) fun K3 =>
 guardP t62 false (
 opV Pg (binS .neq 31 true t55 (.int .i64 0)) (outQ Pg ds [(none,(.bool false))] R) w fun t65 w =>
 K3 t65 w) (
 K3 undef w)
def n3c46 (t1 t3 t50 t53:Value) (ds:List Deferred) (R:RT) (w:World):Prop :=
 opV Pg (Instr.extract t53 0) (outQ Pg ds [(none,(.bool false))] R) w fun t54 w =>
 opV Pg (Instr.extract t53 1) (outQ Pg ds [(none,(.bool false))] R) w fun t55 w =>
 opV Pg (Instr.alloc 28 true (.tuple #[])) (outQ Pg ds [(none,(.bool false))] R) w fun t5 w =>
 opU Pg (Instr.storeAt 28 t5 t54) (outQ Pg ds [(none,(.bool false))] R) w fun w =>
 opV Pg (Instr.loadAt 28 t3) (outQ Pg ds [(none,(.bool false))] R) w fun t57 w =>
 callK Pg 21 #[t57] (outQ Pg ds [(none,(.bool false))] R) w fun t58 w =>
 n3c45 t1 t3 t5 t50 t55 t58 ds R w
def n3c47 (t1 t48:Value) (ds:List Deferred) (R:RT) (w:World):Prop :=
 opV Pg (Instr.extract t48 0) (outQ Pg ds [(none,(.bool false))] R) w fun t49 w =>
 opV Pg (Instr.extract t48 1) (outQ Pg ds [(none,(.bool false))] R) w fun t50 w =>
 opV Pg (Instr.alloc 28 true (.tuple #[])) (outQ Pg ds [(none,(.bool false))] R) w fun t3 w =>
 opU Pg (Instr.storeAt 28 t3 t49) (outQ Pg ds [(none,(.bool false))] R) w fun w =>
 opV Pg (Instr.loadAt 28 t3) (outQ Pg ds [(none,(.bool false))] R) w fun t52 w =>
 callK Pg 26 #[t52] (outQ Pg ds [(none,(.bool false))] R) w fun t53 w =>
 n3c46 t1 t3 t50 t53 ds R w
def n3c48 (t1:Value) (ds:List Deferred) (R:RT) (w:World):Prop :=
 opV Pg (Instr.loadAt 28 t1) (outQ Pg ds [(none,(.bool false))] R) w fun t47 w =>
 callK Pg 26 #[t47] (outQ Pg ds [(none,(.bool false))] R) w fun t48 w =>
 n3c47 t1 t48 ds R w
def n3c49 (t1 t39 t43:Value) (ds:List Deferred) (R:RT) (w:World):Prop :=
 pickK t39 (.bool true) t43 fun t44 =>
 condP t44 (
 callK Pg 11 #[] (outQ Pg ds [(none,(.bool false))] R) w fun t45 w =>
 outX Pg ds [(none,t45)] R w) (
 n3c48 t1 ds R w)
def n3c50 (t1 t33 t38:Value) (ds:List Deferred) (R:RT) (w:World):Prop :=
 pickK t33 (.bool true) t38 fun t39 =>
 joinK (fun (t43:Value) (w:World) =>
 n3c49 t1 t39 t43 ds R w) fun K2 =>
 guardP t39 false (
 opV Pg (Instr.loadAt 28 t1) (outQ Pg ds [(none,(.bool false))] R) w fun t41 w =>
 callK Pg 29 #[t41] (outQ Pg ds [(none,(.bool false))] R) w fun t42 w =>
 opV Pg (Op.unary .not t42) (outQ Pg ds [(none,(.bool false))] R) w fun t43 w =>
 K2 t43 w) (
 K2 undef w)
def n3c51 (t1 t32:Value) (ds:List Deferred) (R:RT) (w:World):Prop :=
 opV Pg (Op.unary .not t32) (outQ Pg ds [(none,(.bool false))] R) w fun t33 w =>
 joinK (fun (t38:Value) (w:World) =>
 n3c50 t1 t33 t38 ds R w) fun K1 =>
 guardP t33 false (
 opV Pg (Instr.fieldAt 28 t1 1) (outQ Pg ds [(none,(.bool false))] R) w fun t35 w =>
 opV Pg (Instr.loadAt 26 t35) (outQ Pg ds [(none,(.bool false))] R) w fun t36 w =>
 opV Pg (Builtin.len_ #[26] 3 #[t36]) (outQ Pg ds [(none,(.bool false))] R) w fun t37 w =>
 opV Pg (binS .gtr 3 true t37 (.int .i64 10)) (outQ Pg ds [(none,(.bool false))] R) w fun t38 w =>
 K1 t38 w) (
 K1 undef w)
def n3 (t0:Value) (R:RT) (w:World):Prop :=
 (fun (ds:List Deferred) =>
 opV Pg (Instr.box 28 t0) (outQ Pg ds [(none,undef)] R) w fun t1 w =>
 opV Pg (Instr.loadAt 28 t1) (outQ Pg ds [(none,(.bool false))] R) w fun t31 w =>
 callK Pg 10 #[t31] (outQ Pg ds [(none,(.bool false))] R) w fun t32 w =>
 n3c51 t1 t32 ds R w) []
set_option maxHeartbeats 40000000 in
theorem n3s {t0:Value} {R:RT} {w:World} (h:n3 t0 R w):Calls Pg 8 #[t0] w R:=by
 refine yE Tryz.func8 ?_
 unfold n3 at h
 dsimp only at h
 refine zs<|zr<|yv h fun _ w h=>zm<|zn<|zk<|zs<|zs<|sim_regionG<|yG 4<|yv h fun _ w h=>yc h c10 fun _ w h=>yv h fun _ w h=>zm<|zn ?_
 refine yg1 4 3 false [35,36,37,38] 38 h (fun _ T hT h=>?_) fun σ w h=>?_
 · refine yv h fun _ w h=>yv h fun _ w h=>yx h fun _ w h=>yb h fun _ w h=>zn ?_
   exact zt hT h
 refine yG 2<|yp h fun _ h=>zm<|zn<|yg1 3 9 false [41,42,43] 43 h (fun _ T hT h=>?_) fun σ w h=>?_
 · refine yv h fun _ w h=>yc h c29 fun _ w h=>yv h fun _ w h=>zn ?_
   exact zt hT h
 refine yG 1<|yp h fun _ h=>zn<|sim_end<|zk<|yC h (fun h=>zs<|zr<|yc h c11 fun _ w h=>zm<|zn<|zk<|sim_ret<|sim_then_ret<|bodyM_ret rfl h) fun h=>sim_skip<|zk<|zs<|zr<|yv h fun _ w h=>yc h c26 fun _ w h=>zm<|yv h fun _ w h=>?_
 refine yv h fun _ w h=>yv h fun _ w h=>yu h fun w h=>zm<|zn<|zk<|zs<|zr<|yv h fun _ w h=>yc h c26 fun _ w h=>zm<|yv h fun _ w h=>yv h fun _ w h=>yv h fun _ w h=>yu h fun w h=>?_
 refine zm<|zn<|zk<|zs<|zr<|yv h fun _ w h=>yc h c21 fun _ w h=>zm<|yv h fun _ w h=>yv h fun _ w h=>zm<|zm<|zn<|zk<|zs ?_
 refine zs<|sim_regionG<|yG 3<|zm<|yb h fun _ w h=>zm<|zn<|yg1 2 2 false [64,65] 65 h (fun _ T hT h=>?_) fun σ w h=>?_
 · refine zm<|yb h fun _ w h=>zn ?_
   exact zt hT h
 refine yG 2<|yp h fun _ h=>zm<|zn<|yg1 2 6 false [68,69] 69 h (fun _ T hT h=>?_) fun σ w h=>?_
 · refine zm<|yb h fun _ w h=>zn ?_
   exact zt hT h
 refine yG 2<|yp h fun _ h=>zm<|zn<|yg1 3 10 false [72,73,74] 74 h (fun _ T hT h=>?_) fun σ w h=>?_
 · refine yv h fun _ w h=>yc h c29 fun _ w h=>yv h fun _ w h=>zn ?_
   exact zt hT h
 refine yG 2<|yp h fun _ h=>zm<|zn<|yg1 4 15 false [77,78,79,80] 80 h (fun _ T hT h=>?_) fun σ w h=>?_
 · refine yv h fun _ w h=>yv h fun _ w h=>yc h c30 fun _ w h=>yv h fun _ w h=>zn ?_
   exact zt hT h
 refine yG 2<|yp h fun _ h=>zm<|zn<|yg1 3 21 false [83,84,85] 85 h (fun _ T hT h=>?_) fun σ w h=>?_
 · refine zm<|yx h fun _ w h=>yb h fun _ w h=>zn ?_
   exact zt hT h
 refine yG 1<|yp h fun _ h=>zn<|sim_end<|zk<|yC h (fun h=>zs<|zr<|zm<|zn<|zk<|sim_ret<|sim_then_ret<|bodyM_ret rfl h) fun h=>sim_skip<|zk<|zs<|zs<|zr<|zm<|zn<|zk ?_
 refine sim_block<|yL2 [2,9,10,11,12,13,14,15,16,17,18,19,20,21,22,23,24,25,26,27,28,29,87,88,89,90,91,92,93,94,95,96,97,98,99,100,101,102,103,104,105,106,107,108,109,110,111,112,113,114,115,116,117,118,119,120,121,122,123,124,125,126,127,128,129,130,131,132,133,134,135,136,137,138,139,140,141,142,143,144,145,146,147,148,149,150,151,152,153,154,155,156,157,158,159,160,161,162,163,164,165,166,167,168,169,170,171,172,173,174,175,176,177,178,179,180,181,182,183,184,185,186,187,188,189,190,191,192,193,194,195,196,197,198,199,200,201,202,203,204,205,206,207,208,209,210,211,212,213,214,215,216,217,218,219,220,221,222,223,224,225,226,227,228,229,230,231,232,233,234,235,236,237,238,239,240,241,242,243,244,245,246,247,248,249,250,251,252,253,254,255,256,257,258,259,260,261,262,263,264,265,281,282,283] 2 9 h fun σ ds w next h=>zs<|zs<|zr<|zm<|yv h fun _ w h=>yv h fun _ w h=>yx h fun _ w h=>yb h fun _ w h=>zn<|zk<|yC h (fun h=>?_) fun h=>?_
 · refine sim_skip<|zk<|zs<|yM1 [2,10,11,12,13,14,15,16,17,18,19,20,21,22,23,24,25,26,27,28,29,94,95,96,97,98,99,100,101,102,103,104,105,106,107,108,109,110,111,112,113,114,115,116,117,118,119,120,121,122,123,124,125,126,127,128,129,130,131,132,133,134,135,136,137,138,139,140,141,142,143,144,145,146,147,148,149,150,151,152,153,154,155,156,157,158,159,160,161,162,163,164,165,166,167,168,169,170,171,172,173,174,175,176,177,178,179,180,181,182,183,184,185,186,187,188,189,190,191,192,193,194,195,196,197,198,199,200,201,202,203,204,205,206,207,208,209,210,211,212,213,214,215,216,217,218,219,220,221,222,223,224,225,226,227,228,229,230,231,232,233,234,235,236,237,238,239,240,241,242,243,244,245,246,247,248,249,250,251,252,253,254,255,256,257,258,259,260,261,262,263,264,265,281,282,283] 2 h (fun _ _ hkK9 h=>?_) fun σ ds w h=>?_
   · refine sim_block<|zs<|zr<|yv h fun _ w h=>yv h fun _ w h=>zm<|yv h fun _ w h=>yv h fun _ w h=>yv h fun _ w h=>yu h fun w h=>zn<|zk<|zs<|zr<|zm ?_
     refine zn<|zk<|zs<|zs<|zr<|zm<|zn<|zk<|sim_block<|yl3 [2,11,12,13,14,15,16,17,18,19,20,21,99,100,101,102,103,104,105,106,107,108,109,110,111,112,113,114,115,116,117,118,119,120,121,122,123,124,125,126,127,128,129,130,131,132,133,134,135,136,137,138,139,140,141,142,143,144,145,146,147,148,149,150,151,152,153,154,155,156,157,158,159,160,161,162,163,164,165,166,167,168,169,170,171,172,173,174] 2 11 12 h fun σ w next h=>zs<|zs<|zr<|zm<|yv h fun _ w h=>?_
     refine yv h fun _ w h=>yx h fun _ w h=>yb h fun _ w h=>zn<|zk<|yC h (fun h=>?_) fun h=>?_
     · refine sim_skip<|zk<|zs<|sim_block<|zs<|zr<|yv h fun _ w h=>zm<|yc h c12 fun _ w h=>zm<|yv h fun _ w h=>yv h fun _ w h=>zm<|zm<|zn ?_
       refine zk<|zs<|zr<|yv h fun _ w h=>zm<|yc h c13 fun _ w h=>zm<|yv h fun _ w h=>yv h fun _ w h=>zm<|zm<|zn<|zk<|zs<|zs ?_
       refine sim_regionG<|yG 3<|zm<|yb h fun _ w h=>zm<|zn<|yg1 2 2 false [121,122] 122 h (fun _ T hT h=>?_) fun σ w h=>?_
       · refine zm<|yb h fun _ w h=>zn ?_
         exact zt hT h
       refine yG 1<|yp h fun _ h=>zn<|sim_end<|zk<|yC h (fun h=>?_) fun h=>?_
       · refine zs<|zr<|zm<|zn<|zk<|sim_ret<|sim_then_ret<|sim_block_ret<|sim_then_ret<|sim_then_ret<|sim_block_ret<|sim_then_ret<|sim_block_ret<|sim_then_ret<|sim_then_ret ?_
         exact sim_then_ret<|sim_block_ret<|sim_then_ret<|bodyM_ret rfl h
       refine sim_skip<|zk<|zs<|zr<|zm<|zm<|yx h fun _ w h=>yb h fun _ w h=>zm<|yx h fun _ w h=>yb h fun _ w h=>zm<|zn<|zk<|zs ?_
       refine zr<|zm<|zn<|zk<|sim_block<|yl2 [2,17,18,19,20,21,131,132,133,134,135,136,137,138,139,140,141,142,143,144,145,146,147,148,149,150,151,152,153,154,155,156,157,158,159,160,161,162,163,164,165,166,167,168,169,170,171,172,173,174] 2 17 h fun σ w next h=>zs<|zs<|zr<|zm<|zm<|yx h fun _ w h=>yb h fun _ w h=>zn<|zk ?_
       refine yC h (fun h=>?_) fun h=>?_
       · refine sim_skip<|zk<|zs<|sim_block<|zs<|yh [18,19,137,138,139,140,141,142,143,144,145] h fun C hC h=>ye 0 hC h fun _ h=>?_
         refine yw 1 hC ?_
         refine yw 2 hC ?_
         refine ye 3 hC h fun _ h=>?_
         refine ye 4 hC h fun _ h=>?_
         refine yo 5 ?_
         refine yc h c13 fun _ w h=>zn ?_
         obtain ⟨hC,h⟩:=h
         refine ⟨hC,?_⟩
         refine yw 6 hC ?_
         refine ye 7 hC h fun _ h=>?_
         refine ye 8 hC h fun _ h=>?_
         refine yw 9 hC ?_
         refine yw 10 hC ?_
         refine yz<|zk<|zs<|zr<|zm<|zn<|zk<|zs<|zs<|zr<|zm<|zn<|zk<|sim_block<|yl2 [20,21,146,147,148,149,150,151,152,153,154,155,156,157,158,159,160] 20 21 h fun σ w next h=>?_
         refine zs<|zs<|zr<|zm<|zm<|yx h fun _ w h=>yb h fun _ w h=>zn<|zk<|yC h (fun h=>?_) fun h=>?_
         · refine sim_skip<|zk<|zs<|sim_block<|sim_regionG<|yG 2<|zm<|zm<|zn<|yg1 6 1 false [154,155,156,157,158,159] 159 h (fun _ T hT h=>?_) fun σ w h=>?_
           · refine zm<|zm<|yv h fun _ w h=>yv h fun _ w h=>zm<|yb h fun _ w h=>zn ?_
             exact zt hT h
           exact yG 2<|yp h fun _ h=>zm<|zn<|sim_end<|sim_block_normal<|zk<|zr<|zm<|yb h fun _ w h=>zm<|zn<|zk<|⟨rfl,h⟩
         refine sim_exit<|sim_then_exit<|sim_then_exit<|sim_block_hit<|zk<|zs<|sim_regionG<|yG 3<|zm<|yb h fun _ w h=>zm<|zn<|yg1 2 2 false [164,165] 165 h (fun _ T hT h=>?_) fun σ w h=>?_
         · refine zm<|yv h fun _ w h=>zn ?_
           exact zt hT h
         refine yG 2<|yp h fun _ h=>zm<|zn<|yg1 6 6 false [168,169,170,171,172,173] 173 h (fun _ T hT h=>?_) fun σ w h=>?_
         · refine zm<|zm<|yv h fun _ w h=>yv h fun _ w h=>zm<|yb h fun _ w h=>zn ?_
           exact zt hT h
         refine yG 1<|yp h fun _ h=>zn<|sim_end<|zk<|yC h (fun h=>?_) fun h=>?_
         · refine zs<|zr<|zm<|zn<|zk<|sim_ret<|sim_block_ret<|sim_then_ret<|sim_then_ret<|sim_block_ret<|sim_block_ret<|sim_then_ret<|sim_then_ret<|sim_block_ret<|sim_then_ret ?_
           exact sim_block_ret<|sim_then_ret<|sim_then_ret<|sim_then_ret<|sim_block_ret<|sim_then_ret<|bodyM_ret rfl h
         exact sim_skip<|sim_block_normal<|zk<|zr<|zm<|yb h fun _ w h=>zm<|zn<|zk<|⟨rfl,h⟩
       exact sim_exit<|sim_then_exit<|sim_then_exit<|sim_block_hit<|sim_block_normal<|zk<|zr<|zm<|yb h fun _ w h=>zm<|zn<|zk<|⟨rfl,h⟩
     refine sim_exit<|sim_then_exit<|sim_then_exit<|sim_block_hit<|zk<|zs<|zs<|zr<|zm<|yb h fun _ w h=>zn<|zk<|yC h (fun h=>zs<|zr<|zm<|zn<|zk<|sim_ret<|sim_then_ret<|sim_block_ret<|sim_then_ret<|sim_then_ret<|sim_then_ret<|sim_block_ret<|sim_then_ret<|bodyM_ret rfl h) fun h=>sim_skip ?_
     refine zk<|zs<|zr<|yv h fun _ w h=>zm<|yc h c24 fun _ w h=>zm<|yv h fun _ w h=>yv h fun _ w h=>yv h fun _ w h=>yu h fun w h=>zm<|zn<|zk<|zs ?_
     refine zs<|zr<|zm<|yb h fun _ w h=>zn<|zk<|yC h (fun h=>?_) fun h=>?_
     · refine zs<|zs<|zr<|yv h fun _ w h=>yv h fun _ w h=>yv h fun _ w h=>yc h c31 fun _ w h=>zm<|yv h fun _ w h=>yv h fun _ w h=>zm<|zm<|zn<|zk<|zs ?_
       refine zr<|zm<|zn<|zk<|yC h (fun h=>zs<|zr<|zm<|zn<|zk<|sim_ret<|sim_then_ret<|sim_then_ret<|sim_block_ret<|sim_then_ret<|sim_then_ret<|sim_then_ret<|sim_block_ret<|sim_then_ret<|bodyM_ret rfl h) fun h=>sim_skip<|zk<|sim_exit<|sim_then_exit<|sim_block_hit<|zk ?_
       exact yT hkK9 h
     refine sim_skip<|zk<|zs<|zs<|sim_regionG<|yG 3<|zm<|yb h fun _ w h=>zm<|zn<|yg1 3 2 false [196,197,198] 198 h (fun _ T hT h=>?_) fun σ w h=>?_
     · refine yv h fun _ w h=>yx h fun _ w h=>yb h fun _ w h=>zn ?_
       exact zt hT h
     refine yG 2<|yp h fun _ h=>zm<|zn<|yg1 3 7 false [201,202,203] 203 h (fun _ T hT h=>?_) fun σ w h=>?_
     · refine yv h fun _ w h=>yx h fun _ w h=>yb h fun _ w h=>zn ?_
       exact zt hT h
     refine yG 2<|yp h fun _ h=>zm<|zn<|yg1 8 12 false [206,207,208,209,210,211,212,213] 213 h (fun _ T hT h=>?_) fun σ w h=>?_
     · refine yv h fun _ w h=>yv h fun _ w h=>yx h fun _ w h=>yb h fun _ w h=>yv h fun _ w h=>yv h fun _ w h=>zm<|yb h fun _ w h=>zn ?_
       exact zt hT h
     refine yG 1<|yp h fun _ h=>zn<|sim_end<|zk<|yC h (fun h=>zs<|zr<|zm<|zn<|zk<|sim_ret<|sim_then_ret<|sim_block_ret<|sim_then_ret<|sim_then_ret<|sim_then_ret<|sim_block_ret<|sim_then_ret<|bodyM_ret rfl h) fun h=>sim_skip<|zk<|zs<|zs<|zr<|zm<|zn<|zk ?_
     refine sim_block<|yl2 [2,26,215,216,217,218,219,220,221,222,223,224,225,226,227,228,229,230,231,232,233,234,235] 2 26 h fun σ w next h=>zs<|zs<|zr<|zm<|yv h fun _ w h=>yx h fun _ w h=>yb h fun _ w h=>zn<|zk<|yC h (fun h=>?_) fun h=>?_
     · refine sim_skip<|zk<|zs<|sim_block<|zs<|yh [221,222,223,224,225,226,227,228,229,230,231,232,233,234,235] h fun C hC h=>ye 0 hC h fun _ h=>?_
       refine yw 1 hC ?_
       refine ye 2 hC h fun _ h=>?_
       refine ye 3 hC h fun _ h=>?_
       refine ye 4 hC h fun _ h=>?_
       refine yw 5 hC ?_
       refine yj1 1 [13,12,11,10,9,8,7,6,5,4,3,2,1,0] [227,228,229,230,231,232,233,234] 234 h (fun _ hT hb h=>?_) (fun _ hT hb h=>?_) fun σ w hC h=>?_
       · refine ye 6 hC h fun _ h=>?_
         refine yw 7 hC ?_
         refine ye 8 hC h fun _ h=>?_
         refine ye 9 hC h fun _ h=>?_
         refine ye 10 hC h fun _ h=>?_
         refine ye 11 hC h fun _ h=>?_
         refine ye 12 hC h fun _ h=>?_
         refine ye 13 hC h fun _ h=>?_
         exact yt hT hC h
       · refine yi 6 hC ?_
         refine yi 7 hC ?_
         refine yi 8 hC ?_
         refine yi 9 hC ?_
         refine yi 10 hC ?_
         refine yi 11 hC ?_
         refine yi 12 hC ?_
         refine yi 13 hC ?_
         exact yt hT hC h
       refine yP 14 hC h fun _ h=>?_
       refine yz<|zk<|yC h (fun h=>?_) fun h=>?_
       · refine zs<|zr<|zm<|zn<|zk<|sim_ret<|sim_block_ret<|sim_then_ret<|sim_then_ret<|sim_block_ret<|sim_then_ret<|sim_block_ret<|sim_then_ret<|sim_then_ret<|sim_then_ret ?_
         exact sim_block_ret<|sim_then_ret<|bodyM_ret rfl h
       exact sim_skip<|sim_block_normal<|zk<|zr<|zm<|yb h fun _ w h=>zm<|zn<|zk<|⟨rfl,h⟩
     refine sim_exit<|sim_then_exit<|sim_then_exit<|sim_block_hit<|zk<|zs<|zs<|yh [236,237,238,239,240,241,242,243,244,245,246] h fun C hC h=>ye 0 hC h fun _ h=>?_
     refine ye 1 hC h fun _ h=>?_
     refine ye 2 hC h fun _ h=>?_
     refine ye 3 hC h fun _ h=>?_
     refine ye 4 hC h fun _ h=>?_
     refine ye 5 hC h fun _ h=>?_
     refine ye 6 hC h fun _ h=>?_
     refine ye 7 hC h fun _ h=>?_
     refine ye 8 hC h fun _ h=>?_
     refine ye 9 hC h fun _ h=>?_
     refine ye 10 hC h fun _ h=>?_
     refine yz<|zk<|yC h (fun h=>zs<|zr<|zm<|zn<|zk<|sim_ret<|sim_then_ret<|sim_block_ret<|sim_then_ret<|sim_then_ret<|sim_then_ret<|sim_block_ret<|sim_then_ret<|bodyM_ret rfl h) fun h=>sim_skip<|zk<|zs<|zr<|yv h fun _ w h=>yu h fun w h=>zn<|zk<|sim_block<|yL2 [2,27,28,29,247,248,249,250,251,252,253,254,255,256,257,258,259,260,261,262,263,264,265,281,282,283] 2 27 h fun σ ds w next h=>zs ?_
     refine zs<|zr<|yv h fun _ w h=>yv h fun _ w h=>yx h fun _ w h=>yb h fun _ w h=>zn<|zk<|yC h (fun h=>?_) fun h=>?_
     · refine sim_skip<|zk<|zs<|sim_block<|zs<|zr<|yv h fun _ w h=>yu h fun w h=>zn<|zk<|zs<|yh [29,253,254,255,256,257,258,259,260,261,262] h fun C hC h=>ye 0 hC h fun _ h=>?_
       refine ye 1 hC h fun _ h=>?_
       refine ye 2 hC h fun _ h=>?_
       refine ye 3 hC h fun _ h=>?_
       refine ye 4 hC h fun _ h=>?_
       refine ye 5 hC h fun _ h=>?_
       refine ye 6 hC h fun _ h=>?_
       refine ye 7 hC h fun _ h=>?_
       refine ye 8 hC h fun _ h=>?_
       refine yo 9 ?_
       refine yc h c32 fun _ w h=>zn ?_
       obtain ⟨hC,h⟩:=h
       refine ⟨hC,?_⟩
       refine yw 10 hC ?_
       refine yz<|zk<|zs<|zs<|zr<|zm<|yb h fun _ w h=>zn<|zk<|yC h (fun h=>?_) fun h=>?_
       · refine zs<|zr<|zm<|zn<|zk<|sim_ret<|sim_then_ret<|sim_block_ret<|sim_then_ret<|sim_then_ret<|sim_block_ret<|sim_block_ret<|sim_then_ret<|sim_then_ret<|sim_then_ret ?_
         exact sim_block_ret<|sim_then_ret<|bodyM_ret rfl h
       refine sim_skip<|zk<|zs<|zs<|zr<|zm<|zn<|zk<|sim_block<|sim_range [] h rfl (fun l27 t266 w Kr27 Xr27 Qr27 h=>?_) (fun ds w h=>?_) (fun c ds w h=>?_) (fun ch ds w h=>outQ_of rfl h)
       · refine zr<|zm<|zn<|zk ?_
         obtain ⟨hr,h⟩:=h
         refine ⟨rfl,hr,fun w hb=>?_⟩
         have h:=h w hb
         refine sim_block<|yh [267,268,269,270,271,272,273,274,275,276,277,278,279,280] h fun C hC h=>ye 0 hC h fun _ h=>?_
         refine yw 1 hC ?_
         refine yj1 2 [12,11,10,9,8,7,6,5,4,3,2,1,0] [269,270,271,272,273,274,275,276,277,278,279] 279 h (fun _ hT hb h=>?_) (fun _ hT hb h=>?_) fun σ w hC h=>?_
         · refine yw 2 hC ?_
           refine ye 3 hC h fun _ h=>?_
           refine ye 4 hC h fun _ h=>?_
           refine ye 5 hC h fun _ h=>?_
           refine ye 6 hC h fun _ h=>?_
           refine ye 7 hC h fun _ h=>?_
           refine ye 8 hC h fun _ h=>?_
           refine ye 9 hC h fun _ h=>?_
           refine ye 10 hC h fun _ h=>?_
           refine ye 11 hC h fun _ h=>?_
           refine ye 12 hC h fun _ h=>?_
           exact yt hT hC h
         · refine yi 2 hC ?_
           refine yi 3 hC ?_
           refine yi 4 hC ?_
           refine yi 5 hC ?_
           refine yi 6 hC ?_
           refine yi 7 hC ?_
           refine yi 8 hC ?_
           refine yi 9 hC ?_
           refine yi 10 hC ?_
           refine yi 11 hC ?_
           refine yi 12 hC ?_
           exact yt hT hC h
         refine yP 13 hC h fun _ h=>?_
         refine yq 14 1 ?_
         refine yu h fun w h=>zn ?_
         obtain ⟨C30,hC,h⟩:=h
         refine ⟨C30,hC,?_⟩
         exact yz<|sim_block_normal<|⟨rfl,h⟩
       · refine sim_block_normal<|zk<|zs<|zr<|yv h fun _ w h=>yv h fun _ w h=>zn<|zk<|yC h (fun h=>?_) fun h=>?_
         · refine zs<|zr<|zm<|zn<|zk<|sim_ret<|sim_block_ret<|sim_then_ret<|sim_then_ret<|sim_block_ret<|sim_block_ret<|sim_then_ret<|sim_then_ret<|sim_then_ret<|sim_block_ret ?_
           exact sim_then_ret<|bodyM_ret rfl h
         refine sim_skip<|sim_block_normal<|zk<|zs<|zs<|zr<|yv h fun _ w h=>zn<|zk<|zr<|yv h fun _ w h=>yu h fun w h=>zn<|zk<|zr ?_
         exact yv h fun _ w h=>yb h fun _ w h=>yu h fun w h=>zn<|zk<|h
       exact h.elim
     refine sim_exit<|sim_then_exit<|sim_then_exit<|sim_block_hit<|sim_block_normal<|zk ?_
     exact yT hkK9 h
   exact zk<|zr<|zm<|yb h fun _ w h=>zm<|zn<|zk<|h
 exact sim_exit<|sim_then_exit<|sim_then_exit<|sim_block_hit<|zk<|zs<|zr<|yc h c11 fun _ w h=>zm<|zn<|zk<|sim_ret<|bodyM_ret rfl h
theorem contains_snoc {B:List Int} {j:Nat} {y:Int} (h:B[j]?=some y) (i:Int):(B.take (j+1)).contains i=((B.take j).contains i||y == i):=by
 rw [take_snoc h,Bool.eq_iff_iff,List.contains_iff_mem,Bool.or_eq_true,List.contains_iff_mem,List.mem_append,List.mem_singleton,beq_iff_eq]
 exact or_congr Iff.rfl eq_comm
theorem hol_back {w W:World} {i q:Nat} {L B:List Int} {Lv Bv:Value} {x:Int} {t2:Value} {ds:List Deferred} {R:RT} {next12:Value→Value→World→Prop} (e:Ext W w) (hL:SliceOf W 1 EInt Lv L) (hB:SliceOf W 1 EInt Bv B) (hq:L[q]?=some x) (hx:x < i) (hi:(i:Int)∈B) (hBl:B.length≤1048576) (hLl:L.length≤1048576) (hk:∀ w',Ext W w'→next12 t2 (.int .i64 ((q+1:Nat):Int)) w') :
 loop2 (fun t20 t21 w next14=>n3c5 t2 (.int .i64 (i:Int)) (.int .i64 (q:Int)) t20 t21 Lv Bv (.int .i64 0) next12 next14 ds R w) (.bool false) (.int .i64 0) w:=by
 obtain ⟨A,c,rfl,hlc,hcm,hlm,hel⟩:=SliceOf.open hB
 obtain ⟨A2,c2,rfl,hlc2,hcm2,hlm2,hel2⟩:=SliceOf.open hL
 have hql:=(List.getElem?_eq_some_iff.1 hq).1
 refine loop2_intro (fun a b w=>∃ j:Nat,a = .bool ((B.take j).contains (i:Int))∧b = .int .i64 j∧j≤B.length∧Ext W w) (fun _ b _=>B.length - (intOf b).toNat) ⟨0,rfl,rfl,by omega,e⟩ ?_
 rintro _ _ w1 ⟨j,rfl,rfl,hj,e1⟩
 have hwj:IntKind.i64.wrap ((j:Int)+1)=((j+1:Nat):Int):=by rw [wrap_ok (by omega) (by omega)];omega
 have hwq:IntKind.i64.wrap ((q:Int)+1)=((q+1:Nat):Int):=by rw [wrap_ok (by omega) (by omega)];omega
 unfold n3c5
 rcases drop_cases hj with ⟨y,hy,_,hlt,hdec⟩ | ⟨hke,_,hdec⟩
 · obtain ⟨b,o,cs,rfl,_,hA,rfl⟩:=hel j y hy
   have hfin:∀ w',Ext W w'→(∃ j':Nat,Value.bool ((B.take (j+1)).contains (i:Int)) = .bool ((B.take j').contains (i:Int))∧Value.int .i64 ((j+1:Nat):Int) = .int .i64 j'∧j'≤B.length∧Ext W w')∧B.length - (intOf (Value.int .i64 ((j+1:Nat):Int))).toNat < B.length - (intOf (Value.int .i64 (j:Int))).toNat:=fun w' e'=>⟨⟨j+1,rfl,rfl,by omega,e'⟩,meas_lt (kd := .i64) hlt⟩
   have hsn:=contains_snoc hy (i:Int)
   cases hc:(B.take j).contains (i:Int) with
   | true =>
    rw [hc,Bool.true_or] at hsn
    rw [hsn] at hfin
    simp (disch:=try exact DI) only [↓PR,QR,simprocAttr,hdec,↓n3c4,hwj]
    exact hfin _ e1
   | false =>
    rw [hc,Bool.false_or] at hsn
    rw [hsn] at hfin
    simp (disch:=try exact DI) only [↓PR,QR,simprocAttr,hdec,↓n3c4,hA.c1 e1,hwj]
    exact hfin _ e1
 · subst hke
   have hc:(B.take B.length).contains (i:Int)=true:=by rw [List.take_length];exact List.contains_iff_mem.2 hi
   obtain ⟨b,o,cs,rfl,_,hA,rfl⟩:=hel2 q x hq
   have hd:decide (x≥(i:Int))=false:=decide_eq_false (by omega)
   have hdq:decide ((q:Int) < (L.length:Int))=true:=decide_eq_true (by omega)
   rw [hc]
   simp (disch:=try exact DI) only [↓PR,QR,simprocAttr,hdec,↓n3c3,↓n3c2,↓n3c1,hA.c1 e1,hd,hwq]
   exact hk _ e1
theorem hol_uses {w W:World} {i p10:Nat} {m:MsgD} {fv:Value} {L:List Int} {Lv t2 n2:Value} {ds:List Deferred} {R:RT} {next10:Value→Value→Value→World→Prop} (e:Ext W w) (o10:W.heap[p10]?=some (.cells (msgCells m fv).toArray 24 (0,0))) (hF:FieldsOf W fv m.fields) (hb:fewM m) (hi:i < m.fields.length) (hLu:L=usesP m.fields i) (hL:SliceOf W 1 EInt Lv L) (hk:∀ w',Ext W w'→next10 t2 n2 (.int .i64 ((i+1:Nat):Int)) w') :
 loop2 (fun t2 t17 w next12=>n3c8 t2 (.pointer (some ⟨p10,0,none⟩)) (.int .i64 (i:Int)) t17 Lv n2 next10 next12 ds R w) t2 (.int .i64 0) w:=by
 have hL0:=hL
 have hfv:=SliceOf.oneCell hF
 obtain ⟨A,c,rfl,hlc,hcm,hlm,hel⟩:=SliceOf.open hL
 have hLl:L.length≤1048576:=by
  have:=sel_len i (usesB m.fields i)
  have:=hb.1
  rw [hLu]
  unfold usesP
  omega
 refine loop2_intro (fun a b w=>∃ q:Nat,a=t2∧b = .int .i64 q∧q≤L.length∧Ext W w) (fun _ b _=>L.length - (intOf b).toNat) ⟨0,rfl,rfl,by omega,e⟩ ?_
 rintro _ _ w1 ⟨q,rfl,rfl,hq,e1⟩
 unfold n3c8
 rcases drop_cases hq with ⟨x,hx,_,hlt,hdec⟩ | ⟨hke,_,hdec⟩
 · obtain ⟨b,o,cs,rfl,_,hA,rfl⟩:=hel q x hx
   simp (disch:=try exact DI) only [↓PR,QR,simprocAttr,hdec]
   refine drawK_introE e1 ?_
   have q1:=fun w' (e':Ext W w')=>(cells_of_heap (e'.obj o10)).1
   have eD:Ext W (drew w1):=e1.drew
   unfold n3c7
   simp (disch:=try exact DI) only [↓PR,QR,simprocAttr,(cells_of_heap o10).1,hA.c1 (Ext.refl W)]
   refine callK_ret (Users_ret _ _ m x ⟨_,rfl,hF.ext eD⟩ hb) ?_
   rintro _ w2 ⟨⟨u,rfl,hU⟩,e2⟩
   have e3:=eD.trans e2
   have hu1:=SliceOf.oneCell hU.ints
   have hxi:0≤x∧x < i:=uses_lt (l:=m.fields) (k:=i) (by rw [← hLu];exact List.mem_of_getElem? hx)
   have hxin:0≤x∧x < m.fields.length:=⟨hxi.1,by omega⟩
   rw [show errU m x=0 from if_pos hxin] 
   rw [show usersE m x=usersP m.fields x.toNat from if_pos hxin] at hU
   refine ⟨e3,?_⟩
   unfold n3c6
   simp (disch:=try exact DI) only [↓PR,QR,simprocAttr]
   have hmem:(i:Int)∈usersP m.fields x.toNat:=mem_users.2 ⟨hi,by rw [Int.toNat_of_nonneg hxi.1,← hLu];exact List.mem_of_getElem? hx⟩
   have hul:(usersP m.fields x.toNat).length≤1048576:=by
    have:=sel_len m.fields.length fun j=>(usesP m.fields j).contains (x.toNat:Int)
    have:=hb.1
    unfold usersP
    omega
   refine hol_back (W:=w2) (Ext.refl _) (hL0.ext keptInt e3) hU.ints hx hxi.2 hmem hul hLl fun w' e'=>?_
   exact ⟨⟨q+1,rfl,rfl,by omega,e3.trans e'⟩,meas_lt (kd := .i64) hlt⟩
 · subst hke
   have hwi:IntKind.i64.wrap ((i:Int)+1)=((i+1:Nat):Int):=by have:=hb.1;rw [wrap_ok (by omega) (by omega)];omega
   simp (disch:=try exact DI) only [↓PR,QR,simprocAttr,hdec,hwi]
   exact hk _ e1
theorem hol_fields {w W:World} {p10:Nat} {m:MsgD} {fv t1 t3 t9 t2:Value} {K9:List Deferred→Value→World→Prop} {ds:List Deferred} {R:RT} (e:Ext W w) (o10:W.heap[p10]?=some (.cells (msgCells m fv).toArray 24 (0,0))) (hF:FieldsOf W fv m.fields) (hb:fewM m) (hk:∀ w',Ext W w'→n3c34 t1 t2 t3 t9 (.pointer (some ⟨p10,0,none⟩)) K9 ds R w') :
 loop3 (fun t2 t11 t12 w next10=>n3c37 t1 t2 t3 t9 (.pointer (some ⟨p10,0,none⟩)) t11 t12 K9 next10 ds R w) t2 (.int .i64 0) (.int .i64 0) w:=by
 have hF0:=hF
 have hfv:=SliceOf.oneCell hF
 obtain ⟨A,c,rfl,hlc,hcm,hlm,hel⟩:=SliceOf.open hF
 have hml:=hb.1
 refine loop3_intro (fun a b g w=>∃ i:Nat,a=t2∧b = .int .i64 (sumN (diffU m.fields) i)∧g = .int .i64 i∧i≤m.fields.length∧Ext W w) (fun _ _ g _=>m.fields.length - (intOf g).toNat) ⟨0,rfl,rfl,rfl,by omega,e⟩ ?_
 rintro _ _ _ w1 ⟨i,rfl,rfl,rfl,hi,e1⟩
 unfold n3c37
 rcases drop_cases hi with ⟨x,hx,_,hlt,hdec⟩ | ⟨hke,_,hdec⟩
 · have hin:0≤(i:Int)∧(i:Int) < m.fields.length:=⟨by omega,by omega⟩
   simp (disch:=try exact DI) only [↓PR,QR,simprocAttr,(cells_of_heap (e1.obj o10)).1,hdec,↓n3c36]
   refine callK_ret (Uses_ret _ _ m i ⟨_,rfl,hF0.ext e1⟩ hb) ?_
   rintro _ w2 ⟨⟨u,rfl,hU⟩,e2⟩
   have e3:=e1.trans e2
   have hu1:=SliceOf.oneCell hU.ints
   rw [show errU m i=0 from if_pos hin]
   rw [show usesE m i=usesP m.fields i from if_pos hin] at hU
   simp (disch:=try exact DI) only [↓PR,QR,simprocAttr,↓n3c11,(cells_of_heap (e3.obj o10)).1]
   refine callK_ret (Users_ret _ _ m i ⟨_,rfl,hF0.ext e3⟩ hb) ?_
   rintro _ w3 ⟨⟨u',rfl,hU'⟩,e4⟩
   have e5:=e3.trans e4
   have hu2:=SliceOf.oneCell hU'.ints
   rw [show errU m i=0 from if_pos hin]
   rw [show usersE m i=usersP m.fields i from if_pos hin] at hU'
   have hV:=hU.ext e4
   obtain ⟨A2,c2,rfl,_,_,_,_⟩:=SliceOf.open (RowI.ints hV)
   obtain ⟨A3,c3,rfl,_,_,_,_⟩:=SliceOf.open hU'.ints
   have hs:(usesP m.fields i).length≤i:=sel_len i (usesB m.fields i)
   have hs2:(usersP m.fields i).length≤m.fields.length:=sel_len m.fields.length fun j=>(usesP m.fields j).contains (i:Int)
   have hab:=sumN_abs (f:=diffU m.fields) (b:=1048576) (N:=m.fields.length) (fun j hj=>by
    have h1:=sel_len m.fields.length fun q=>(usesP m.fields q).contains (j:Int)
    have h2:=sel_len j (usesB m.fields j)
    unfold diffU usersP usesP
    unfold usesP at h1
    omega) i hi
   have hw1:IntKind.i64.wrap (sumN (diffU m.fields) i+((usesP m.fields i).length:Int))=sumN (diffU m.fields) i+((usesP m.fields i).length:Int):=wrap_ok (by omega) (by omega)
   have hw2:IntKind.i64.wrap (sumN (diffU m.fields) i+((usesP m.fields i).length:Int) - ((usersP m.fields i).length:Int))=sumN (diffU m.fields) (i+1):=by
    rw [wrap_ok (by omega) (by omega)]
    simp only [sumN,diffU]
    omega
   simp (disch:=try exact DI) only [↓PR,QR,simprocAttr,↓n3c10,↓n3c9,hw1,hw2]
   refine hol_uses (W:=w3) (Ext.refl _) (e5.obj o10) (hF0.ext e5) hb hlt rfl (RowI.ints hV) fun w' e'=>?_
   exact ⟨⟨i+1,rfl,by rw [hw1,hw2],rfl,by omega,e5.trans e'⟩,meas_lt (kd := .i64) hlt⟩
 · subst hke
   have h0:=uses_users m.fields
   rw [h0]
   simp (disch:=try exact DI) only [↓PR,QR,simprocAttr,(cells_of_heap (e1.obj o10)).1,hdec,↓n3c35]
   exact hk _ e1
def MarksU (w0 w:World) (ds:List Deferred):Prop:=∃ bs:List Nat,ds=bs.map Sw.mark∧bs.Nodup∧∀ b∈bs,MarkAt b w∧w0.heap.size≤b
theorem MarksU.nil (w0 w:World):MarksU w0 w []:=⟨[],rfl,by simp,by simp⟩
theorem MarksU.ext {w0 w w':World} {ds:List Deferred} (h:MarksU w0 w ds) (e:Ext w w'):MarksU w0 w' ds:=by
 obtain ⟨bs,h1,h2,h3⟩:=h
 exact ⟨bs,h1,h2,fun b hb=>⟨(h3 b hb).1.ext e,(h3 b hb).2⟩⟩
theorem MarksU.cons {w0 w w':World} {ds:List Deferred} (h:MarksU w0 w ds) (e:Ext w w') {B:Nat} (hm:MarkAt B w') (h1:w.heap.size≤B) (h0:w0.heap.size≤B):MarksU w0 w' (Sw.mark B::ds):=by
 obtain ⟨bs,rfl,h2,h3⟩:=h
 refine ⟨B::bs,rfl,List.nodup_cons.2 ⟨fun hin=>?_,h2⟩,fun b hb=>?_⟩
 · have:=(Array.getElem?_eq_some_iff.1 (h3 _ hin).1).1
   omega
 · rcases List.mem_cons.1 hb with rfl | hb
   · exact ⟨hm,h0⟩
   · exact ⟨(h3 b hb).1.ext e,(h3 b hb).2⟩
theorem MarksU.out {w0 w:World} {ds:List Deferred} (h:MarksU w0 w ds) (e:Ext w0 w) (b:Bool) {R:RT} (hR:∀ w',Ext w0 w'→R (.returned (.bool b)) w'):outX Pg ds [(none,.bool b)] R w:=by
 obtain ⟨bs,rfl,h2,h3⟩:=h
 refine outs_marks (w0:=w0) h2 h3 e fun w' e' _=>?_
 simp (disch:=try exact DI) only [↓PR,QR,simprocAttr,outX_nil,retV,resOne]
 exact hR w' e'
def stepF (n:Nat) (a:Value) (w:World):Nat:=match a with
 | .pointer (some p)=>match w.cell? p with
  | some (.int _ k)=>n - k.toNat
  | _=>0
 | _=>0
theorem step_at {n p k:Nat} {w:World} (h:w.heap[p]?=some (.cells #[.int .i64 (k:Int)] 3 (0,0))):stepF n (.pointer (some ⟨p,0,none⟩)) w=n - k:=by
 unfold stepF
 simp only
 rw [(cells_of_heap h).1 0]
 rfl
theorem q_first {C:World→Prop} [ClassNe C] {k:Value→Prop} {b o n c:Nat} (h:0 < n):qV Pg C (Instr.indexAt 30 (.slice (some ⟨b,o,none⟩) n c) (.int .i64 0)) k=k (.pointer (some ⟨b,o,none⟩)):=qV_of fun QP w k=>by
 have:=op_indexN (QP:=QP) (w:=w) (k:=k) Tryz.underlying30 ty3 b o n c .i64 0 h
 rw [Nat.zero_mul,Nat.add_zero] at this
 exact this
def anyT (l:List ByteArray) (s:ByteArray):Bool:=l.any fun x=>decide (x=s)
section
variable {w0 W:World} {d:DefD} {p1 p22:Nat} {A:Option Addr} {c:Nat} {L:List Int} {Lv:Value}
theorem hol_step {w:World} {k i i' p27:Nat} {t2:Value} {ds:List Deferred} {R:RT} {next25:List Deferred→Value→Value→World→Prop} (e0:Ext w0 W) (hf:Fine d.msgs) (ht:calm d) (hM:MsgsOf W (.slice A d.msgs.length c) d.msgs) (o1:W.heap[p1]?=some (.cells (defCells d (.slice A d.msgs.length c)).toArray 28 (0,0)))
 (o22:W.heap[p22]?=some (.cells #[Lv] 30 (0,0))) (hL:SliceOf W 1 EInt Lv L) (hLl:L.length≤16) (e:Ext W w) (o27:w.heap[p27]?=some (.cells #[.int .i64 ((k+1:Nat):Int)] 3 (0,0))) (hk:L[k]?=some (i:Int)) (hk':L[k+1]?=some (i':Int)) (hto:toB d.msgs i i'=true) (hm:MarksU w0 w ds)
 (hn:∀ w' p ds',Ext W w'→w'.heap[p]?=some (.cells #[.int .i64 ((k+2:Nat):Int)] 3 (0,0))→MarksU w0 w' ds'→next25 ds' t2 (.pointer (some ⟨p,0,none⟩)) w') :
 n3c22 (.pointer (some ⟨p1,0,none⟩)) t2 (.pointer (some ⟨p22,0,none⟩)) (.pointer (some ⟨p27,0,none⟩)) next25 ds R w:=by
 obtain ⟨hi1,hi2⟩:=to_lt hf hto
 obtain ⟨m,m',hm1,hm2,href⟩:=to_names hf hto
 have hM0:=hM
 obtain ⟨A2,c2,rfl,_,_,_,hel⟩:=SliceOf.open hL
 obtain ⟨b,o,c1,hA1,_,hcm,_,_,helM⟩:=open1 hM hm1
 injection hA1 with hA1 _ hc1
 subst hA1 hc1
 obtain ⟨cs,_,hAm,fv,rfl,hF⟩:=helM i m hm1
 obtain ⟨cs',_,hAm',fv',rfl,hF'⟩:=helM i' m' hm2
 have hfv:=SliceOf.oneCell hF
 obtain ⟨b5,o5,cs5,rfl,_,hE,rfl⟩:=hel k _ hk
 obtain ⟨b6,o6,cs6,hAA,_,hE',rfl⟩:=hel (k+1) _ hk'
 injection hAA with hAA
 injection hAA with hb6 ho6
 subst hb6 ho6
 have lk:=(List.getElem?_eq_some_iff.1 hk').1
 have hwk:IntKind.i64.wrap (((k+1:Nat):Int) - 1)=(k:Int):=by rw [wrap_ok (by omega) (by omega)];omega
 have hwk2:IntKind.i64.wrap (((k+1:Nat):Int)+1)=((k+2:Nat):Int):=by rw [wrap_ok (by omega) (by omega)];omega
 unfold n3c22
 simp (disch:=try exact DI) only [↓PR,QR,simprocAttr]
 have oX:=heap_new w #[.bool false] 4
 have eX:Ext w (w.alloc (.cells #[.bool false] 4)):=ee
 have sw:=e.size
 generalize hp28:w.heap.size=p28 at oX ⊢
 generalize (w.alloc (.cells #[.bool false] 4))=X at oX eX ⊢
 have E1:=e.trans eX
 refine drawK_intro ?_
 unfold n3c21
 have q27:(drew X).heap[p27]?=some (.cells #[.int .i64 ((k+1:Nat):Int)] 3 (0,0)):=eX.obj o27
 have ED:Ext W (drew X):=E1.drew
 simp (disch:=try exact DI) only [↓PR,QR,simprocAttr,(cells_of_heap (E1.obj o1)).1,(cells_of_heap (E1.obj o22)).1,(cells_of_heap (eX.obj o27)).1,hwk,hE.c1 E1,hAm.c2 E1]
 refine callK_ret (Refers_ret _ _ m ⟨fv,rfl,FieldsOf.ext hF ED⟩ (ht m (List.mem_of_getElem? hm1)).1) ?_
 rintro _ w1 ⟨pb,sv,rfl,hSt,hpb,e1⟩
 refine ⟨e1,?_⟩
 have E2:=ED.trans e1
 have x1:=E2.obj o1
 have x22:=E2.obj o22
 have x27:=e1.obj q27
 have x28:w1.heap[p28]?=some (.cells #[.bool false] 4 (0,0)):=e1.obj oX
 have eX1:Ext X w1:=(Ext.refl X).drew.trans e1
 have hm1':=(hm.ext eX).ext eX1
 have l28:=(Array.getElem?_eq_some_iff.1 x28).1
 have h0W:=e0.size
 have hmem:anyT (refsM m) m'.name=true:=List.any_eq_true.2 ⟨_,href,decide_eq_true rfl⟩
 have hA0:anyT ((refsM m).take 0) m'.name=false:=rfl
 have ew1:Ext w w1:=eX.trans eX1
 have hs1:=e1.size
 have hs2:X.drew.heap.size=X.heap.size:=rfl
 have lX:=(Array.getElem?_eq_some_iff.1 oX).1
 have l27:=(Array.getElem?_eq_some_iff.1 o27).1
 unfold n3c20
 simp (disch:=try exact DI) only [↓PR,QR,simprocAttr]
 unfold n3c19
 refine ⟨_,_,(refsM m).length,strX (refsM m),fun w=>StrsAt w pb sv (allRefs m.fields),fun j w'=>Ext w w'∧Save p28 (p28+1) w1 w'∧w'.heap[p28]?=some (.cells #[.bool (anyT ((refsM m).take j) m'.name)] 4 (0,0)),fun _ _=>False,fun _ _=>False,rfl,c69,Refers_seq pb sv _,⟨ew1,Save.refl _ _ _,x28⟩,fun j w' h=>h.2.1.strs hSt (by omega),fun j=>(Lasts.from (by omega)).and ((lasts_save (Nat.le_refl _)).and (Lasts.has _ (by simp))),fun _=>Lasts.const _ _,?_,?_,?_,?_⟩
 · intro rec j w4 hj hI4 hrec hready
   refine ⟨hready,fun w5 hbz=>?_⟩
   have hrec5:=hrec.busied hbz
   obtain ⟨e5,sv5,q28⟩:=Lasts.busied (I:=fun w'=>Ext w w'∧Save p28 (p28+1) w1 w'∧w'.heap[p28]?=some (.cells #[.bool (anyT ((refsM m).take j) m'.name)] 4 (0,0))) ((Lasts.from (by omega)).and ((lasts_save (Nat.le_refl _)).and (Lasts.has _ (by simp)))) hbz (Nat.le_succ _) hI4
   clear hI4 hrec hready hbz
   obtain ⟨s,hs⟩:=getElem?_lt hj
   rw [show strX (refsM m) j = .string s by unfold strX;rw [hs]]
   have hsn:anyT ((refsM m).take (j+1)) m'.name=(anyT ((refsM m).take j) m'.name||decide (s=m'.name)):=by unfold anyT;rw [take_snoc hs,List.any_append];simp
   have g1:=e5.obj o27
   have g5:Ext W w5:=e.trans e5
   refine drawK_intro ?_
   have f1:=g5.obj o1
   have f22:=g5.obj o22
   have f28:w5.heap[p28]?=some (.cells #[.bool (anyT ((refsM m).take j) m'.name)] 4 (0,0)):=q28
   have f27:w5.heap[p27]?=some (.cells #[.int .i64 ((k+1:Nat):Int)] 3 (0,0)):=g1
   have fin:∀ (v:Bool) (w':World),v=anyT ((refsM m).take (j+1)) m'.name→w'=(drew w5).setCell ⟨p28,0,none⟩ (.bool v)→RecAt rec w1.heap.size w'∧Ext w w'∧Save p28 (p28+1) w1 w'∧w'.heap[p28]?=some (.cells #[.bool (anyT ((refsM m).take (j+1)) m'.name)] 4 (0,0)):=by
    rintro _ _ rfl rfl
    refine ⟨hrec5.drew.setCell _ _,e5.drew.setCell (by show w.heap.size≤p28;omega) _,(sv5.ext (Ext.refl w5).drew).setCell (Nat.le_refl _) (by omega) _,?_⟩
    simpa using heap_set (w:=drew w5) (o:=0) f28 (.bool (anyT ((refsM m).take (j+1)) m'.name))
   unfold n3c16
   cases hb:anyT ((refsM m).take j) m'.name with
   | true =>
    rw [hb] at hsn f28
    simp (disch:=try exact DI) only [↓PR,QR,simprocAttr,(cells_of_heap f28).1,(cells_of_heap f28).2]
    refine turnK_intro ?_
    exact fin true _ (by rw [hsn];rfl) rfl
   | false =>
    rw [hb] at hsn f28
    simp (disch:=try exact DI) only [↓PR,QR,simprocAttr,(cells_of_heap f28).1,(cells_of_heap f28).2,↓n3c15,(cells_of_heap f1).1,(cells_of_heap f22).1,(cells_of_heap f27).1,hE'.c1 g5,hAm'.c2 g5]
    refine turnK_intro ?_
    exact fin _ _ (by rw [hsn];rfl) rfl
 · rintro w4 ⟨e4,sv4,q28⟩ hmk
   rw [List.take_length,hmem] at q28
   unfold n3c18
   have g27:=e4.obj o27
   have hmk2:MarksU w0 w4 (Sw.mark w1.heap.size::ds):=hm.cons e4 hmk (by omega) (by have:=e.size;omega)
   simp (disch:=try exact DI) only [↓PR,QR,simprocAttr,(cells_of_heap q28).1,↓n3c17,(cells_of_heap g27).1,hwk2]
   have eY:Ext w4 (w4.alloc (.cells #[.int .i64 ((k+2:Nat):Int)] 3)):=ee
   exact hn _ _ _ ((e.trans e4).trans eY) (heap_new w4 _ _) (hmk2.ext eY)
 · rintro c w4 h
   exact h.elim
 · rintro ch w4 h
   exact h.elim
theorem hol_steps {w:World} {to s:Nat} {t2:Value} {K9:List Deferred→Value→World→Prop} {ds:List Deferred} {R:RT} (e0:Ext w0 W) (hf:Fine d.msgs) (ht:calm d) (hM:MsgsOf W (.slice A d.msgs.length c) d.msgs) (o1:W.heap[p1]?=some (.cells (defCells d (.slice A d.msgs.length c)).toArray 28 (0,0)))
 (o22:W.heap[p22]?=some (.cells #[Lv] 30 (0,0))) (hL:SliceOf W 1 EInt Lv (pathP to d.msgs s)) (hs:s < d.msgs.length) (hD:dN to d.msgs s < 1000) (e:Ext W w) (hm:MarksU w0 w ds) (hK:∀ w' ds',Ext W w'→MarksU w0 w' ds'→K9 ds' t2 w') :
 n3c24 (.pointer (some ⟨p1,0,none⟩)) t2 (.pointer (some ⟨p22,0,none⟩)) K9 ds R w:=by
 obtain ⟨hl1,hl2⟩:=path_len hf (to:=to) hs hD
 have hL0:=hL
 obtain ⟨A2,c2,rfl,_,_,_,_⟩:=SliceOf.open hL
 unfold n3c24
 simp (disch:=try exact DI) only [↓PR,QR,simprocAttr]
 have eX:Ext w (w.alloc (.cells #[.int .i64 1] 3)):=ee
 have oX:=heap_new w #[.int .i64 1] 3
 generalize (w.alloc (.cells #[.int .i64 1] 3))=X at eX oX ⊢
 refine loopM2_intro (fun ds a b w'=>∃ (p k:Nat),a=t2∧b = .pointer (some ⟨p,0,none⟩)∧k+1≤(pathP to d.msgs s).length∧w'.heap[p]?=some (.cells #[.int .i64 ((k+1:Nat):Int)] 3 (0,0))∧Ext W w'∧MarksU w0 w' ds) (fun _ b w'=>stepF 17 b w') ⟨w.heap.size,0,rfl,rfl,hl1,oX,e.trans eX,hm.ext eX⟩ ?_
 rintro ds _ _ w1 ⟨p,k,rfl,rfl,hk,oP,e1,hm1⟩
 unfold n3c23
 by_cases hlt:k+1 < (pathP to d.msgs s).length
 · have hd:decide (((k+1:Nat):Int) < ((pathP to d.msgs s).length:Int))=true:=decide_eq_true (by omega)
   simp (disch:=try exact DI) only [↓PR,QR,simprocAttr,(cells_of_heap oP).1,(cells_of_heap (e1.obj o22)).1,hd]
   refine hol_step e0 hf ht hM o1 o22 hL0 hl2 e1 oP (path_get (by omega)) (path_get hlt) (path_step hf hD hlt) hm1 fun w' p' ds' e' o' hm'=>?_
   refine ⟨⟨p',k+1,rfl,rfl,by omega,o',e',hm'⟩,?_⟩
   rw [step_at o',step_at oP]
   omega
 · have hd:decide (((k+1:Nat):Int) < ((pathP to d.msgs s).length:Int))=false:=decide_eq_false (by omega)
   simp (disch:=try exact DI) only [↓PR,QR,simprocAttr,(cells_of_heap oP).1,(cells_of_heap (e1.obj o22)).1,hd]
   exact hK _ _ e1 hm1
end
section
variable {w0 W:World} {d:DefD} {p1 p3:Nat} {A:Option Addr} {c:Nat} {mp:Value}
theorem hol_path {w:World} {i p10:Nat} {m:MsgD} {fv t2:Value} {K9:List Deferred→Value→World→Prop} {ds:List Deferred} {R:RT} (e0:Ext w0 W) (hc:(checkP d).2.2=0) (ht:calm d) (hM:MsgsOf W (.slice A d.msgs.length c) d.msgs) (o1:W.heap[p1]?=some (.cells (defCells d (.slice A d.msgs.length c)).toArray 28 (0,0)))
 (hP:MsgsOf W mp (pruneP d).msgs) (o3:W.heap[p3]?=some (.cells (defCells (pruneP d) mp).toArray 28 (0,0))) (hi:d.msgs[i]?=some m) (o10:W.heap[p10]?=some (.cells (msgCells m fv).toArray 24 (0,0))) (e:Ext W w) (hm:MarksU w0 w ds) (hK:∀ w' ds',Ext W w'→MarksU w0 w' ds'→K9 ds' t2 w') :
 n3c34 (.pointer (some ⟨p1,0,none⟩)) t2 (.pointer (some ⟨p3,0,none⟩)) (.int .i64 (i:Int)) (.pointer (some ⟨p10,0,none⟩)) K9 ds R w:=by
 have hM0:=hM
 have hm1:=SliceOf.oneCell hM
 have hmp:=SliceOf.oneCell hP
 have hlt:=(List.getElem?_eq_some_iff.1 hi).1
 obtain ⟨hs,_,_⟩:=start_spec hc
 have hf:=(check_fine hc).2.2.1
 have hl60:=(check_fine hc).2.1.2
 have hin:0≤(i:Int)∧(i:Int) < d.msgs.length:=⟨by omega,by omega⟩
 have he1:errP d i=(if reachB d.msgs (startI d) i then 0 else 9):=by
  unfold errP
  rw [if_pos hc,if_pos hin,Int.toNat_natCast]
 have hrd:=reach_dist hf hs hlt (by omega)
 unfold n3c34
 simp (disch:=try exact DI) only [↓PR,QR,simprocAttr,(cells_of_heap (e.obj o1)).1]
 refine callK_ret (Path_ret _ _ d i ⟨_,rfl,hM.ext e⟩ ht) ?_
 rintro _ w1 ⟨⟨u,rfl,hU⟩,e1⟩
 have e2:=e.trans e1
 have hu1:=SliceOf.oneCell hU.ints
 unfold n3c33
 cases hr:reachB d.msgs (startI d) i with
 | false =>
  rw [hr] at he1
  rw [he1]
  have hg:=prune_gone hc hi hr
  simp (disch:=try exact DI) only [↓PR,QR,simprocAttr]
  have eX:Ext w1 (w1.alloc (.cells #[u] 30)):=ee
  generalize (w1.alloc (.cells #[u] 30))=X at eX ⊢
  have e3:=e2.trans eX
  unfold n3c31
  simp (disch:=try exact DI) only [↓PR,QR,simprocAttr,(cells_of_heap (e3.obj o3)).1,(cells_of_heap (e3.obj o10)).1]
  refine zcr (Find_ret _ _ (pruneP d) m.name ⟨_,rfl,hP.ext e3⟩) fun w4 e4=>?_
  rw [hg]
  simp (disch:=try exact DI) only [↓PR,QR,simprocAttr,↓n3c12]
  exact hK _ _ (e3.trans e4) (hm.ext ((e1.trans eX).trans e4))
 | true =>
  rw [hr] at he1
  have hD:=hrd.1 hr
  have hE0:errP d i=0:=he1
  rw [hE0]
  rw [show pathE d i=pathP i d.msgs (startI d) by unfold pathE;rw [if_pos hE0,Int.toNat_natCast]] at hU
  obtain ⟨hl1,hl2⟩:=path_len hf (to:=i) hs hD
  have hL:=hU.ints
  have hL0:=hL
  obtain ⟨A2,c2,rfl,_,_,_,hel⟩:=SliceOf.open hL
  simp (disch:=try exact DI) only [↓PR,QR,simprocAttr]
  have eX:Ext w1 (w1.alloc (.cells #[.slice A2 (pathP i d.msgs (startI d)).length c2] 30)):=ee
  have oX:=heap_new w1 #[.slice A2 (pathP i d.msgs (startI d)).length c2] 30
  generalize (w1.alloc (.cells #[.slice A2 (pathP i d.msgs (startI d)).length c2] 30))=X at eX oX ⊢
  generalize w1.heap.size=p22 at oX ⊢
  have e3:=e2.trans eX
  have d1:decide (((pathP i d.msgs (startI d)).length:Int) < 1)=false:=decide_eq_false (by omega)
  have d2:decide (((pathP i d.msgs (startI d)).length:Int) > 16)=false:=decide_eq_false (by omega)
  have hwl:IntKind.i64.wrap (((pathP i d.msgs (startI d)).length:Int) - 1)=(((pathP i d.msgs (startI d)).length - 1:Nat):Int):=by rw [wrap_ok (by omega) (by omega)];omega
  obtain ⟨b5,o5,cs5,rfl,_,hE,rfl⟩:=hel _ _ (path_get (to:=i) (l:=d.msgs) (s:=startI d) (j:=(pathP i d.msgs (startI d)).length - 1) (by omega))
  have hend:=path_end hf (to:=i) hD
  have d3:(((pk i d.msgs (startI d) ((pathP i d.msgs (startI d)).length - 1):Nat):Int) != (i:Int))=false:=by rw [hend];simp
  unfold n3c32
  simp (disch:=try exact DI) only [↓PR,QR,simprocAttr,(cells_of_heap oX).1,d1,↓n3c30,d2,↓n3c29,↓n3c28,hwl,hE.c1 eX,d3,↓n3c27]
  have hmX:=(hm.ext (e1.trans eX))
  have hMX:=hM0.ext e3
  obtain ⟨m0,hm0,hn0⟩:=start_at hc
  obtain ⟨bM,oM,cM,hAM,_,hcm,_,_,helM⟩:=open1 hM hm0
  injection hAM with hAM _ hcM
  subst hAM hcM
  obtain ⟨cs0,_,hA0,fv0,rfl,hF0⟩:=helM _ m0 hm0
  refine loop2_intro (fun a b w'=>∃ j:Nat,a=t2∧b = .int .i64 j∧j≤(pathP i d.msgs (startI d)).length∧Ext X w') (fun _ b _=>(pathP i d.msgs (startI d)).length - (intOf b).toNat) ⟨0,rfl,rfl,by omega,Ext.refl _⟩ ?_
  rintro _ _ w5 ⟨j,rfl,rfl,hj,e5⟩
  have e6:=e3.trans e5
  unfold n3c26
  rcases drop_cases hj with ⟨x,hx,_,hjl,hdec⟩ | ⟨hke,_,hdec⟩
  · have hx2:=path_get (to:=i) (l:=d.msgs) (s:=startI d) hjl
    have hpl:=path_in hf (to:=i) hs hD hjl
    obtain ⟨b7,o7,cs7,hAA,_,hE7,rfl⟩:=hel _ _ hx2
    injection hAA with hAA
    injection hAA with hb7 ho7
    subst hb7 ho7
    have d4:decide ((pk i d.msgs (startI d) j:Int) < 0)=false:=decide_eq_false (by omega)
    have d5:decide ((pk i d.msgs (startI d) j:Int)≥(d.msgs.length:Int))=false:=decide_eq_false (by omega)
    have hwj:IntKind.i64.wrap ((j:Int)+1)=((j+1:Nat):Int):=by rw [wrap_ok (by omega) (by omega)];omega
    simp (disch:=try exact DI) only [↓PR,QR,simprocAttr,(cells_of_heap (e5.obj oX)).1,hdec]
    refine drawK_introE e5 ?_
    unfold n3c14
    simp (disch:=try exact DI) only [↓PR,QR,simprocAttr,(cells_of_heap oX).1,hE7.c1 eX,d4,(cells_of_heap (e3.obj o1)).1,d5,↓n3c13,hwj]
    exact ⟨⟨j+1,by trivial,by first | trivial | rfl,by omega,e5.drew⟩,meas_lt (kd := .i64) hjl⟩
  · subst hke
    obtain ⟨b8,o8,cs8,hAB,_,hE8,rfl⟩:=hel _ _ (path_get (to:=i) (l:=d.msgs) (s:=startI d) (j:=0) (by omega))
    injection hAB with hAB
    injection hAB with hb8 ho8
    subst hb8 ho8
    have hE9:ElemAt w1 b5 o5 [Value.int .i64 (startI d:Int)]:=by have:=hE8;rw [Nat.zero_mul,Nat.add_zero] at this;exact this
    simp (disch:=try exact DI) only [↓PR,QR,simprocAttr,(cells_of_heap (e5.obj oX)).1,hdec]
    refine drawK_introE e5 ?_
    unfold n3c25
    simp (disch:=try exact DI) only [↓PR,QR,simprocAttr,(cells_of_heap (e3.obj o1)).1,(cells_of_heap oX).1]
    rw [q_first (by omega)]
    simp (disch:=try exact DI) only [↓PR,QR,simprocAttr,hE9.c1 eX,hA0.c2 e3,hn0,(cells_of_heap (e3.obj o1)).1]
    exact hol_steps (Lv := .slice (some ⟨b5,o5,none⟩) (pathP i d.msgs (startI d)).length c2) (W:=X) (e0.trans e3) hf ht hMX (e3.obj o1) oX (hL0.ext keptInt eX) hs hD e5.drew (hmX.ext e5.drew) fun w' ds' e' h'=>hK w' ds' (e3.trans e') h'
end
end Go.Proofs.YtfjjgjjlebllmaaGreat
