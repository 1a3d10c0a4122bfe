/-
  Lemmas for the claim.
-/
import Derived.Test.YtcffhmapmaahnaaGreatDoorVf3
set_option linter.all false
set_option maxHeartbeats 4000000
set_option maxRecDepth 100000
namespace Go.Proofs.YtcffhmapmaahnaaGreatDoor
open Sw
open Go.RowKit (intOf Below)
theorem rnode_ret (w0:World) (v:Value) (t:Tr) (h:ValAt w0 v t):Ret Pg 84 #[v] w0 fun r w'=>r = .bool (nodeB t.nd)∧Ext w0 w':=by
 obtain ⟨bv,hv,pv,rfl,hB,hH,hT,o1,o2,o3⟩:=h.op
 obtain ⟨A1,c1,rfl,_,_,_,_⟩:=SliceOf.open hB
 obtain ⟨A2,c2,rfl,_,_,_,hel⟩:=SliceOf.open hH
 refine n28s (R:=retR _) ?_;unfold n28
 rw [op_boxA]
 have h2:=heap_new w0 (trCells t.nd (.slice A1 t.nd.bytes.length c1) (.slice A2 t.nd.hdrs.length c2) pv).toArray 26
 have eW:Ext w0 (w0.alloc (.cells (trCells t.nd (.slice A1 t.nd.bytes.length c1) (.slice A2 t.nd.hdrs.length c2) pv).toArray 26)):=ee
 generalize (w0.alloc (.cells (trCells t.nd (.slice A1 t.nd.bytes.length c1) (.slice A2 t.nd.hdrs.length c2) pv).toArray 26))=W at h2 eW ⊢
 generalize w0.heap.size=p at h2 ⊢
 unfold nodeB
 simp (disch:=try exact DI) only [↓PR,QR,simprocAttr,(cells_of_heap h2).1]
 refine zcr (rName_ret _ _) fun w1 e1=>?_
 have h3:=e1.obj h2
 have E1:=eW.trans e1
 unfold n28c7
 cases nameB t.nd.name with
 | false =>
  simp (disch:=try exact DI) only [↓PR,QR,simprocAttr,↓n28c6,↓n28c5,↓n28c4]
  exact ⟨by first | trivial | rfl,ee⟩
 | true =>
 by_cases hp:0≤t.nd.int
 case neg =>
  have d:decide (t.nd.int < 0)=true:=decide_eq_true (by omega)
  simp (disch:=try exact DI) only [↓PR,QR,simprocAttr,↓n28c6,↓n28c5,↓n28c4,(cells_of_heap h3).1,d]
  exact ⟨by simp [hp],E1⟩
 have dp:decide (t.nd.int < 0)=false:=decide_eq_false (by omega)
 by_cases hq:t.nd.int < 34359738368
 case neg =>
  have d:decide (t.nd.int≥34359738368)=true:=decide_eq_true (by omega)
  simp (disch:=try exact DI) only [↓PR,QR,simprocAttr,↓n28c6,↓n28c5,↓n28c4,(cells_of_heap h3).1,dp,d]
  exact ⟨by simp [hq],E1⟩
 have dq:decide (t.nd.int≥34359738368)=false:=decide_eq_false (by omega)
 by_cases hl:t.nd.bytes.length≤1048576
 case neg =>
  have d:decide ((t.nd.bytes.length:Int) > 1048576)=true:=decide_eq_true (by omega)
  simp (disch:=try exact DI) only [↓PR,QR,simprocAttr,↓n28c6,↓n28c5,↓n28c4,(cells_of_heap h3).1,dp,dq,d]
  exact ⟨by simp [hl],E1⟩
 have dl:decide ((t.nd.bytes.length:Int) > 1048576)=false:=decide_eq_false (by omega)
 by_cases hm:t.nd.hdrs.length≤100
 case neg =>
  have d:decide ((t.nd.hdrs.length:Int) > 100)=true:=decide_eq_true (by omega)
  simp (disch:=try exact DI) only [↓PR,QR,simprocAttr,↓n28c6,↓n28c5,↓n28c4,(cells_of_heap h3).1,dp,dq,dl,d]
  exact ⟨by simp [hm],E1⟩
 have dm:decide ((t.nd.hdrs.length:Int) > 100)=false:=decide_eq_false (by omega)
 simp (disch:=try exact DI) only [↓PR,QR,simprocAttr,↓n28c6,↓n28c5,↓n28c4,(cells_of_heap h3).1,dp,dq,dl,dm]
 simp only [hp,hq,hl,hm,decide_true,Bool.true_and]
 refine loop1_intro (fun i w=>∃ k:Nat,i = .int .i64 k∧k≤t.nd.hdrs.length∧Ext w1 w∧(t.nd.hdrs.drop k).all hdrB=t.nd.hdrs.all hdrB) (fun i _=>t.nd.hdrs.length - (intOf i).toNat) ⟨0,rfl,by omega,Ext.refl _,rfl⟩ ?_
 rintro _ w ⟨k,rfl,hk,e,hI⟩
 have h4:=e.obj h3
 unfold n28c3
 by_cases hlt:k < t.nd.hdrs.length
 case neg =>
  have d:decide ((k:Int) < (t.nd.hdrs.length:Int))=false:=decide_eq_false (by omega)
  simp (disch:=try exact DI) only [↓PR,QR,simprocAttr,d,(cells_of_heap h4).1]
  exact ⟨by rw [← hI,List.drop_of_length_le (by omega)];rfl,E1.trans e⟩
 have d:decide ((k:Int) < (t.nd.hdrs.length:Int))=true:=decide_eq_true (by omega)
 have dk:(k:Int) < (t.nd.hdrs.length:Int):=by omega
 obtain ⟨x,hx⟩:=getElem?_lt hlt
 obtain ⟨b,o,cs,rfl,hl',hA,rfl⟩:=hel k x hx
 have hdr:t.nd.hdrs.drop k=x::t.nd.hdrs.drop (k+1):=by
  obtain ⟨hk,rfl⟩:=List.getElem?_eq_some_iff.1 hx
  exact List.drop_eq_getElem_cons hk
 rw [hdr,List.all_cons] at hI
 have E:=E1.trans e
 have hw:IntKind.i64.wrap ((k:Int)+1)=((k+1:Nat):Int):=by rw [wrap_ok (by omega) (by omega)];omega
 by_cases q1:x.1.size≤1048576
 case neg =>
  have d1:decide ((x.1.size:Int) > 1048576)=true:=decide_eq_true (by omega)
  simp (disch:=try exact DI) only [↓PR,QR,simprocAttr,d,(cells_of_heap h4).1,↓n28c2,dk,hA.c2 E,d1]
  exact ⟨by rw [← hI];unfold hdrB;simp [q1],E⟩
 have d1:decide ((x.1.size:Int) > 1048576)=false:=decide_eq_false (by omega)
 by_cases q2:x.2.size≤1048576
 case neg =>
  have d2:decide ((x.2.size:Int) > 1048576)=true:=decide_eq_true (by omega)
  simp (disch:=try exact DI) only [↓PR,QR,simprocAttr,d,(cells_of_heap h4).1,↓n28c2,↓n28c1,dk,hA.c2 E,d1,d2]
  exact ⟨by rw [← hI];unfold hdrB;simp [q2],E⟩
 have d2:decide ((x.2.size:Int) > 1048576)=false:=decide_eq_false (by omega)
 simp (disch:=try exact DI) only [↓PR,QR,simprocAttr,d,(cells_of_heap h4).1,↓n28c2,↓n28c1,dk,hA.c2 E,d1,d2,hw]
 refine ⟨⟨k+1,rfl,by omega,e,?_⟩,meas_lt (kd := .i64) hlt⟩
 rw [← hI]
 unfold hdrB
 simp [q1,q2]
theorem rnodes_ret (t:Tr):∀ (w0:World) (v:Value),ValAt w0 v t→Ret Pg 62 #[v] w0 fun r w'=>r = .bool (allT nodeB t)∧Ext w0 w':=by
 refine Tr.ind (p:=fun t=>∀ (w0:World) (v:Value),ValAt w0 v t→Ret Pg 62 #[v] w0 fun r w'=>r = .bool (allT nodeB t)∧Ext w0 w') ?_ t
 intro n ps ih w0 v hval
 obtain ⟨bv,hv,pv,rfl,f1,f2,f3,f4,f5,f6⟩:=hval.op
 simp only [Tr.nd,Tr.ps] at f1 f2 f3 ⊢
 obtain ⟨A,c,rfl,_,_,_,hel⟩:=SliceOf.open f3
 rw [allT_mk]
 refine n29s (R:=retR _) ?_;unfold n29
 rw [op_boxA]
 have h0:=heap_new w0 (trCells n bv hv (.slice A ps.length c)).toArray 26
 have e0:Ext w0 (w0.alloc (.cells (trCells n bv hv (.slice A ps.length c)).toArray 26)):=ee
 generalize (w0.alloc (.cells (trCells n bv hv (.slice A ps.length c)).toArray 26))=X at h0 e0 ⊢
 generalize w0.heap.size=p1 at h0 ⊢
 refine loop1_intro (fun i w=>∃ k:Nat,i = .int .i64 k∧k≤ps.length∧Ext X w∧(ps.drop k).all (allT nodeB)=ps.all (allT nodeB)) (fun i _=>ps.length - (intOf i).toNat) ⟨0,rfl,by omega,Ext.refl _,rfl⟩ ?_
 rintro _ w ⟨k,rfl,hk,e,hI⟩
 unfold n29c3
 have E:=e0.trans e
 by_cases hlt:k < ps.length
 case neg =>
  have d:decide ((k:Int) < (ps.length:Int))=false:=decide_eq_false (by omega)
  simp (disch:=try exact DI) only [↓PR,QR,simprocAttr,d,(cells_of_heap (e.obj h0)).1]
  refine zcr (rnode_ret w _ (.mk n ps) (ValAt.ext ⟨bv,hv,.slice A ps.length c,rfl,f1,f2,f3⟩ E)) fun w1 e1=>?_
  simp (disch:=try exact DI) only [↓PR,QR,simprocAttr]
  refine ⟨?_,E.trans e1⟩
  rw [← hI,List.drop_of_length_le (by omega)]
  simp [Tr.nd]
 have d:decide ((k:Int) < (ps.length:Int))=true:=decide_eq_true (by omega)
 have dk:(k:Int) < (ps.length:Int):=by omega
 obtain ⟨x,hx⟩:=getElem?_lt hlt
 obtain ⟨b,o,cs,rfl,hl,hA,hE⟩:=hel k x hx
 obtain ⟨xb,xh,xp,rfl,x1,x2,x3,x4,x5,x6⟩:=hE.op
 have hdr:ps.drop k=x::ps.drop (k+1):=by
  obtain ⟨hk,rfl⟩:=List.getElem?_eq_some_iff.1 hx
  exact List.drop_eq_getElem_cons hk
 rw [hdr,List.all_cons] at hI
 have hw:IntKind.i64.wrap ((k:Int)+1)=((k+1:Nat):Int):=by rw [wrap_ok (by omega) (by omega)];omega
 simp (disch:=try exact DI) only [↓PR,QR,simprocAttr,d,(cells_of_heap (e.obj h0)).1,↓n29c2,dk,hA.c5 E]
 refine zcr (ih x (List.mem_of_getElem? hx) w _ (ValAt.ext ⟨xb,xh,xp,rfl,x1,x2,x3⟩ E)) fun w1 e1=>?_
 unfold n29c1
 cases hc:allT nodeB x with
 | false =>
  rw [hc] at hI
  simp (disch:=try exact DI) only [↓PR,QR,simprocAttr]
  exact ⟨by rw [← hI];simp,E.trans e1⟩
 | true =>
  rw [hc] at hI
  simp (disch:=try exact DI) only [↓PR,QR,simprocAttr,hw]
  exact ⟨⟨k+1,rfl,by omega,e.trans e1,by rw [← hI];rfl⟩,meas_lt (kd := .i64) hlt⟩
theorem rValid_ret (w0:World) (v:Value) (t:Tr) (h:ValAt w0 v t) (hb:nodesT t≤1000000000):Ret Pg 23 #[v] w0 fun r w'=>r = .bool (validT t)∧Ext w0 w':=by
 obtain ⟨bv,hv,pv,rfl,hB,hH,hT,o1,o2,o3⟩:=h.op
 refine n23s (R:=retR _) ?_;unfold n23
 rw [op_boxA]
 have h0:=heap_new w0 (trCells t.nd bv hv pv).toArray 26
 have e0:Ext w0 (w0.alloc (.cells (trCells t.nd bv hv pv).toArray 26)):=ee
 generalize (w0.alloc (.cells (trCells t.nd bv hv pv).toArray 26))=X at h0 e0 ⊢
 generalize w0.heap.size=p1 at h0 ⊢
 simp (disch:=try exact DI) only [↓PR,QR,simprocAttr,(cells_of_heap h0).1]
 refine zcr (rNodes_ret t X _ (ValAt.ext ⟨bv,hv,pv,rfl,hB,hH,hT⟩ e0) hb) fun w1 e1=>?_
 have E1:=e0.trans e1
 unfold n23c2 validT
 by_cases q1:nodesT t≤65536
 case neg =>
  have d:decide ((nodesT t:Int)≤65536)=false:=decide_eq_false (by omega)
  simp (disch:=try exact DI) only [↓PR,QR,simprocAttr,d,↓n23c1]
  exact ⟨by simp [q1],E1⟩
 have d:decide ((nodesT t:Int)≤65536)=true:=decide_eq_true (by omega)
 simp (disch:=try exact DI) only [↓PR,QR,simprocAttr,d,(cells_of_heap (e1.obj h0)).1]
 refine zcr (rHeight_ret t w1 _ (ValAt.ext ⟨bv,hv,pv,rfl,hB,hH,hT⟩ E1) hb) fun w2 e2=>?_
 have E2:=E1.trans e2
 have h2:=(e1.trans e2).obj h0
 by_cases q2:heightT t≤40
 case neg =>
  have d2:decide ((heightT t:Int)≤40)=false:=decide_eq_false (by omega)
  simp (disch:=try exact DI) only [↓PR,QR,simprocAttr,d,d2,↓n23c1]
  exact ⟨by simp [q2],E2⟩
 have d2:decide ((heightT t:Int)≤40)=true:=decide_eq_true (by omega)
 simp (disch:=try exact DI) only [↓PR,QR,simprocAttr,d,d2,↓n23c1,(cells_of_heap h2).1]
 refine zcr (rnodes_ret t w2 _ (ValAt.ext ⟨bv,hv,pv,rfl,hB,hH,hT⟩ E2)) fun w3 e3=>?_
 simp (disch:=try exact DI) only [↓PR,QR,simprocAttr]
 exact ⟨by simp [q1,q2],E2.trans e3⟩
def n13 (t0:Value) (R:RT) (w:World):Prop :=
 opV Pg (Instr.box 26 t0) (panK R) w fun t1 w =>
 opV Pg (Instr.loadAt 26 t1) (panK R) w fun t3 w =>
 callK Pg 32 #[t3,(.int .i64 200)] (panK R) w fun t4 w =>
 opV Pg (binS .geq 3 true t4 (.int .i64 0)) (panK R) w fun t5 w =>
 R (.returned t5) w
theorem n13s {t0:Value} {R:RT} {w:World} (h:n13 t0 R w):Calls Pg 10 #[t0] w R:=by
 refine yD Tryz.func10 ?_
 refine zs<|zr<|yv h fun _ w h=>zm<|zn<|zk<|zs<|zr<|yv h fun _ w h=>yc h c32 fun _ w h=>yb h fun _ w h=>zm<|zn<|zk<|sim_ret ?_
 exact body_ret1 rfl rfl h
def smallH (x:ByteArray×ByteArray):Bool:=decide (x.1.size≤200)&&decide (x.2.size≤200)
def smallN (n:Nd):Bool:=decide (n.name.size≤200)&&(decide (n.bytes.length≤200)&&(decide (n.hdrs.length≤110)&&n.hdrs.all smallH))
def goF {α:Type} (f:α→Int→Int):List α→Int→Int
 | [],z=>z
 | x::l,z=>if 0≤z then goF f l (f x z) else z
theorem goF_map {α β:Type} (f:β→Int→Int) (g:α→β):∀ (l:List α) (z:Int),goF f (l.map g) z=goF (fun x=>f (g x)) l z
 | [],z=>rfl
 | x::l,z=>by simp only [List.map_cons,goF,goF_map f g l]
theorem goF_neg {α:Type} (f:α→Int→Int):∀ (l:List α) (z:Int),¬ 0≤z→goF f l z=z
 | [],z,_=>rfl
 | x::l,z,h=>by rw [goF,if_neg h]
noncomputable def leftT:Tr→Int→Int:=Tr.fold fun n _ rs k=>if smallN n then goF (fun (g:Int→Int) z=>g z) rs (k - 1) else -1
theorem leftT_mk (n:Nd) (ps:List Tr) (k:Int):leftT (.mk n ps) k=if smallN n then goF leftT ps (k - 1) else -1:=by
 unfold leftT
 rw [Tr.fold_mk,goF_map]
theorem left_le (t:Tr):∀ k:Int,0≤k→leftT t k≤k - 1 ∧ -1≤leftT t k∧(0≤leftT t k→leftT t k=k - nodesT t∧allT smallN t=true):=by
 refine Tr.ind (p:=fun t=>∀ k:Int,0≤k→leftT t k≤k - 1 ∧ -1≤leftT t k∧(0≤leftT t k→leftT t k=k - nodesT t∧allT smallN t=true)) ?_ t
 intro n ps ih k hk
 rw [leftT_mk,nodesT_mk,allT_mk]
 cases hs:smallN n with
 | false=>simp;omega
 | true =>
  simp only [if_true,Bool.true_and]
  have key:∀ (l:List Tr) (z:Int),(∀ x∈l,∀ k:Int,0≤k→leftT x k≤k - 1 ∧ -1≤leftT x k∧(0≤leftT x k→leftT x k=k - nodesT x∧allT smallN x=true)) → -1≤z→goF leftT l z≤z ∧ -1≤goF leftT l z∧(0≤goF leftT l z→goF leftT l z=z - ((l.map nodesT).sum:Nat)∧l.all (allT smallN)=true):=by
   intro l
   induction l with
   | nil=>intro z _ hz;exact ⟨Int.le_refl _,hz,fun _=>by simp [goF]⟩
   | cons x l ih2 =>
    intro z hx hz
    rw [goF]
    by_cases h0:0≤z
    · rw [if_pos h0]
      obtain ⟨a1,a2,a3⟩:=hx x (List.mem_cons_self ..) z h0
      obtain ⟨b1,b2,b3⟩:=ih2 (leftT x z) (fun y hy=>hx y (List.mem_cons_of_mem _ hy)) a2
      refine ⟨by omega,b2,fun h=>?_⟩
      obtain ⟨c1,c2⟩:=b3 h
      obtain ⟨d1,d2⟩:=a3 (by omega)
      rw [List.map_cons,List.sum_cons,List.all_cons,c2,d2]
      exact ⟨by omega,rfl⟩
    · rw [if_neg h0]
      exact ⟨Int.le_refl _,hz,fun h=>absurd h h0⟩
  obtain ⟨a1,a2,a3⟩:=key ps (k - 1) ih (by omega)
  refine ⟨a1,a2,fun h=>?_⟩
  obtain ⟨b1,b2⟩:=a3 h
  exact ⟨by omega,b2⟩
theorem goF_step {α:Type} (f:α→Int→Int) {l:List α} {k:Nat} {x:α} (h:l[k]?=some x) {z:Int} (hz:0≤z):goF f (l.drop k) z=goF f (l.drop (k+1)) (f x z):=by
 have hdr:l.drop k=x::l.drop (k+1):=by
  obtain ⟨hk,rfl⟩:=List.getElem?_eq_some_iff.1 h
  exact List.drop_eq_getElem_cons hk
 rw [hdr,goF,if_pos hz]
theorem left_ret (t:Tr):∀ (w0:World) (v:Value) (k:Int),ValAt w0 v t→0≤k→k≤1000000→Ret Pg 32 #[v,.int .i64 k] w0 fun r w'=>r = .int .i64 (leftT t k)∧Ext w0 w':=by
 refine Tr.ind (p:=fun t=>∀ (w0:World) (v:Value) (k:Int),ValAt w0 v t→0≤k→k≤1000000→Ret Pg 32 #[v,.int .i64 k] w0 fun r w'=>r = .int .i64 (leftT t k)∧Ext w0 w') ?_ t
 intro n ps ih w0 v m hval hm0 hm1
 obtain ⟨bv,hv,pv,rfl,f1,f2,f3,f4,f5,f6⟩:=hval.op
 simp only [Tr.nd,Tr.ps] at f1 f2 f3 ⊢
 obtain ⟨A0,c0,rfl,_,_,_,_⟩:=SliceOf.open f1
 obtain ⟨A2,c2,rfl,_,_,_,hel2⟩:=SliceOf.open f2
 obtain ⟨A,c,rfl,_,_,_,hel⟩:=SliceOf.open f3
 rw [leftT_mk]
 have hwm:IntKind.i64.wrap (m - 1)=m - 1:=by rw [wrap_ok (by omega) (by omega)]
 refine n11s (R:=retR _) ?_;unfold n11
 rw [op_boxA]
 have h0:=heap_new w0 (trCells n (.slice A0 n.bytes.length c0) (.slice A2 n.hdrs.length c2) (.slice A ps.length c)).toArray 26
 have e0:Ext w0 (w0.alloc (.cells (trCells n (.slice A0 n.bytes.length c0) (.slice A2 n.hdrs.length c2) (.slice A ps.length c)).toArray 26)):=ee
 generalize (w0.alloc (.cells (trCells n (.slice A0 n.bytes.length c0) (.slice A2 n.hdrs.length c2) (.slice A ps.length c)).toArray 26))=X at h0 e0 ⊢
 generalize w0.heap.size=p1 at h0 ⊢
 unfold smallN
 by_cases q1:n.name.size≤200
 case neg =>
  have d:decide ((n.name.size:Int) > 200)=true:=decide_eq_true (by omega)
  simp (disch:=try exact DI) only [↓PR,QR,simprocAttr,hwm,(cells_of_heap h0).1,d,↓n11c6]
  exact ⟨by simp [q1],e0⟩
 have d1:decide ((n.name.size:Int) > 200)=false:=decide_eq_false (by omega)
 by_cases q2:n.bytes.length≤200
 case neg =>
  have d:decide ((n.bytes.length:Int) > 200)=true:=decide_eq_true (by omega)
  simp (disch:=try exact DI) only [↓PR,QR,simprocAttr,hwm,(cells_of_heap h0).1,d1,d,↓n11c6]
  exact ⟨by simp [q2],e0⟩
 have d2:decide ((n.bytes.length:Int) > 200)=false:=decide_eq_false (by omega)
 by_cases q3:n.hdrs.length≤110
 case neg =>
  have d:decide ((n.hdrs.length:Int) > 110)=true:=decide_eq_true (by omega)
  simp (disch:=try exact DI) only [↓PR,QR,simprocAttr,hwm,(cells_of_heap h0).1,d1,d2,d,↓n11c6]
  exact ⟨by simp [q3],e0⟩
 have d3:decide ((n.hdrs.length:Int) > 110)=false:=decide_eq_false (by omega)
 simp (disch:=try exact DI) only [↓PR,QR,simprocAttr,hwm,(cells_of_heap h0).1,d1,d2,d3,↓n11c6]
 simp only [q1,q2,q3,decide_true,Bool.true_and]
 refine loop1_intro (fun i w=>∃ k:Nat,i = .int .i64 k∧k≤n.hdrs.length∧Ext X w∧(n.hdrs.drop k).all smallH=n.hdrs.all smallH) (fun i _=>n.hdrs.length - (intOf i).toNat) ⟨0,rfl,by omega,Ext.refl _,rfl⟩ ?_
 rintro _ w ⟨k,rfl,hk,e,hI⟩
 have h4:=e.obj h0
 unfold n11c5
 have E:=e0.trans e
 by_cases hlt:k < n.hdrs.length
 case pos =>
  have d:decide ((k:Int) < (n.hdrs.length:Int))=true:=decide_eq_true (by omega)
  have dk:(k:Int) < (n.hdrs.length:Int):=by omega
  obtain ⟨x,hx⟩:=getElem?_lt hlt
  obtain ⟨b,o,cs,rfl,hl',hA,rfl⟩:=hel2 k x hx
  have hdr:n.hdrs.drop k=x::n.hdrs.drop (k+1):=by
   obtain ⟨hk,rfl⟩:=List.getElem?_eq_some_iff.1 hx
   exact List.drop_eq_getElem_cons hk
  rw [hdr,List.all_cons] at hI
  have hw:IntKind.i64.wrap ((k:Int)+1)=((k+1:Nat):Int):=by rw [wrap_ok (by omega) (by omega)];omega
  by_cases r1:x.1.size≤200
  case neg =>
   have t1:decide ((x.1.size:Int) > 200)=true:=decide_eq_true (by omega)
   simp (disch:=try exact DI) only [↓PR,QR,simprocAttr,d,(cells_of_heap h4).1,↓n11c4,dk,hA.c2 E,t1]
   exact ⟨by rw [← hI];unfold smallH;simp [r1],E⟩
  have t1:decide ((x.1.size:Int) > 200)=false:=decide_eq_false (by omega)
  by_cases r2:x.2.size≤200
  case neg =>
   have t2:decide ((x.2.size:Int) > 200)=true:=decide_eq_true (by omega)
   simp (disch:=try exact DI) only [↓PR,QR,simprocAttr,d,(cells_of_heap h4).1,↓n11c4,↓n11c1,dk,hA.c2 E,t1,t2]
   exact ⟨by rw [← hI];unfold smallH;simp [r2],E⟩
  have t2:decide ((x.2.size:Int) > 200)=false:=decide_eq_false (by omega)
  simp (disch:=try exact DI) only [↓PR,QR,simprocAttr,d,(cells_of_heap h4).1,↓n11c4,↓n11c1,dk,hA.c2 E,t1,t2,hw]
  refine ⟨⟨k+1,rfl,by omega,e,?_⟩,meas_lt (kd := .i64) hlt⟩
  rw [← hI]
  unfold smallH
  simp [r1,r2]
 have d:decide ((k:Int) < (n.hdrs.length:Int))=false:=decide_eq_false (by omega)
 rw [List.drop_of_length_le (by omega)] at hI
 rw [← hI]
 simp only [List.all_nil,if_true]
 simp (disch:=try exact DI) only [↓PR,QR,simprocAttr,d,(cells_of_heap h4).1]
 refine loop2_intro (fun s i w'=>∃ (z:Int) (k:Nat),s = .int .i64 z∧i = .int .i64 k∧k≤ps.length∧Ext w w' ∧ -1≤z∧z≤1000000∧goF leftT (ps.drop k) z=goF leftT ps (m - 1)) (fun _ i _=>ps.length - (intOf i).toNat) ⟨m - 1,0,congrArg (Value.int .i64) hwm,rfl,by omega,Ext.refl _,by omega,by omega,rfl⟩ ?_
 rintro _ _ w5 ⟨z,j,rfl,rfl,hj,e5,hz0,hz1,hJ⟩
 have E5:=E.trans e5
 have h5:=e5.obj h4
 unfold n11c3
 by_cases hlt:j < ps.length
 case neg =>
  have d:decide ((j:Int) < (ps.length:Int))=false:=decide_eq_false (by omega)
  simp (disch:=try exact DI) only [↓PR,QR,simprocAttr,d,(cells_of_heap h5).1]
  exact ⟨by rw [← hJ,List.drop_of_length_le (by omega)];rfl,E5⟩
 have d:decide ((j:Int) < (ps.length:Int))=true:=decide_eq_true (by omega)
 by_cases hz:0≤z
 case neg =>
  have dz:decide (z≥0)=false:=decide_eq_false (by omega)
  simp (disch:=try exact DI) only [↓PR,QR,simprocAttr,d,dz,(cells_of_heap h5).1]
  exact ⟨by rw [← hJ,goF_neg _ _ _ hz],E5⟩
 have dz:decide (z≥0)=true:=decide_eq_true (by omega)
 have dk:(j:Int) < (ps.length:Int):=by omega
 obtain ⟨x,hx⟩:=getElem?_lt hlt
 obtain ⟨b,o,cs,rfl,hl,hA,hE⟩:=hel j x hx
 obtain ⟨xb,xh,xp,rfl,x1,x2,x3,x4,x5,x6⟩:=hE.op
 have hw:IntKind.i64.wrap ((j:Int)+1)=((j+1:Nat):Int):=by rw [wrap_ok (by omega) (by omega)];omega
 rw [goF_step leftT hx hz] at hJ
 have hb:=left_le x z hz
 simp (disch:=try exact DI) only [↓PR,QR,simprocAttr,d,dz,(cells_of_heap h5).1,↓n11c2,dk,hA.c5 E5]
 refine zcr (ih x (List.mem_of_getElem? hx) w5 _ z (ValAt.ext ⟨xb,xh,xp,rfl,x1,x2,x3⟩ E5) hz hz1) fun w6 e6=>?_
 simp (disch:=try exact DI) only [↓PR,QR,simprocAttr,hw]
 exact ⟨⟨leftT x z,j+1,rfl,rfl,by omega,e5.trans e6,by omega,by omega,hJ⟩,meas_lt (kd := .i64) hlt⟩
noncomputable def smallT (t:Tr):Bool:=decide (0≤leftT t 200)
theorem small_facts {t:Tr} (h:smallT t=true):nodesT t≤200∧allT smallN t=true:=by
 obtain ⟨_,_,h3⟩:=left_le t 200 (by omega)
 have h:=of_decide_eq_true h
 obtain ⟨a,b⟩:=h3 h
 exact ⟨by omega,b⟩
theorem vsmall_ret (w0:World) (v:Value) (t:Tr) (h:ValAt w0 v t):Ret Pg 10 #[v] w0 fun r w'=>r = .bool (smallT t)∧Ext w0 w':=by
 obtain ⟨bv,hv,pv,rfl,hB,hH,hT,o1,o2,o3⟩:=h.op
 refine n13s (R:=retR _) ?_;unfold n13
 rw [op_boxA]
 have h0:=heap_new w0 (trCells t.nd bv hv pv).toArray 26
 have e0:Ext w0 (w0.alloc (.cells (trCells t.nd bv hv pv).toArray 26)):=ee
 generalize (w0.alloc (.cells (trCells t.nd bv hv pv).toArray 26))=X at h0 e0 ⊢
 generalize w0.heap.size=p1 at h0 ⊢
 simp (disch:=try exact DI) only [↓PR,QR,simprocAttr,(cells_of_heap h0).1]
 refine zcr (left_ret t X _ 200 (ValAt.ext ⟨bv,hv,pv,rfl,hB,hH,hT⟩ e0) (by omega) (by omega)) fun w1 e1=>?_
 simp (disch:=try exact DI) only [↓PR,QR,simprocAttr]
 exact ⟨by unfold smallT;rfl,e0.trans e1⟩
theorem Clone_byte_ret (w0:World) (v:Value) (css:List (Cs 1)) (hs:SliceOf w0 1 (fun _ cs x=>cs=x.1) v css) (h1:∀ x∈css,∀ u∈x.1,u.oneCell'=true) (hb:css.length≤1048576) :
 Ret Pg 47 #[v] w0 fun r w'=>OwnE w' w0.heap.size 5 1 Subtype.val r css∧Ext w0 w':=by
 obtain ⟨A,c,rfl,hlc,hcm,hlm,hel⟩:=SliceOf.open hs
 refine n38s (R:=retR _) ?_;unfold n38
 simp (disch:=try exact DI) only [↓PR,QR,simprocAttr]
 cases A with
 | none =>
  have:css=[]:=by
   cases css with
   | nil=>rfl
   | cons x l=>obtain ⟨_,_,_,h,_⟩:=hel 0 x rfl;cases h
  subst this
  simp only [Option.isNone_none]
  simp (disch:=try exact DI) only [↓PR,QR,simprocAttr]
  exact ⟨OwnE.nil _ _ _ _ _,ee⟩
 | some a =>
  simp only [Option.isNone_some]
  simp (disch:=try exact DI) only [↓PR,QR,simprocAttr]
  have hO:=OwnE.new w0 5 1 (Subtype.val:Cs 1→List Value) [] (fun x=>x.2) (by simp)
  simp only [List.flatMap_nil,List.length_nil] at hO
  have eW:Ext w0 (w0.alloc (.cells #[] 5)):=ee
  have hsz:w0.heap.size≤(w0.alloc (.cells #[] 5)).heap.size:=eW.size
  generalize w0.alloc (.cells #[] 5)=W at hO eW hsz ⊢
  cases hcs:css with
  | nil =>
   subst hcs
   simp only [List.length_nil]
   rw [op_append0 Tryz.underlying22 ty5 _ _ _ _ _ (Nat.le_refl 0)]
   simp (disch:=try exact DI) only [↓PR,QR,simprocAttr]
   exact ⟨hO,eW⟩
  | cons x0 l0 =>
   obtain ⟨b,o,_,hA,_⟩:=hel 0 x0 (by rw [hcs];rfl)
   injection hA with hA
   subst hA
   rw [← hcs]
   refine op_appendE Tryz.underlying22 ty5 rfl (by decide) (fun x=>x.2) h1 hO (fun j x hx=>?_) hsz ?_ (by simp;omega) ?_
   · obtain ⟨b',o',cs,hA',hl',hE,rfl⟩:=hel j x hx
     injection hA' with hA'
     injection hA' with h3 h4
     subst h3 h4
     exact hE.ext eW
   · have:=by5
     rw [List.length_nil,Nat.zero_add]
     exact Nat.le_trans (Nat.mul_le_mul hb this) (by decide)
   · intro v' w' ho hg
     simp (disch:=try exact DI) only [↓PR,QR,simprocAttr]
     refine ⟨ho,eW.grown hg ?_⟩
     intro k hk
     have h:=hO.lt k hk
     exact h.1
theorem Clone_Header_ret (w0:World) (v:Value) (css:List (Cs 2)) (hs:SliceOf w0 2 (fun _ cs x=>cs=x.1) v css) (h1:∀ x∈css,∀ u∈x.1,u.oneCell'=true) (hb:css.length≤1048576) :
 Ret Pg 48 #[v] w0 fun r w'=>OwnE w' w0.heap.size 74 2 Subtype.val r css∧Ext w0 w':=by
 obtain ⟨A,c,rfl,hlc,hcm,hlm,hel⟩:=SliceOf.open hs
 refine n36s (R:=retR _) ?_;unfold n36
 simp (disch:=try exact DI) only [↓PR,QR,simprocAttr]
 cases A with
 | none =>
  have:css=[]:=by
   cases css with
   | nil=>rfl
   | cons x l=>obtain ⟨_,_,_,h,_⟩:=hel 0 x rfl;cases h
  subst this
  simp only [Option.isNone_none]
  simp (disch:=try exact DI) only [↓PR,QR,simprocAttr]
  exact ⟨OwnE.nil _ _ _ _ _,ee⟩
 | some a =>
  simp only [Option.isNone_some]
  simp (disch:=try exact DI) only [↓PR,QR,simprocAttr]
  have hO:=OwnE.new w0 74 2 (Subtype.val:Cs 2→List Value) [] (fun x=>x.2) (by simp)
  simp only [List.flatMap_nil,List.length_nil] at hO
  have eW:Ext w0 (w0.alloc (.cells #[] 74)):=ee
  have hsz:w0.heap.size≤(w0.alloc (.cells #[] 74)).heap.size:=eW.size
  generalize w0.alloc (.cells #[] 74)=W at hO eW hsz ⊢
  cases hcs:css with
  | nil =>
   subst hcs
   simp only [List.length_nil]
   rw [op_append0 Tryz.underlying23 ty74 _ _ _ _ _ (Nat.le_refl 0)]
   simp (disch:=try exact DI) only [↓PR,QR,simprocAttr]
   exact ⟨hO,eW⟩
  | cons x0 l0 =>
   obtain ⟨b,o,_,hA,_⟩:=hel 0 x0 (by rw [hcs];rfl)
   injection hA with hA
   subst hA
   rw [← hcs]
   refine op_appendE Tryz.underlying23 ty74 rfl (by decide) (fun x=>x.2) h1 hO (fun j x hx=>?_) hsz ?_ (by simp;omega) ?_
   · obtain ⟨b',o',cs,hA',hl',hE,rfl⟩:=hel j x hx
     injection hA' with hA'
     injection hA' with h3 h4
     subst h3 h4
     exact hE.ext eW
   · have:=by74
     rw [List.length_nil,Nat.zero_add]
     exact Nat.le_trans (Nat.mul_le_mul hb this) (by decide)
   · intro v' w' ho hg
     simp (disch:=try exact DI) only [↓PR,QR,simprocAttr]
     refine ⟨ho,eW.grown hg ?_⟩
     intro k hk
     have h:=hO.lt k hk
     exact h.1
theorem Clone_Value_ret (w0:World) (v:Value) (css:List (Cs 5)) (hs:SliceOf w0 5 (fun _ cs x=>cs=x.1) v css) (h1:∀ x∈css,∀ u∈x.1,u.oneCell'=true) (hb:css.length≤1048576) :
 Ret Pg 49 #[v] w0 fun r w'=>OwnE w' w0.heap.size 26 5 Subtype.val r css∧Ext w0 w':=by
 obtain ⟨A,c,rfl,hlc,hcm,hlm,hel⟩:=SliceOf.open hs
 refine n37s (R:=retR _) ?_;unfold n37
 simp (disch:=try exact DI) only [↓PR,QR,simprocAttr]
 cases A with
 | none =>
  have:css=[]:=by
   cases css with
   | nil=>rfl
   | cons x l=>obtain ⟨_,_,_,h,_⟩:=hel 0 x rfl;cases h
  subst this
  simp only [Option.isNone_none]
  simp (disch:=try exact DI) only [↓PR,QR,simprocAttr]
  exact ⟨OwnE.nil _ _ _ _ _,ee⟩
 | some a =>
  simp only [Option.isNone_some]
  simp (disch:=try exact DI) only [↓PR,QR,simprocAttr]
  have hO:=OwnE.new w0 26 5 (Subtype.val:Cs 5→List Value) [] (fun x=>x.2) (by simp)
  simp only [List.flatMap_nil,List.length_nil] at hO
  have eW:Ext w0 (w0.alloc (.cells #[] 26)):=ee
  have hsz:w0.heap.size≤(w0.alloc (.cells #[] 26)).heap.size:=eW.size
  generalize w0.alloc (.cells #[] 26)=W at hO eW hsz ⊢
  cases hcs:css with
  | nil =>
   subst hcs
   simp only [List.length_nil]
   rw [op_append0 Tryz.underlying24 ty26 _ _ _ _ _ (Nat.le_refl 0)]
   simp (disch:=try exact DI) only [↓PR,QR,simprocAttr]
   exact ⟨hO,eW⟩
  | cons x0 l0 =>
   obtain ⟨b,o,_,hA,_⟩:=hel 0 x0 (by rw [hcs];rfl)
   injection hA with hA
   subst hA
   rw [← hcs]
   refine op_appendE Tryz.underlying24 ty26 rfl (by decide) (fun x=>x.2) h1 hO (fun j x hx=>?_) hsz ?_ (by simp;omega) ?_
   · obtain ⟨b',o',cs,hA',hl',hE,rfl⟩:=hel j x hx
     injection hA' with hA'
     injection hA' with h3 h4
     subst h3 h4
     exact hE.ext eW
   · have:=by26
     rw [List.length_nil,Nat.zero_add]
     exact Nat.le_trans (Nat.mul_le_mul hb this) (by decide)
   · intro v' w' ho hg
     simp (disch:=try exact DI) only [↓PR,QR,simprocAttr]
     refine ⟨ho,eW.grown hg ?_⟩
     intro k hk
     have h:=hO.lt k hk
     exact h.1
def encB (c:UInt8):List Value:=[.int .u8 (c.toNat:Int)]
def encH (x:ByteArray×ByteArray):List Value:=[.string x.1,.string x.2]
def ChainG {α:Type _} (O:α→Nat→Nat→List Value→Prop):List α→Nat→Nat→List (Cs 5)→Prop
 | [],m,hi,[]=>m≤hi
 | r::l,m,hi,c::css=>∃ m',m≤m'∧O r m m' c.1∧ChainG O l m' hi css
 | [],_,_,_::_=>False
 | _::_,_,_,[]=>False
theorem ChainG_map {α β:Type _} (O:β→Nat→Nat→List Value→Prop) (g:α→β):∀ (l:List α) (m hi:Nat) (css:List (Cs 5)),ChainG O (l.map g) m hi css↔ChainG (fun x=>O (g x)) l m hi css
 | [],m,hi,[]=>Iff.rfl
 | [],m,hi,_::_=>Iff.rfl
 | _::_,m,hi,[]=>Iff.rfl
 | x::l,m,hi,c::css=>by
  simp only [List.map_cons,ChainG]
  exact exists_congr fun m'=>and_congr_right fun _=>and_congr_right fun _=>ChainG_map O g l m' hi css
theorem ChainG_imp {α:Type _} {O O':α→Nat→Nat→List Value→Prop}:∀ {l:List α} {m hi:Nat} {css:List (Cs 5)},(∀ x∈l,∀ a b cs,m≤a→b≤hi→O x a b cs→O' x a b cs)→ChainG O l m hi css→ChainG O' l m hi css∧m≤hi
 | [],m,hi,[],_,h=>⟨h,h⟩
 | [],m,hi,_::_,_,h=>h.elim
 | _::_,m,hi,[],_,h=>h.elim
 | x::l,m,hi,c::css,hO,⟨m',h1,h2,h3⟩=>by
  obtain ⟨_,g2⟩:=ChainG_imp (O':=fun _ _ _ _=>True) (fun _ _ _ _ _ _ _ _=>trivial) h3
  obtain ⟨k1,k2⟩:=ChainG_imp (fun y hy a b cs ha hb=>hO y (List.mem_cons_of_mem _ hy) a b cs (Nat.le_trans h1 ha) hb) h3
  exact ⟨⟨m',h1,hO x (List.mem_cons_self ..) m m' c.1 (Nat.le_refl _) g2 h2,k1⟩,Nat.le_trans h1 g2⟩
noncomputable def OwnT (w:World):Tr→Nat→Nat→List Value→Prop:=Tr.fold fun n _ rs lo hi cs=>∃ bv hv pv m css,cs=trCells n bv hv pv∧OwnR w lo m 5 1 encB bv n.bytes∧OwnR w lo m 74 2 encH hv n.hdrs∧OwnR w lo m 26 5 (Subtype.val:Cs 5→List Value) pv css∧lo≤m∧ChainG (fun (r:Nat→Nat→List Value→Prop)=>r) rs m hi css
theorem OwnT_mk {w:World} {n:Nd} {ps:List Tr} {lo hi:Nat} {cs:List Value}:OwnT w (.mk n ps) lo hi cs↔∃ bv hv pv m css,cs=trCells n bv hv pv∧OwnR w lo m 5 1 encB bv n.bytes∧OwnR w lo m 74 2 encH hv n.hdrs∧OwnR w lo m 26 5 (Subtype.val:Cs 5→List Value) pv css∧lo≤m∧ChainG (OwnT w) ps m hi css:=by
 unfold OwnT
 rw [Tr.fold_mk]
 simp only [ChainG_map]
theorem OwnT.ext {w w':World} {t:Tr} {lo hi:Nat} {cs:List Value} (h:OwnT w t lo hi cs) (e:Ext w w'):OwnT w' t lo hi cs:=by
 revert lo hi cs
 refine Tr.ind (p:=fun t=>∀ {lo hi:Nat} {cs:List Value},OwnT w t lo hi cs→OwnT w' t lo hi cs) ?_ t
 intro n ps ih lo hi cs h
 obtain ⟨bv,hv,pv,m,css,h0,h1,h2,h3,h4,h5⟩:=OwnT_mk.1 h
 exact OwnT_mk.2 ⟨bv,hv,pv,m,css,h0,h1.ext e,h2.ext e,h3.ext e,h4,(ChainG_imp (fun x hx a b cs _ _ h=>ih x hx h) h5).1⟩
theorem ChainG_le {α:Type _} {O:α→Nat→Nat→List Value→Prop} {l:List α} {m hi:Nat} {css:List (Cs 5)} (h:ChainG O l m hi css):m≤hi:=(ChainG_imp (O':=fun _ _ _ _=>True) (fun _ _ _ _ _ _ _ _=>trivial) h).2
theorem OwnT.le {w:World} {t:Tr} {lo hi:Nat} {cs:List Value} (h:OwnT w t lo hi cs):lo≤hi:=by
 cases t
 obtain ⟨_,_,_,m,_,_,_,_,_,h4,h5⟩:=OwnT_mk.1 h
 exact Nat.le_trans h4 (ChainG_le h5)
theorem OwnT.only {w w':World} {bk:Nat} (ho:Only bk w w') {t:Tr} {lo hi:Nat} {cs:List Value} (h:OwnT w t lo hi cs) (hb:hi≤bk∨bk < lo):OwnT w' t lo hi cs:=by
 revert lo hi cs
 refine Tr.ind (p:=fun t=>∀ {lo hi:Nat} {cs:List Value},OwnT w t lo hi cs→hi≤bk∨bk < lo→OwnT w' t lo hi cs) ?_ t
 intro n ps ih lo hi cs h hb
 obtain ⟨bv,hv,pv,m,css,h0,h1,h2,h3,h4,h5⟩:=OwnT_mk.1 h
 have hmh:=ChainG_le h5
 have hm:m≤bk∨bk < lo∨False:=by omega
 have hk:m≤bk∨bk < lo:=by omega
 exact OwnT_mk.2 ⟨bv,hv,pv,m,css,h0,h1.only ho (hk.imp id .inl),h2.only ho (hk.imp id .inl),h3.only ho (hk.imp id .inl),h4,(ChainG_imp (fun x hx a b cs ha hb' h=>ih x hx h (by omega)) h5).1⟩
theorem chain_mates {w:World}:∀ {ps:List Tr} {m hi:Nat} {css:List (Cs 5)},(∀ x∈ps,∀ a b cs,OwnT w x a b cs→ETr w cs x)→ChainG (OwnT w) ps m hi css→Mates 5 (ETr w) css ps
 | [],m,hi,[],_,_=>⟨rfl,fun k x cs hx _=>by cases hx⟩
 | [],m,hi,_::_,_,h=>h.elim
 | _::_,m,hi,[],_,h=>h.elim
 | x::l,m,hi,c::css,hO,⟨m',_,h2,h3⟩=>by
  obtain ⟨g1,g2⟩:=chain_mates (fun y hy=>hO y (List.mem_cons_of_mem _ hy)) h3
  refine ⟨by rw [List.length_cons,List.length_cons,g1],fun k y cs hy hc=>?_⟩
  cases k with
  | zero =>
   simp only [List.getElem?_cons_zero,Option.some.injEq] at hy hc
   subst hy hc
   exact hO _ (List.mem_cons_self ..) _ _ _ h2
  | succ k=>exact g2 k y cs (by simpa using hy) (by simpa using hc)
theorem OwnT.read {w:World} {t:Tr} {lo hi:Nat} {cs:List Value} (h:OwnT w t lo hi cs):ETr w cs t:=by
 revert lo hi cs
 refine Tr.ind (p:=fun t=>∀ {lo hi:Nat} {cs:List Value},OwnT w t lo hi cs→ETr w cs t) ?_ t
 intro n ps ih lo hi cs h
 obtain ⟨bv,hv,pv,m,css,h0,h1,h2,h3,h4,h5⟩:=OwnT_mk.1 h
 exact ETr_mk.2 ⟨bv,hv,pv,h0,h1.1.slice (fun _=>rfl) (fun _ _=>rfl),h2.1.slice (fun _=>rfl) (fun _ _=>rfl),h3.1.reads (chain_mates (fun x hx a b cs h=>ih x hx h) h5)⟩
theorem raw_bytes {w:World} {v:Value} {l:List UInt8} (h:BytesOf w v l):SliceOf w 1 (fun _ cs (x:Cs 1)=>cs=x.1) v (l.map fun c=>⟨encB c,rfl⟩):=(slice_map (E:=fun _ cs (x:Cs 1)=>cs=x.1) (F:=EByte) (g:=fun c=>⟨encB c,rfl⟩) fun _ _=>Iff.rfl).2 h
theorem raw_hdrs {w:World} {v:Value} {l:List (ByteArray×ByteArray)} (h:HdrsOf w v l):SliceOf w 2 (fun _ cs (x:Cs 2)=>cs=x.1) v (l.map fun c=>⟨encH c,rfl⟩):=(slice_map (E:=fun _ cs (x:Cs 2)=>cs=x.1) (F:=EHdr) (g:=fun c=>⟨encH c,rfl⟩) fun _ _=>Iff.rfl).2 h
theorem own_map {α:Type} {w:World} {base n:Nat} {T:TypeId} {enc:α→List Value} (hn:∀ x,(enc x).length=n) {v:Value} {l:List α} (h:OwnE w base T n (Subtype.val:Cs n→List Value) v (l.map fun x=>⟨enc x,hn x⟩)):OwnE w base T n enc v l:=by
 unfold OwnE at h ⊢
 rw [List.length_map,List.flatMap_map] at h
 exact h
theorem CloneB_ret (w0:World) (v:Value) (l:List UInt8) (hs:BytesOf w0 v l) (hb:l.length≤1048576):Ret Pg 47 #[v] w0 fun r w'=>OwnE w' w0.heap.size 5 1 encB r l∧Ext w0 w':=by
 refine (Clone_byte_ret w0 v _ (raw_bytes hs) (by simp [encB,Value.oneCell']) (by simpa using hb)).mono ?_
 rintro r w' ⟨h1,h2⟩
 exact ⟨own_map (enc:=encB) (n:=1) (fun _=>rfl) h1,h2⟩
theorem CloneH_ret (w0:World) (v:Value) (l:List (ByteArray×ByteArray)) (hs:HdrsOf w0 v l) (hb:l.length≤1048576):Ret Pg 48 #[v] w0 fun r w'=>OwnE w' w0.heap.size 74 2 encH r l∧Ext w0 w':=by
 refine (Clone_Header_ret w0 v _ (raw_hdrs hs) (fun x hx u hu=>by
  obtain ⟨y,_,rfl⟩:=List.mem_map.1 hx
  simp only [encH,List.mem_cons,List.not_mem_nil,or_false] at hu
  rcases hu with rfl | rfl<;>rfl) (by simpa using hb)).mono ?_
 rintro r w' ⟨h1,h2⟩
 exact ⟨own_map (enc:=encH) (n:=2) (fun _=>rfl) h1,h2⟩
theorem ETr.cells5 {w:World} {cs:List Value} {t:Tr} (h:ETr w cs t):∀ u∈cs,u.oneCell'=true:=by
 obtain ⟨bv,hv,pv,rfl,_,_,_,h1,h2,h3⟩:=h.op
 intro u hu
 simp only [trCells,List.mem_cons,List.not_mem_nil,or_false] at hu
 rcases hu with rfl | rfl | rfl | rfl | rfl
 · rfl
 · rfl
 · exact h1
 · exact h2
 · exact h3
theorem CloneV_ret {W:World} (w0:World) (e:Ext W w0) (v:Value) (l:List Tr) (hs:TrsOf W v l) (hb:l.length≤1048576):Ret Pg 49 #[v] w0 fun r w'=>(∃ css:List (Cs 5),OwnE w' w0.heap.size 26 5 Subtype.val r css∧Mates 5 (ETr W) css l)∧Ext w0 w':=by
 obtain ⟨css,h1,h2⟩:=SliceOf.raw hs
 refine (Clone_Value_ret w0 v css (SliceOf.ext keptRaw h1 e) (fun x hx=>by
  obtain ⟨t,_,ht⟩:=h2.mem hx
  exact ht.cells5) (by rw [h2.1];exact hb)).mono ?_
 rintro r w' ⟨h3,h4⟩
 exact ⟨⟨css,h3,h2⟩,h4⟩
theorem scOnly {b:Nat}:∀ (vs:List Value) (o:Nat) (w:World),Only b w (setCells w b o vs)
 | [],_,_=>fun _ _=>rfl
 | v::vs,o,w=>fun g hg=>(scOnly vs (o+1) (w.setCell ⟨b,o,none⟩ v) g hg).trans (Only.setCell w b o v g hg)
theorem scExt {W:World} {b:Nat} (hb:W.heap.size≤b):∀ (vs:List Value) (o:Nat) {w:World},Ext W w→Ext W (setCells w b o vs)
 | [],_,_,e=>e
 | v::vs,o,w,e=>scExt hb vs (o+1) (e.setCell (by exact hb) v)
theorem scStore {P:Program} {QP:List PanicEntry→World→Prop} {w:World} {T n m:Nat} {z:Value} {ku:World→Prop} (h:TyInfo P T true n m z) {b:Nat} {cur:Array Value} {T':TypeId} (hc:w.heap[b]?=some (.cells cur T' (0,0))) (o:Nat) (vs:List Value) (ho:o+n≤cur.size) (hn:vs.length=n) (hv:∀ v∈vs,v.oneCell'=true) :
 opU P (Instr.storeAt T (.pointer (some ⟨b,o,none⟩)) (.agg vs.toArray)) QP w ku=ku (setCells w b o vs):=by
 refine opU_ok (u:=()) ?_
 have:=run_storeCellsA (P:=P) b o vs 0 w (fun j hj=>⟨cur[o+(0+j)]'(by omega),by rw [(cells_of_heap hc).1];exact Array.getElem?_eq_getElem (by omega)⟩) (fun j hj=>(cells_of_heap hc).2 _) hv
 simp [Instr.storeAt,Instr.sureAddr,storeVar,Sw.run_sizeOf h,cells_agg,hn,this]
theorem ChainG_hi {α:Type _} {O:α→Nat→Nat→List Value→Prop} {hi hi':Nat} (h2:hi≤hi'):∀ {l:List α} {m:Nat} {css:List (Cs 5)},ChainG O l m hi css→ChainG O l m hi' css
 | [],m,[],h=>Nat.le_trans h h2
 | [],m,_::_,h=>h.elim
 | _::_,m,[],h=>h.elim
 | x::l,m,c::css,⟨m',k1,k2,k3⟩=>⟨m',k1,k2,ChainG_hi h2 k3⟩
theorem OwnT.mono {w:World} {t:Tr} {lo hi lo' hi':Nat} {cs:List Value} (h:OwnT w t lo hi cs) (h1:lo'≤lo) (h2:hi≤hi'):OwnT w t lo' hi' cs:=by
 cases t with
 | mk n ps =>
  obtain ⟨bv,hv,pv,m,css,h0,a1,a2,a3,h4,h5⟩:=OwnT_mk.1 h
  refine OwnT_mk.2 ⟨bv,hv,pv,m,css,h0,a1.mono h1 (Nat.le_refl _),a2.mono h1 (Nat.le_refl _),a3.mono h1 (Nat.le_refl _),by omega,?_⟩
  exact ChainG_hi h2 h5
theorem ChainG_snoc {α:Type _} {O:α→Nat→Nat→List Value→Prop} {x:α} {c:Cs 5} {b hi:Nat} (hO:∀ a,a≤b→O x a hi c.1) (hb:b≤hi):∀ {l:List α} {m:Nat} {css:List (Cs 5)},ChainG O l m b css→ChainG O (l++[x]) m hi (css++[c])
 | [],m,[],h=>⟨hi,Nat.le_trans h hb,hO m h,Nat.le_refl _⟩
 | [],m,_::_,h=>h.elim
 | _::_,m,[],h=>h.elim
 | y::l,m,d::css,⟨m',h1,h2,h3⟩=>⟨m',h1,h2,ChainG_snoc hO hb h3⟩
theorem ChainG_len {α:Type _} {O:α→Nat→Nat→List Value→Prop}:∀ {l:List α} {m hi:Nat} {css:List (Cs 5)},ChainG O l m hi css→css.length=l.length
 | [],m,hi,[],_=>rfl
 | [],m,hi,_::_,h=>h.elim
 | _::_,m,hi,[],h=>h.elim
 | _::l,m,hi,_::css,⟨_,_,_,h⟩=>by rw [List.length_cons,List.length_cons,ChainG_len h]
theorem set_one {css:List (Cs 5)} {k:Nat} {c:Cs 5} (h:css[k]?=some c) (d:Cs 5):(css.set k d)[k]?=some d:=by
 have:=(List.getElem?_eq_some_iff.1 h).1
 rw [List.getElem?_set_self this]
theorem OwnE.setAll {w:World} {lo g cap len:Nat} {T:TypeId} {css:List (Cs 5)} (h:OwnE w lo T 5 Subtype.val (.slice (some ⟨g,0,none⟩) len cap) css) {k:Nat} {c:Cs 5} (hk:css[k]?=some c) (d:Cs 5):OwnE (setCells w g (k*5) d.1) lo T 5 Subtype.val (.slice (some ⟨g,0,none⟩) len cap) (css.set k d):=by
 obtain ⟨d,hd⟩:=d
 match d,hd with
 | [d0,d1,d2,d3,d4],hd =>
  have h0:=h.set hk (j:=0) (by omega) d0
  have h1:=h0.set (set_one hk _) (j:=1) (by omega) d1
  have h2:=h1.set (set_one (set_one hk _) _) (j:=2) (by omega) d2
  have h3:=h2.set (set_one (set_one (set_one hk _) _) _) (j:=3) (by omega) d3
  have h4:=h3.set (set_one (set_one (set_one (set_one hk _) _) _) _) (j:=4) (by omega) d4
  simp only [List.set_set] at h4
  obtain ⟨c,hc⟩:=c
  match c,hc with
  | [c0,c1,c2,c3,c4],hc=>exact h4
theorem mem_nodes {n:Nd} {ps:List Tr} {x:Tr} (h:x∈ps):nodesT x+1≤nodesT (.mk n ps):=by
 rw [nodesT_mk]
 have:∀ {l:List Nat} {a:Nat},a∈l→a≤l.sum:=by
  intro l
  induction l with
  | nil=>intro a h;cases h
  | cons b l ih =>
   intro a h
   rw [List.sum_cons]
   rcases List.mem_cons.1 h with rfl | h
   · omega
   · have:=ih h;omega
 have:=this (List.mem_map_of_mem (f:=nodesT) h)
 omega
theorem parts_nodes {n:Nd} {ps:List Tr}:ps.length+1≤nodesT (.mk n ps):=by
 rw [nodesT_mk]
 have:∀ {l:List Tr},l.length≤(l.map nodesT).sum:=by
  intro l
  induction l with
  | nil=>exact Nat.le_refl _
  | cons a l ih =>
   rw [List.map_cons,List.sum_cons,List.length_cons]
   have:1≤nodesT a:=by cases a;rw [nodesT_mk];omega
   omega
 have:=this (l:=ps)
 omega
def fitN (n:Nd):Bool:=decide (n.bytes.length≤1048576)&&decide (n.hdrs.length≤1048576)
noncomputable def fitT (t:Tr):Bool:=allT fitN t&&decide (nodesT t≤1000000)
theorem fitT_mk {n:Nd} {ps:List Tr} (h:fitT (.mk n ps)=true):n.bytes.length≤1048576∧n.hdrs.length≤1048576∧ps.length≤1048576∧∀ x∈ps,fitT x=true:=by
 unfold fitT at h
 rw [allT_mk] at h
 simp only [Bool.and_eq_true,decide_eq_true_eq,fitN,List.all_eq_true] at h
 have:=parts_nodes (n:=n) (ps:=ps)
 refine ⟨h.1.1.1,h.1.1.2,by omega,fun x hx=>?_⟩
 unfold fitT
 rw [Bool.and_eq_true,decide_eq_true_eq]
 have:=mem_nodes (n:=n) hx
 exact ⟨h.1.2 x hx,by omega⟩
structure CpS (w0 w3:World) (p1 p2 m base:Nat) (n:Nd) (ps:List Tr) (rb rh rv:Value) (css:List (Cs 5)) (k:Nat) (w:World):Prop where
 ex:Ext w0 w
 b1:w.heap[p1]?=some (.cells #[.string n.name,.int .i64 n.int,rb,rh,rv] 26 (0,0))
 b2:w.heap[p2]?=some (.cells #[.string ByteArray.empty,.int .i64 0,.slice none 0 0,.slice none 0 0,.slice none 0 0] 26 (0,0))
 ob:OwnR w w0.heap.size m 5 1 encB rb n.bytes
 oh:OwnR w w0.heap.size m 74 2 encH rh n.hdrs
 ov:∃ css':List (Cs 5),OwnR w base m 26 5 (Subtype.val:Cs 5→List Value) rv css'∧ChainG (OwnT w) (ps.take k) m w.heap.size (css'.take k)∧css'.length=ps.length∧∀ j,k≤j→css'[j]?=css[j]?
theorem take_snoc' {α:Type _} {l:List α} {k:Nat} {x:α} (h:l[k]?=some x):l.take (k+1)=l.take k++[x]:=by rw [List.take_add_one,h];rfl
theorem CpS.ext {w0 w3:World} {p1 p2 m base:Nat} {n:Nd} {ps:List Tr} {rb rh rv:Value} {css:List (Cs 5)} {k:Nat} {w w':World} (h:CpS w0 w3 p1 p2 m base n ps rb rh rv css k w) (e:Ext w w'):CpS w0 w3 p1 p2 m base n ps rb rh rv css k w':=by
 obtain ⟨css',ov,hc,hl,hr⟩:=h.ov
 exact ⟨h.ex.trans e,e.obj h.b1,e.obj h.b2,h.ob.ext e,h.oh.ext e,css',ov.ext e,(ChainG_imp (fun y _ a b cs _ _ hy=>OwnT.ext hy e) (ChainG_hi e.size hc)).1,hl,hr⟩
theorem CpS.next {w0 w3:World} {p1 p2 m base:Nat} {n:Nd} {ps:List Tr} {rb rh:Value} {css:List (Cs 5)} {k:Nat} {w w':World} {g cap:Nat} (h:CpS w0 w3 p1 p2 m base n ps rb rh (.slice (some ⟨g,0,none⟩) ps.length cap) css k w) (e:Ext w w') (hb0:w0.heap.size≤base) (h1:p1 < base) (h2:p2 < base) (hm:m≤w.heap.size) {x:Tr} (hx:ps[k]?=some x) {cs:Cs 5} (hT:OwnT w' x w.heap.size w'.heap.size cs.1) (hg:base≤g∧g < m) :
 CpS w0 w3 p1 p2 m base n ps rb rh (.slice (some ⟨g,0,none⟩) ps.length cap) css (k+1) (setCells w' g (k*5) cs.1):=by
 obtain ⟨css',ov,hc,hl,hr⟩:=h.ov
 have hO:Only g w' (setCells w' g (k*5) cs.1):=setCells_only cs.1 w' (k*5)
 have hkl:=(List.getElem?_eq_some_iff.1 hx).1
 obtain ⟨c0,hc0⟩:=getElem?_lt (l:=css') (k:=k) (by omega)
 have ov':=ov.ext e
 have hta:TypeAt w' g 26:=by
  obtain ⟨g',cap',hv,_,_,ht,_⟩:=ov'.1.row (fun x=>x.2) (by omega)
  injection hv with hv
  injection hv with hv
  injection hv with hv
  rw [hv];exact ht
 have es:=e.size
 refine ⟨setCells_ext cs.1 w' (k*5) w0 (h.ex.trans e) (by omega),?_,?_,?_,?_,?_⟩
 · rw [setCells_only cs.1 w' (k*5) p1 (by omega)];exact e.obj h.b1
 · rw [setCells_only cs.1 w' (k*5) p2 (by omega)];exact e.obj h.b2
 · exact (h.ob.ext e).only hO (.inr (.inr ⟨_,hta,by decide⟩))
 · exact (h.oh.ext e).only hO (.inr (.inr ⟨_,hta,by decide⟩))
 · refine ⟨css'.set k cs,⟨OwnE.setAll ov'.1 hc0 cs,ov'.2⟩,?_,by rw [List.length_set];exact hl,fun j hj=>by rw [List.getElem?_set_ne (by omega)];exact hr j (by omega)⟩
   rw [setCells_size,take_snoc' hx,take_snoc' (set_one hc0 cs),List.take_set_of_le (Nat.le_refl k)]
   refine ChainG_snoc (b:=w.heap.size) (fun a ha=>?_) es ?_
   · by_cases hgm:a≤g
     · exact (OwnT.mono (hT.only hO (.inr (by omega))) ha (Nat.le_refl _))
     · exact (OwnT.mono (hT.only hO (.inr (by omega))) ha (Nat.le_refl _))
   · exact (ChainG_imp (fun y _ a b cs ha hb hy=>(OwnT.ext hy e).only hO (.inr (by omega))) hc).1
theorem Copy_ret (t:Tr):∀ (w0:World) (v:Value),ValAt w0 v t→fitT t=true→Ret Pg 16 #[v] w0 fun r w'=>(∃ cs:List Value,r = .agg cs.toArray∧OwnT w' t w0.heap.size w'.heap.size cs)∧Ext w0 w':=by
 refine Tr.ind (p:=fun t=>∀ (w0:World) (v:Value),ValAt w0 v t→fitT t=true→Ret Pg 16 #[v] w0 fun r w'=>(∃ cs:List Value,r = .agg cs.toArray∧OwnT w' t w0.heap.size w'.heap.size cs)∧Ext w0 w') ?_ t
 intro n ps ih w0 v hval hb
 obtain ⟨bv,hv,pv,rfl,f1,f2,f3,f4,f5,f6⟩:=hval.op
 obtain ⟨hl1,hl2,hl3,hfit⟩:=fitT_mk hb
 simp only [Tr.nd,Tr.ps] at f1 f2 f3
 show Ret _ _ #[.agg (trCells n bv hv pv).toArray] _ _
 refine n53s (R:=retR _) ?_;unfold n53
 rw [op_boxA]
 have h0:=heap_new w0 (trCells n bv hv pv).toArray 26
 have e0:Ext w0 (w0.alloc (.cells (trCells n bv hv pv).toArray 26)):=ee
 generalize (w0.alloc (.cells (trCells n bv hv pv).toArray 26))=X at h0 e0 ⊢
 have hq1:w0.heap.size≤w0.heap.size:=Nat.le_refl _
 generalize hp1:w0.heap.size=p1 at h0 ⊢
 simp (disch:=try exact DI) only [↓PR,QR,simprocAttr]
 generalize hY:World.alloc X _=Y
 have eY:Ext X Y:=by rw [← hY];exact (Ext.refl X).alloc _
 have h1:Y.heap[X.heap.size]?=some (.cells #[.string ByteArray.empty,.int .i64 0,.slice none 0 0,.slice none 0 0,.slice none 0 0] 26 (0,0)):=by rw [← hY];exact heap_new _ _ _
 clear hY
 have sX:=eY.size
 have zX:=(Array.getElem?_eq_some_iff.1 h0).1
 have zY:=(Array.getElem?_eq_some_iff.1 h1).1
 generalize hp2:X.heap.size=p2 at h1 zY ⊢
 have h0:=eY.obj h0
 have E1:=e0.trans eY
 refine drawK_intro ?_
 have eD:Ext Y Y.drew:=(Ext.refl Y).drew
 have h0:=eD.obj h0
 have h1:=eD.obj h1
 have E2:=E1.trans eD
 have sD:Y.heap.size≤Y.drew.heap.size:=eD.size
 change n53c7 _ _ (EC Y.drew) _ Y.drew
 generalize Y.drew=D at *
 unfold n53c7
 simp (disch:=try exact DI) only [↓PR,QR,simprocAttr,(cells_of_heap h0).1]
 refine callK_ret (CloneB_ret D _ n.bytes (f1.ext E2) hl1) ?_
 rintro rb w1 ⟨oB,d1⟩
 refine ⟨d1,?_⟩
 simp (disch:=try exact DI) only [↓PR,QR,simprocAttr]
 refine callK_ret (CloneH_ret w1 _ n.hdrs (f2.ext (E2.trans d1)) hl2) ?_
 rintro rh w2 ⟨oH,d2⟩
 have D2:=d1.trans d2
 unfold n53c6
 refine ⟨D2,callK_ret (CloneV_ret w2 (E2.trans D2) _ ps f3 hl3) ?_⟩
 rintro rv w3 ⟨⟨css,oV,hM⟩,d3⟩
 have D3:=D2.trans d3
 refine ⟨D3,?_⟩
 have k0:=D3.obj h0
 have k1:=D3.obj h1
 have s2:=D2.size
 have s3:=d3.size
 have s1:=d1.size
 have hE3:Ext w0 w3:=E2.trans D3
 have hrb:=SliceOf.oneCell (oB.slice (E:=EByte) (fun _=>rfl) (fun _ _=>rfl))
 have hrh:=SliceOf.oneCell (oH.slice (E:=EHdr) (fun _=>rfl) (fun _ _=>rfl))
 have hrv:=SliceOf.oneCell (oV.slice (E:=fun _ cs (x:Cs 5)=>cs=x.1) (fun x=>x.2) (fun _ _=>rfl))
 have g1:=heap_set (o:=2) k0 rb
 have g2:=heap_set (o:=3) g1 rh
 have g3:=heap_set (o:=4) g2 rv
 have u1:=Only.setCell w3 p1 2 rb
 have u2:Only p1 w3 ((w3.setCell ⟨p1,2,none⟩ rb).setCell ⟨p1,3,none⟩ rh):=fun g hg=>(Only.setCell _ p1 3 rh g hg).trans (u1 g hg)
 have u3:Only p1 w3 (((w3.setCell ⟨p1,2,none⟩ rb).setCell ⟨p1,3,none⟩ rh).setCell ⟨p1,4,none⟩ rv):=fun g hg=>(Only.setCell _ p1 4 rv g hg).trans (u2 g hg)
 have eF:Ext w0 (((w3.setCell ⟨p1,2,none⟩ rb).setCell ⟨p1,3,none⟩ rh).setCell ⟨p1,4,none⟩ rv):=((hE3.setCell (by exact hp1 ▸ Nat.le_refl _) _).setCell (by exact hp1 ▸ Nat.le_refl _) _).setCell (by exact hp1 ▸ Nat.le_refl _) _
 have sF:(((w3.setCell ⟨p1,2,none⟩ rb).setCell ⟨p1,3,none⟩ rh).setCell ⟨p1,4,none⟩ rv).heap.size=w3.heap.size:=by simp
 simp (disch:=try exact DI) only [↓PR,QR,simprocAttr,(cells_of_heap k0).1,(cells_of_heap k0).2]
 refine turnK_intro ?_
 unfold n53c5
 simp (disch:=try exact DI) only [↓PR,QR,simprocAttr,(cells_of_heap g1).1,(cells_of_heap g1).2]
 refine turnK_intro ?_
 simp (disch:=try exact DI) only [↓PR,QR,simprocAttr,(cells_of_heap g2).1,(cells_of_heap g2).2]
 refine turnK_intro ?_
 have hS:CpS w0 w3 p1 p2 w3.heap.size w2.heap.size n ps rb rh rv css 0 (((w3.setCell ⟨p1,2,none⟩ rb).setCell ⟨p1,3,none⟩ rh).setCell ⟨p1,4,none⟩ rv):=by
  have q1:=((oB.base (base':=p1) (by omega)).ext (d2.trans d3)).range
  have q2:=((oH.base (base':=p1) (by omega)).ext d3).range
  refine ⟨eF,g3,?_,?_,?_,css,?_,?_,hM.1,fun j _=>rfl⟩
  · rw [u3 p2 (by omega)];exact k1
  · rw [hp1]
    have hta:TypeAt w3 p1 26:=⟨_,_,k0⟩
    exact q1.only u3 (.inr (.inr ⟨_,hta,by decide⟩))
  · rw [hp1]
    have hta:TypeAt w3 p1 26:=⟨_,_,k0⟩
    exact q2.only u3 (.inr (.inr ⟨_,hta,by decide⟩))
  · exact oV.range.only u3 (.inr (.inl (by omega)))
  · rw [List.take_zero,List.take_zero,sF];exact Nat.le_refl _
 have hbp1:p1 < w2.heap.size:=by omega
 have hbp2:p2 < w2.heap.size:=by omega
 have hb0:w0.heap.size≤w2.heap.size:=by omega
 have hm0:w3.heap.size≤(((w3.setCell ⟨p1,2,none⟩ rb).setCell ⟨p1,3,none⟩ rh).setCell ⟨p1,4,none⟩ rv).heap.size:=by omega
 generalize (((w3.setCell ⟨p1,2,none⟩ rb).setCell ⟨p1,3,none⟩ rh).setCell ⟨p1,4,none⟩ rv)=F at hS hm0 ⊢
 generalize w2.heap.size=base at *
 generalize hm:w3.heap.size=m at *
 unfold n53c4
 obtain ⟨A,cap,rfl,hAg⟩:∃ A cap,rv = .slice A ps.length cap∧(0 < ps.length→∃ g,A=some ⟨g,0,none⟩∧base≤g∧g < m):=by
  rcases Nat.eq_zero_or_pos ps.length with h | h
  · rcases oV.2 with ⟨rfl,_⟩ | ⟨g,cap,cur,rfl,_⟩
    · exact ⟨none,0,by rw [h],fun h'=>by omega⟩
    · exact ⟨some ⟨g,0,none⟩,cap,by rw [hM.1],fun h'=>by omega⟩
  · obtain ⟨g,cap,rfl,hg0,hgm,hgt,hgf,hge⟩:=oV.row (fun x=>x.2) (by rw [hM.1];exact h)
    exact ⟨some ⟨g,0,none⟩,cap,by rw [hM.1],fun _=>⟨g,rfl,hg0,by omega⟩⟩
 simp (disch:=try exact DI) only [↓PR,QR,simprocAttr,(cells_of_heap hS.b1).1]
 refine loop1_intro (fun i w=>∃ k:Nat,i = .int .i64 k∧k≤ps.length∧CpS w0 w3 p1 p2 m base n ps rb rh (.slice A ps.length cap) css k w∧m≤w.heap.size) (fun i _=>ps.length - (intOf i).toNat) ⟨0,rfl,by omega,hS,hm0⟩ ?_
 rintro _ w ⟨k,rfl,hk,hS,hmw⟩
 unfold n53c3
 by_cases hlt:k < ps.length
 · obtain ⟨x,hx⟩:=getElem?_lt hlt
   obtain ⟨g,rfl,hg0,hgm⟩:=hAg (by omega)
   have hdec:decide ((k:Int) < (ps.length:Int))=true:=by simp;omega
   simp (disch:=try exact DI) only [↓PR,QR,simprocAttr,hdec]
   refine drawK_intro ?_
   have eD:Ext w (drew w):=(Ext.refl w).drew
   have hS:=hS.ext eD
   have hmw:m≤(drew w).heap.size:=hmw
   generalize drew w=D at *
   obtain ⟨css',ov,hc,hl,hr⟩:=hS.ov
   obtain ⟨c,hc0⟩:=getElem?_lt (l:=css) (k:=k) (by rw [hM.1];exact hlt)
   have hEx:=hM.2 k x c hx hc0
   obtain ⟨bv',hv',pv',hcs,q1,q2,q3,r1,r2,r3⟩:=hEx.op
   obtain ⟨g',cap',hv,hb1,hb2,ht,hf,he⟩:=ov.1.row (fun x=>x.2) (by omega)
   injection hv with hv _ hv2
   injection hv with hv
   injection hv with hv
   subst hv
   have hA:=he k c (by rw [hr k (Nat.le_refl _)];exact hc0)
   rw [hcs] at hA
   have dk:(k:Int) < (ps.length:Int):=by omega
   unfold n53c2
   simp (disch:=try exact DI) only [↓PR,QR,simprocAttr,dk,(cells_of_heap hS.b1).1,hA.c5 (Ext.refl _)]
   refine callK_ret (ih x (List.mem_of_getElem? hx) D (.agg (trCells x.nd bv' hv' pv').toArray) ⟨_,_,_,rfl,q1.ext hS.ex,q2.ext hS.ex,q3.ext hS.ex⟩ (hfit x (List.mem_of_getElem? hx))) ?_
   rintro _ w4 ⟨⟨cs,rfl,hT⟩,e4⟩
   refine ⟨e4,?_⟩
   have h5:cs.length=5:=by
    cases x
    obtain ⟨_,_,_,_,_,rfl,_⟩:=OwnT_mk.1 hT
    rfl
   have hcell:∀ u∈cs,u.oneCell'=true:=(hT.read).cells5
   obtain ⟨cur,hcur,hcl⟩:∃ cur,w4.heap[g]?=some (.cells cur 26 (0,0))∧k*5+5≤cur.size:=by
    rcases (ov.ext e4).1.2 with ⟨h0,_⟩ | ⟨g2,cap2,cur,hv,_,hg2,hcap,_,hsz,_⟩
    · cases h0
    · injection hv with hv
      injection hv with hv
      injection hv with hv
      subst hv
      exact ⟨cur,hg2,by omega⟩
   unfold n53c1
   simp (disch:=try exact DI) only [↓PR,QR,simprocAttr,dk]
   rw [scStore ty26 hcur _ _ hcl h5 hcell]
   refine turnK_intro ?_
   have hN:=hS.next e4 hb0 hbp1 hbp2 hmw hx (cs:=⟨cs,h5⟩) hT ⟨hg0,hgm⟩
   simp (disch:=try exact DI) only [↓PR,QR,simprocAttr]
   refine ⟨⟨k+1,rfl,by omega,hN,?_⟩,meas_lt (kd := .i64) hlt⟩
   show m≤(setCells w4 g (k*5) cs).heap.size
   rw [setCells_size]
   have:=e4.size
   omega
 · obtain rfl:k=ps.length:=by omega
   have hdec:decide ((ps.length:Int) < (ps.length:Int))=false:=by simp
   simp (disch:=try exact DI) only [↓PR,QR,simprocAttr,hdec,(cells_of_heap hS.b1).1,(cells_of_heap hS.b2).1,(cells_of_heap hS.b2).2]
   have z2:=heap_set (o:=4) (heap_set (o:=3) (heap_set (o:=2) (heap_set (o:=1) (heap_set (o:=0) hS.b2 (.string n.name)) (.int .i64 n.int)) rb) rh) (.slice A ps.length cap)
   have hU:Only p2 w (((((w.setCell ⟨p2,0,none⟩ (.string n.name)).setCell ⟨p2,1,none⟩ (.int .i64 n.int)).setCell ⟨p2,2,none⟩ rb).setCell ⟨p2,3,none⟩ rh).setCell ⟨p2,4,none⟩ (.slice A ps.length cap)):=setCells_only [.string n.name,.int .i64 n.int,rb,rh,.slice A ps.length cap] w 0
   have hZ:(((((w.setCell ⟨p2,0,none⟩ (.string n.name)).setCell ⟨p2,1,none⟩ (.int .i64 n.int)).setCell ⟨p2,2,none⟩ rb).setCell ⟨p2,3,none⟩ rh).setCell ⟨p2,4,none⟩ (.slice A ps.length cap)).heap.size=w.heap.size:=setCells_size [.string n.name,.int .i64 n.int,rb,rh,.slice A ps.length cap] w 0
   have hX:Ext w0 (((((w.setCell ⟨p2,0,none⟩ (.string n.name)).setCell ⟨p2,1,none⟩ (.int .i64 n.int)).setCell ⟨p2,2,none⟩ rb).setCell ⟨p2,3,none⟩ rh).setCell ⟨p2,4,none⟩ (.slice A ps.length cap)):=setCells_ext [.string n.name,.int .i64 n.int,rb,rh,.slice A ps.length cap] w 0 w0 hS.ex (by omega)
   generalize (((((w.setCell ⟨p2,0,none⟩ (.string n.name)).setCell ⟨p2,1,none⟩ (.int .i64 n.int)).setCell ⟨p2,2,none⟩ rb).setCell ⟨p2,3,none⟩ rh).setCell ⟨p2,4,none⟩ (.slice A ps.length cap))=F' at hU hZ hX ⊢
   obtain ⟨css',ov,hc,hl,hr⟩:=hS.ov
   rw [List.take_length,List.take_of_length_le (by omega)] at hc
   have hta:TypeAt w p2 26:=⟨_,_,hS.b2⟩
   refine ⟨⟨_,rfl,OwnT_mk.2 ⟨rb,rh,_,m,css',rfl,?_,?_,?_,by omega,?_⟩⟩,hX⟩
   · have:=hS.ob
     rw [hp1] at this
     exact this.only hU (.inr (.inr ⟨_,hta,by decide⟩))
   · have:=hS.oh
     rw [hp1] at this
     exact this.only hU (.inr (.inr ⟨_,hta,by decide⟩))
   · exact (ov.only hU (.inr (.inl hbp2))).mono (by omega) (Nat.le_refl _)
   · exact (ChainG_imp (fun y _ a b cs ha _ hy=>OwnT.only hU hy (.inr (by omega))) hc).1
def AlikeV (k:Nat) (u v:Value):Prop:=u=v∨(∃ kd a b,u = .int kd a∧v = .int kd b)∨∃ a b,u = .string a∧v = .string b∧b.size≤a.size+k
theorem AlikeV.trans {j k:Nat} {u v x:Value} (h:AlikeV j u v) (g:AlikeV k v x):AlikeV (j+k) u x:=by
 rcases h with rfl | ⟨kd,a,b,rfl,rfl⟩ | ⟨a,b,rfl,rfl,h⟩
 · rcases g with rfl | g | ⟨a,b,rfl,rfl,g⟩
   · exact .inl rfl
   · exact .inr (.inl g)
   · exact .inr (.inr ⟨a,b,rfl,rfl,by omega⟩)
 · rcases g with rfl | ⟨kd',a',b',g,rfl⟩ | ⟨a',b',g,_⟩
   · exact .inr (.inl ⟨_,_,_,rfl,rfl⟩)
   · injection g with g _;subst g;exact .inr (.inl ⟨_,_,_,rfl,rfl⟩)
   · cases g
 · rcases g with rfl | ⟨kd',a',b',g,rfl⟩ | ⟨a',b',g,rfl,g'⟩
   · exact .inr (.inr ⟨_,_,rfl,rfl,by omega⟩)
   · cases g
   · injection g with g;subst g;exact .inr (.inr ⟨_,_,rfl,rfl,by omega⟩)
structure Soft (k lo hi:Nat) (w w':World):Prop where
 os:w'.os=w.os
 tape:w'.tape=w.tape
 output:w'.output=w.output
 size:w.heap.size≤w'.heap.size
 out:∀ b,b < w.heap.size→(b < lo∨hi≤b)→w'.heap[b]?=w.heap[b]?
 inn:∀ (b:Nat) (cs:Array Value) (T:TypeId),w.heap[b]?=some (.cells cs T (0,0))→∃ cs':Array Value,w'.heap[b]?=some (.cells cs' T (0,0))∧∀ (j:Nat) (v:Value),cs[j]?=some v→∃ v',cs'[j]?=some v'∧AlikeV k v v'
 oth:∀ (b:Nat) (o:Obj),w.heap[b]?=some o→(∀ cs T,o ≠ .cells cs T (0,0))→w'.heap[b]?=some o
theorem Soft.of {k lo hi:Nat} {w w':World} (e:Ext w w'):Soft k lo hi w w':=⟨e.os,e.tape,e.output,e.size,fun b hb _=>e.block b hb,fun b cs T h=>⟨cs,e.obj h,fun j v hv=>⟨v,hv,.inl rfl⟩⟩,fun b o h _=>e.obj h⟩
theorem Soft.trans {j k lo hi:Nat} {w w1 w2:World} (h:Soft j lo hi w w1) (g:Soft k lo hi w1 w2):Soft (j+k) lo hi w w2:=⟨g.os.trans h.os,g.tape.trans h.tape,g.output.trans h.output,Nat.le_trans h.size g.size,fun b hb hr=>(g.out b (Nat.lt_of_lt_of_le hb h.size) hr).trans (h.out b hb hr),fun b cs T hc=>by
 obtain ⟨cs1,a1,a2⟩:=h.inn b cs T hc
 obtain ⟨cs2,b1,b2⟩:=g.inn b cs1 T a1
 refine ⟨cs2,b1,fun i v hv=>?_⟩
 obtain ⟨v1,c1,c2⟩:=a2 i v hv
 obtain ⟨v2,d1,d2⟩:=b2 i v1 c1
 exact ⟨v2,d1,c2.trans d2⟩,fun b o hb ho=>g.oth b o (h.oth b o hb ho) ho⟩
theorem Soft.ext {k lo hi:Nat} {A w w':World} (h:Soft k lo hi w w') (e:Ext A w) (hA:A.heap.size≤lo):Ext A w':=⟨h.os.trans e.os,h.tape.trans e.tape,h.output.trans e.output,Nat.le_trans e.size h.size,fun b hb=>(h.out b (Nat.lt_of_lt_of_le hb e.size) (.inl (by omega))).trans (e.block b hb)⟩
theorem Soft.setCell {k lo hi:Nat} {w:World} {b o:Nat} {cs:Array Value} {T:TypeId} {u v:Value} (hb:lo≤b∧b < hi) (hc:w.heap[b]?=some (.cells cs T (0,0))) (hu:cs[o]?=some u) (hv:AlikeV k u v):Soft k lo hi w (w.setCell ⟨b,o,none⟩ v):=by
 refine ⟨rfl,rfl,rfl,by simp,fun b' _ hr=>heap_setE (by omega),fun b' cs' T' h'=>?_,fun b' o' h' hne=>?_⟩
 case refine_2 =>
  by_cases e:b'=b
  · subst e
    rw [hc] at h'
    injection h' with h'
    exact absurd h'.symm (hne _ _)
  · rw [heap_setE e];exact h'
 by_cases e:b'=b
 · subst e
   rw [hc] at h'
   injection h' with h'
   injection h' with h1 h2 _
   subst h1 h2
   refine ⟨_,heap_set hc v,fun j x hx=>?_⟩
   by_cases ej:o=j
   · subst ej
     rw [hu] at hx
     injection hx with hx
     subst hx
     exact ⟨v,by rw [Array.getElem?_setIfInBounds,if_pos rfl,if_pos (Array.getElem?_eq_some_iff.1 hu).1],hv⟩
   · exact ⟨x,by rw [Array.getElem?_setIfInBounds,if_neg ej];exact hx,.inl rfl⟩
 · exact ⟨cs',by rw [heap_setE e];exact h',fun j x hx=>⟨x,hx,.inl rfl⟩⟩
def RowIn (w:World) (lo hi:Nat) (T:TypeId) (n:Nat) (E:Nat→List Value→Prop) (len:Nat) (v:Value):Prop:=∃ A cap,v = .slice A len cap∧len≤cap∧∀ k,k < len→∃ b cur cs,A=some ⟨b,0,none⟩∧lo≤b∧b < hi∧w.heap[b]?=some (.cells cur T (0,0))∧cs.length=n∧(∀ (j:Nat) (u:Value),cs[j]?=some u→cur[k*n+j]?=some u)∧E k cs
def AlikeL (k:Nat) (cs cs':List Value):Prop:=cs'.length=cs.length∧∀ (j:Nat) (u v:Value),cs[j]?=some u→cs'[j]?=some v→AlikeV k u v
theorem AlikeL.refl (k:Nat) (cs:List Value):AlikeL k cs cs:=⟨rfl,fun j u v hu hv=>by rw [hu] at hv;injection hv with hv;exact .inl hv⟩
theorem RowIn.soft {k lo hi:Nat} {w w':World} {T:TypeId} {n len:Nat} {E E':Nat→List Value→Prop} {v:Value} (h:RowIn w lo hi T n E len v) (hS:Soft k lo hi w w') (hE:∀ i cs cs',i < len→E i cs→AlikeL k cs cs'→E' i cs'):RowIn w' lo hi T n E' len v:=by
 obtain ⟨A,cap,rfl,hc,hk⟩:=h
 refine ⟨A,cap,rfl,hc,fun i hi'=>?_⟩
 obtain ⟨b,cur,cs,rfl,h1,h2,h3,h4,h5,h6⟩:=hk i hi'
 obtain ⟨cur',g1,g2⟩:=hS.inn b cur T h3
 have hx:∀ j,∃ u',j < cs.length→cur'[i*n+j]?=some u'∧∀ u,cs[j]?=some u→AlikeV k u u':=by
  intro j
  by_cases hj:j < cs.length
  · obtain ⟨u,hu⟩:=getElem?_lt hj
    obtain ⟨u',a1,a2⟩:=g2 _ u (h5 j u hu)
    exact ⟨u',fun _=>⟨a1,fun u2 hu2=>by rw [hu] at hu2;injection hu2 with hu2;subst hu2;exact a2⟩⟩
  · exact ⟨.nilIface,fun h=>absurd h hj⟩
 let f:=fun j=>Classical.choose (hx j)
 have hf:∀ j,j < cs.length→cur'[i*n+j]?=some (f j)∧∀ u,cs[j]?=some u→AlikeV k u (f j):=fun j=>Classical.choose_spec (hx j)
 have hget:∀ j,j < cs.length→((List.range cs.length).map f)[j]?=some (f j):=fun j hj=>by rw [List.getElem?_map,List.getElem?_range hj];rfl
 refine ⟨b,cur',(List.range cs.length).map f,rfl,h1,h2,g1,by simp [h4],fun j u hu=>?_,hE i cs _ hi' h6 ⟨by simp,fun j u v hu hv=>?_⟩⟩
 · have hj:j < cs.length:=by have:=(List.getElem?_eq_some_iff.1 hu).1;simpa using this
   rw [hget j hj] at hu
   injection hu with hu
   rw [← hu]
   exact (hf j hj).1
 · have hj:=(List.getElem?_eq_some_iff.1 hu).1
   rw [hget j hj] at hv
   injection hv with hv
   rw [← hv]
   exact (hf j hj).2 u hu
noncomputable def InS (w:World) (lo hi B:Nat):Tr→List Value→Prop:=Tr.fold fun n _ rs cs=>∃ nm i bv hv pv,cs=[.string nm,.int .i64 i,bv,hv,pv]∧RowIn w lo hi 5 1 (fun _ cs=>∃ x,cs=[.int .u8 x]) n.bytes.length bv∧RowIn w lo hi 74 2 (fun _ cs=>∃ a b,cs=[.string a,.string b]∧a.size≤B) n.hdrs.length hv∧RowIn w lo hi 26 5 (fun k cs=>∃ r,rs[k]?=some r∧r cs) rs.length pv
theorem InS_mk {w:World} {lo hi B:Nat} {n:Nd} {ps:List Tr} {cs:List Value}:InS w lo hi B (.mk n ps) cs↔∃ nm i bv hv pv,cs=[.string nm,.int .i64 i,bv,hv,pv]∧RowIn w lo hi 5 1 (fun _ cs=>∃ x,cs=[.int .u8 x]) n.bytes.length bv∧RowIn w lo hi 74 2 (fun _ cs=>∃ a b,cs=[.string a,.string b]∧a.size≤B) n.hdrs.length hv∧RowIn w lo hi 26 5 (fun k cs=>∃ x,ps[k]?=some x∧InS w lo hi B x cs) ps.length pv:=by
 unfold InS
 rw [Tr.fold_mk]
 simp only [List.length_map,List.getElem?_map,Option.map_eq_some_iff]
 have key:∀ (k:Nat) (cs:List Value),(∃ r:List Value→Prop,(∃ a,ps[k]?=some a∧Tr.fold (fun n _ rs cs=>∃ nm i bv hv pv,cs=[.string nm,.int .i64 i,bv,hv,pv]∧RowIn w lo hi 5 1 (fun _ cs=>∃ x,cs=[.int .u8 x]) n.bytes.length bv∧RowIn w lo hi 74 2 (fun _ cs=>∃ a b,cs=[.string a,.string b]∧a.size≤B) n.hdrs.length hv∧RowIn w lo hi 26 5 (fun k cs=>∃ r,rs[k]?=some r∧r cs) rs.length pv) a=r)∧r cs)↔∃ x,ps[k]?=some x∧InS w lo hi B x cs:=by
  intro k cs
  constructor
  · rintro ⟨_,⟨a,h,rfl⟩,h2⟩;exact ⟨a,h,h2⟩
  · rintro ⟨a,h,h2⟩;exact ⟨_,⟨a,h,rfl⟩,h2⟩
 simp only [key]
 exact Iff.rfl
theorem alike5 {k:Nat} {nm:ByteArray} {i:Int} {a b c:Value} {cs':List Value} (ha:∃ A n m,a = .slice A n m) (hb:∃ A n m,b = .slice A n m) (hc:∃ A n m,c = .slice A n m) (h:AlikeL k [.string nm,.int .i64 i,a,b,c] cs'):∃ nm' i',cs'=[.string nm',.int .i64 i',a,b,c]:=by
 obtain ⟨A,n,m,rfl⟩:=ha
 obtain ⟨A',n',m',rfl⟩:=hb
 obtain ⟨A'',n'',m'',rfl⟩:=hc
 obtain ⟨hl,h⟩:=h
 match cs',hl with
 | [x0,x1,x2,x3,x4],_ =>
  rcases h 0 _ _ rfl rfl with h0 | ⟨_,_,_,h0,_⟩ | ⟨a0,b0,h0,rfl,_⟩
  · subst h0
    rcases h 1 _ _ rfl rfl with h1 | ⟨_,_,_,h1,rfl⟩ | ⟨_,_,h1,_⟩
    · subst h1
      rcases h 2 _ _ rfl rfl with h2 | ⟨_,_,_,h2,_⟩ | ⟨_,_,h2,_⟩<;>try cases h2
      rcases h 3 _ _ rfl rfl with h3 | ⟨_,_,_,h3,_⟩ | ⟨_,_,h3,_⟩<;>try cases h3
      rcases h 4 _ _ rfl rfl with h4 | ⟨_,_,_,h4,_⟩ | ⟨_,_,h4,_⟩<;>try cases h4
      exact ⟨_,_,rfl⟩
    · injection h1 with h1 _
      subst h1
      rcases h 2 _ _ rfl rfl with h2 | ⟨_,_,_,h2,_⟩ | ⟨_,_,h2,_⟩<;>try cases h2
      rcases h 3 _ _ rfl rfl with h3 | ⟨_,_,_,h3,_⟩ | ⟨_,_,h3,_⟩<;>try cases h3
      rcases h 4 _ _ rfl rfl with h4 | ⟨_,_,_,h4,_⟩ | ⟨_,_,h4,_⟩<;>try cases h4
      exact ⟨_,_,rfl⟩
    · cases h1
  · cases h0
  · rcases h 1 _ _ rfl rfl with h1 | ⟨_,_,_,h1,rfl⟩ | ⟨_,_,h1,_⟩
    · subst h1
      rcases h 2 _ _ rfl rfl with h2 | ⟨_,_,_,h2,_⟩ | ⟨_,_,h2,_⟩<;>try cases h2
      rcases h 3 _ _ rfl rfl with h3 | ⟨_,_,_,h3,_⟩ | ⟨_,_,h3,_⟩<;>try cases h3
      rcases h 4 _ _ rfl rfl with h4 | ⟨_,_,_,h4,_⟩ | ⟨_,_,h4,_⟩<;>try cases h4
      exact ⟨_,_,rfl⟩
    · injection h1 with h1 _
      subst h1
      rcases h 2 _ _ rfl rfl with h2 | ⟨_,_,_,h2,_⟩ | ⟨_,_,h2,_⟩<;>try cases h2
      rcases h 3 _ _ rfl rfl with h3 | ⟨_,_,_,h3,_⟩ | ⟨_,_,h3,_⟩<;>try cases h3
      rcases h 4 _ _ rfl rfl with h4 | ⟨_,_,_,h4,_⟩ | ⟨_,_,h4,_⟩<;>try cases h4
      exact ⟨_,_,rfl⟩
    · cases h1
theorem RowIn.isSlice {w:World} {lo hi n len:Nat} {T:TypeId} {E:Nat→List Value→Prop} {v:Value} (h:RowIn w lo hi T n E len v):∃ A m c,v = .slice A m c:=by
 obtain ⟨A,c,rfl,_⟩:=h
 exact ⟨_,_,_,rfl⟩
theorem InS.soft {lo hi k:Nat} {w w':World} (hS:Soft k lo hi w w') (t:Tr):∀ (B:Nat) (cs cs':List Value),InS w lo hi B t cs→AlikeL k cs cs'→InS w' lo hi (B+k) t cs':=by
 refine Tr.ind (p:=fun t=>∀ (B:Nat) (cs cs':List Value),InS w lo hi B t cs→AlikeL k cs cs'→InS w' lo hi (B+k) t cs') ?_ t
 intro n ps ih B cs cs' h hA
 obtain ⟨nm,i,bv,hv,pv,rfl,h1,h2,h3⟩:=InS_mk.1 h
 obtain ⟨nm',i',rfl⟩:=alike5 h1.isSlice h2.isSlice h3.isSlice hA
 refine InS_mk.2 ⟨nm',i',bv,hv,pv,rfl,h1.soft hS ?_,h2.soft hS ?_,h3.soft hS ?_⟩
 · rintro i cs cs' _ ⟨x,rfl⟩ ⟨hl,hx⟩
   match cs',hl with
   | [y],_ =>
    rcases hx 0 _ _ rfl rfl with h9 | ⟨_,_,b,h9,rfl⟩ | ⟨_,_,h9,_⟩
    · exact ⟨x,by rw [h9]⟩
    · cases h9;exact ⟨b,rfl⟩
    · cases h9
 · rintro i cs cs' _ ⟨a,b,rfl,hB⟩ ⟨hl,hx⟩
   match cs',hl with
   | [y,z],_ =>
    rcases hx 0 _ _ rfl rfl with h0 | ⟨_,_,_,h0,_⟩ | ⟨_,a',h0,rfl,ha⟩
    · subst h0
      rcases hx 1 _ _ rfl rfl with h1 | ⟨_,_,_,h1,_⟩ | ⟨_,b',h1,rfl,_⟩
      · subst h1;exact ⟨a,b,rfl,by omega⟩
      · cases h1
      · exact ⟨a,b',rfl,by omega⟩
    · cases h0
    · injection h0 with h0
      subst h0
      rcases hx 1 _ _ rfl rfl with h1 | ⟨_,_,_,h1,_⟩ | ⟨_,b',h1,rfl,_⟩
      · subst h1;exact ⟨a',b,rfl,by omega⟩
      · cases h1
      · exact ⟨a',b',rfl,by omega⟩
 · rintro i cs cs' _ ⟨x,hx,hI⟩ hA
   exact ⟨x,hx,ih x (List.mem_of_getElem? hx) B cs cs' hI hA⟩
theorem RowIn.mono {w:World} {lo hi lo' hi' n len:Nat} {T:TypeId} {E E':Nat→List Value→Prop} {v:Value} (h:RowIn w lo hi T n E len v) (h1:lo'≤lo) (h2:hi≤hi') (hE:∀ k cs,E k cs→E' k cs):RowIn w lo' hi' T n E' len v:=by
 obtain ⟨A,c,rfl,hc,hk⟩:=h
 refine ⟨A,c,rfl,hc,fun k hk'=>?_⟩
 obtain ⟨b,cur,cs,a1,a2,a3,a4,a5,a6,a7⟩:=hk k hk'
 exact ⟨b,cur,cs,a1,by omega,by omega,a4,a5,a6,hE k cs a7⟩
theorem OwnR.rowIn {α:Type} {w:World} {lo hi n:Nat} {T:TypeId} {enc:α→List Value} {v:Value} {l:List α} {E:Nat→List Value→Prop} (h:OwnR w lo hi T n enc v l) (hn:∀ x,(enc x).length=n) (hE:∀ k x,l[k]?=some x→E k (enc x)):RowIn w lo hi T n E l.length v:=by
 rcases h.1.2 with ⟨rfl,h0⟩ | ⟨g,cap,cur,rfl,hb,hg,hc,hm,hs,ht⟩
 · exact ⟨none,0,by rw [h0],by omega,fun k hk=>by omega⟩
 · refine ⟨_,cap,rfl,hc,fun k hk=>?_⟩
   obtain ⟨x,hx⟩:=getElem?_lt hk
   refine ⟨g,cur,enc x,rfl,hb,h.2 g rfl,hg,hn x,fun j u hu=>?_,hE k x hx⟩
   have:=flatMap_get hn l k x j u hx hu
   rw [← ht,List.getElem?_take] at this
   split at this
   · simpa using this
   · cases this
noncomputable def hnT (B:Nat):Tr→Bool:=allT fun n=>n.hdrs.all fun h=>decide (h.1.size≤B)
theorem op_saddZ {w:World} {QP:List PanicEntry→World→Prop} {k:Value→World→Prop} (t:TypeId) (c:Bool) (a b:ByteArray) (h:a.size+b.size≤9223372036854775807):opV Pg (binS .add t c (.string a) (.string b)) QP w k=k (.string (a++b)) w :=
 @op_saddB Pg QP w t c a b a.size b.size ⟨Nat.le_refl _⟩ ⟨Nat.le_refl _⟩ (Nat.ble_eq_true_of_le h) k
theorem q_saddZ {C:World→Prop} [ClassNe C] {k:Value→Prop} (t:TypeId) (c:Bool) (a b:ByteArray) (h:a.size+b.size≤9223372036854775807):qV Pg C (binS .add t c (.string a) (.string b)) k=k (.string (a++b)) :=
 @q_saddB Pg C _ t c a b a.size b.size ⟨Nat.le_refl _⟩ ⟨Nat.le_refl _⟩ (Nat.ble_eq_true_of_le h) k
noncomputable def hdrsT:Tr→Nat:=Tr.fold fun n _ rs=>n.hdrs.length+rs.sum
theorem hdrsT_mk (n:Nd) (ps:List Tr):hdrsT (.mk n ps)=n.hdrs.length+(ps.map hdrsT).sum:=Tr.fold_mk ..
theorem InS.rows {w:World} {lo hi B:Nat} {n:Nd} {ps:List Tr} {nm:ByteArray} {i:Int} {bv hv pv:Value} (h:InS w lo hi B (.mk n ps) [.string nm,.int .i64 i,bv,hv,pv]):RowIn w lo hi 5 1 (fun _ cs=>∃ x,cs=[.int .u8 x]) n.bytes.length bv∧RowIn w lo hi 74 2 (fun _ cs=>∃ a b,cs=[.string a,.string b]∧a.size≤B) n.hdrs.length hv∧RowIn w lo hi 26 5 (fun k cs=>∃ x,ps[k]?=some x∧InS w lo hi B x cs) ps.length pv:=by
 obtain ⟨_,_,bv',hv',pv',hcs,h1,h2,h3⟩:=InS_mk.1 h
 injection hcs with _ hcs
 injection hcs with _ hcs
 injection hcs with e1 hcs
 injection hcs with e2 hcs
 injection hcs with e3 _
 subst e1 e2 e3
 exact ⟨h1,h2,h3⟩
theorem spoil_ret (t:Tr):∀ (w0:World) (cs:List Value) (lo hi B:Nat),InS w0 lo hi B t cs→hi≤w0.heap.size→B+hdrsT t≤1000000000→fitT t=true→Ret Pg 17 #[.agg cs.toArray] w0 fun _ w'=>Soft (hdrsT t) lo hi w0 w':=by
 refine Tr.ind (p:=fun t=>∀ (w0:World) (cs:List Value) (lo hi B:Nat),InS w0 lo hi B t cs→hi≤w0.heap.size→B+hdrsT t≤1000000000→fitT t=true→Ret Pg 17 #[.agg cs.toArray] w0 fun _ w'=>Soft (hdrsT t) lo hi w0 w') ?_ t
 intro n ps ih w0 cs lo hi B hI hhi hB hf
 obtain ⟨hl1,hl2,hl3,hfit⟩:=fitT_mk hf
 rw [hdrsT_mk] at hB ⊢
 obtain ⟨nm,i,bv,hv,pv,rfl,h1,h2,h3⟩:=InS_mk.1 hI
 obtain ⟨A1,c1,rfl,_,_⟩:=h1
 obtain ⟨A2,c2,rfl,_,_⟩:=h2
 obtain ⟨A3,c3,rfl,_,_⟩:=h3
 refine n14s (R:=retR _) ?_;unfold n14
 rw [op_boxA]
 have h0:=heap_new w0 [.string nm,.int .i64 i,.slice A1 n.bytes.length c1,.slice A2 n.hdrs.length c2,.slice A3 ps.length c3].toArray 26
 have e0:Ext w0 (w0.alloc (.cells [.string nm,.int .i64 i,.slice A1 n.bytes.length c1,.slice A2 n.hdrs.length c2,.slice A3 ps.length c3].toArray 26)):=ee
 have hIX:=hI.soft (k:=0) (Soft.of e0) _ _ _ _ (AlikeL.refl 0 _)
 generalize (w0.alloc (.cells [.string nm,.int .i64 i,.slice A1 n.bytes.length c1,.slice A2 n.hdrs.length c2,.slice A3 ps.length c3].toArray 26))=X at h0 e0 hIX ⊢
 generalize hp:w0.heap.size=p at *
 have hpX:=(Array.getElem?_eq_some_iff.1 h0).1
 have S0:Soft 0 lo hi w0 X:=Soft.of e0
 have hbox:∀ k w,Soft k lo hi X w→w.heap[p]?=some (.cells #[.string nm,.int .i64 i,.slice A1 n.bytes.length c1,.slice A2 n.hdrs.length c2,.slice A3 ps.length c3] 26 (0,0)):=fun k w S=>(S.out p hpX (.inr hhi)).trans h0
 have hIw:∀ k w,Soft k lo hi X w→_:=fun k w S=>InS.rows (hIX.soft S _ _ _ _ (AlikeL.refl k _))
 refine loop1_intro (fun a w=>∃ k:Nat,a = .int .i64 k∧k≤n.bytes.length∧Soft 0 lo hi X w) (fun a _=>n.bytes.length - (intOf a).toNat) ⟨0,rfl,by omega,Soft.of (Ext.refl _)⟩ ?_
 rintro _ w ⟨k,rfl,hk,S⟩
 have hb:=hbox 0 w S
 unfold n14c7
 by_cases hlt:k < n.bytes.length
 · have hdec:decide ((k:Int) < (n.bytes.length:Int))=true:=by simp;omega
   obtain ⟨A,c,hv,hc,hk2⟩:=(hIw 0 w S).1
   injection hv with hv1 _ hv2
   subst hv1 hv2
   obtain ⟨b,cur,cs,rfl,q1,q2,q3,q4,q5,x,rfl⟩:=hk2 k hlt
   have q5:=q5 0 _ rfl
   simp only [Nat.add_zero] at q5
   have hcell:w.cell? ⟨b,k*1,none⟩=some (.int .u8 x):=by rw [(cells_of_heap q3).1];exact q5
   have hfr:w.frozen? ⟨b,k*1,none⟩=false:=(cells_of_heap q3).2 _
   have dk:(k:Int) < (n.bytes.length:Int):=by omega
   simp (disch:=try exact DI) only [↓PR,QR,simprocAttr,hdec,(cells_of_heap hb).1]
   unfold n14c6
   simp (disch:=try exact DI) only [↓PR,QR,simprocAttr,dk,(cells_of_heap hb).1,hcell,hfr]
   refine ⟨⟨k+1,rfl,by omega,?_⟩,meas_lt (kd := .i64) hlt⟩
   exact S.trans (k:=0) (Soft.setCell ⟨q1,q2⟩ q3 q5 (.inr (.inl ⟨_,_,_,rfl,rfl⟩)))
 have hk':k=n.bytes.length:=by omega
 subst hk'
 have hdec:decide ((n.bytes.length:Int) < (n.bytes.length:Int))=false:=by simp
 simp (disch:=try exact DI) only [↓PR,QR,simprocAttr,hdec,(cells_of_heap hb).1]
 refine loop1_intro (fun a w=>∃ k:Nat,a = .int .i64 k∧k≤n.hdrs.length∧Soft k lo hi X w) (fun a _=>n.hdrs.length - (intOf a).toNat) ⟨0,rfl,by omega,S⟩ ?_
 clear hb S w hlt hdec hk
 rintro _ w ⟨k,rfl,hk,S⟩
 have hb:=hbox k w S
 unfold n14c5
 by_cases hlt:k < n.hdrs.length
 · have hdec:decide ((k:Int) < (n.hdrs.length:Int))=true:=by simp;omega
   obtain ⟨A,c,hv,hc,hk2⟩:=(hIw k w S).2.1
   injection hv with hv1 _ hv2
   subst hv1 hv2
   obtain ⟨b,cur,cs,rfl,q1,q2,q3,q4,q5,x,y,rfl,hx⟩:=hk2 k hlt
   have q5:=q5 0 _ rfl
   simp only [Nat.add_zero] at q5
   have dk:(k:Int) < (n.hdrs.length:Int):=by omega
   simp (disch:=try exact DI) only [↓PR,QR,simprocAttr,hdec,(cells_of_heap hb).1]
   refine drawK_intro ?_
   have eD:Ext w (drew w):=(Ext.refl w).drew
   have S':=S.trans (Soft.of (k:=0) (lo:=lo) (hi:=hi) eD)
   have hb:=eD.obj hb
   have q3:=eD.obj q3
   generalize drew w=D at *
   have hcell:D.cell? ⟨b,k*2,none⟩=some (.string x):=by rw [(cells_of_heap q3).1];exact q5
   have hfr:D.frozen? ⟨b,k*2,none⟩=false:=(cells_of_heap q3).2 _
   unfold n14c1
   simp (disch:=try exact DI) only [↓PR,QR,simprocAttr,dk,(cells_of_heap hb).1,hcell,hfr]
   have hx1:(⟨#[120]⟩:ByteArray).size=1:=rfl
   rw [q_saddZ _ _ _ _ (by rw [hx1];omega)]
   simp (disch:=try exact DI) only [↓PR,QR,simprocAttr,dk,hcell,hfr]
   refine turnK_intro ?_
   simp (disch:=try exact DI) only [↓PR,QR,simprocAttr]
   refine ⟨⟨k+1,rfl,by omega,S'.trans (Soft.setCell ⟨q1,q2⟩ q3 q5 (.inr (.inr ⟨_,_,rfl,rfl,?_⟩)))⟩,meas_lt (kd := .i64) hlt⟩
   rw [ByteArray.size_append,hx1]
   exact Nat.le_refl _
 have hk':k=n.hdrs.length:=by omega
 subst hk'
 have hdec:decide ((n.hdrs.length:Int) < (n.hdrs.length:Int))=false:=by simp
 simp (disch:=try exact DI) only [↓PR,QR,simprocAttr,hdec,(cells_of_heap hb).1]
 have hsum:∀ k x,ps[k]?=some x→((ps.map hdrsT).take (k+1)).sum=((ps.map hdrsT).take k).sum+hdrsT x:=fun k x hx=>sum_take_succ (by rw [List.getElem?_map,hx];rfl)
 have hle:∀ k,((ps.map hdrsT).take k).sum≤(ps.map hdrsT).sum:=fun k=>sum_take_le _ k
 refine loop1_intro (fun a w=>∃ k:Nat,a = .int .i64 k∧k≤ps.length∧Soft (n.hdrs.length+((ps.map hdrsT).take k).sum) lo hi X w) (fun a _=>ps.length - (intOf a).toNat) ⟨0,rfl,by omega,by simpa using S⟩ ?_
 clear hb S w hlt hdec hk
 rintro _ w ⟨k,rfl,hk,S⟩
 have hb:=hbox _ w S
 unfold n14c4
 by_cases hlt:k < ps.length
 · have hdec:decide ((k:Int) < (ps.length:Int))=true:=by simp;omega
   obtain ⟨A,c,hv,hc,hk2⟩:=(hIw _ w S).2.2
   injection hv with hv1 _ hv2
   subst hv1 hv2
   obtain ⟨b,cur,cs,rfl,q1,q2,q3,q4,q5,x,hx,hIx⟩:=hk2 k hlt
   have hIx:=hIx
   obtain ⟨nm',i',bv',hv',pv',rfl,_⟩:∃ nm' i' bv' hv' pv',cs=[.string nm',.int .i64 i',bv',hv',pv']∧True:=by
    cases x
    obtain ⟨nm',i',bv',hv',pv',h,_⟩:=InS_mk.1 hIx
    exact ⟨_,_,_,_,_,h,trivial⟩
   have hA:ElemAt w b (k*5) [.string nm',.int .i64 i',bv',hv',pv']:=fun j u hu=>by rw [(cells_of_heap q3).1];exact q5 j u hu
   have dk:(k:Int) < (ps.length:Int):=by omega
   simp (disch:=try exact DI) only [↓PR,QR,simprocAttr,hdec,(cells_of_heap hb).1]
   unfold n14c3
   simp (disch:=try exact DI) only [↓PR,QR,simprocAttr,dk,(cells_of_heap hb).1,hA.c5 (Ext.refl _)]
   refine callK_ret (ih x (List.mem_of_getElem? hx) w _ lo hi _ hIx (Nat.le_trans (by omega) S.size) ?_ (hfit x (List.mem_of_getElem? hx))) ?_
   · have h1:=hsum k x hx
     have h2:=hle (k+1)
     omega
   rintro _ w2 S2
   have hb:=(S2.out p (Nat.lt_of_lt_of_le hpX S.size) (.inr hhi)).trans hb
   obtain ⟨cur2,z1,z2⟩:=S2.inn b cur _ q3
   obtain ⟨u1,z3,z4⟩:=z2 _ _ (q5 1 _ rfl)
   obtain ⟨i2,rfl⟩:∃ i2,u1 = .int .i64 i2:=by
    rcases z4 with h | ⟨_,_,b',h,rfl⟩ | ⟨_,_,h,_⟩
    · exact ⟨_,h.symm⟩
    · cases h;exact ⟨_,rfl⟩
    · cases h
   have hcell:w2.cell? ⟨b,k*5+1,none⟩=some (.int .i64 i2):=by rw [(cells_of_heap z1).1];exact z3
   have hfr:w2.frozen? ⟨b,k*5+1,none⟩=false:=(cells_of_heap z1).2 _
   unfold n14c2
   simp (disch:=try exact DI) only [↓PR,QR,simprocAttr,dk,(cells_of_heap hb).1,hcell,hfr]
   refine ⟨⟨k+1,rfl,by omega,?_⟩,meas_lt (kd := .i64) hlt⟩
   rw [hsum k x hx,← Nat.add_assoc]
   exact S.trans (S2.trans (j:=hdrsT x) (k:=0) (Soft.setCell ⟨q1,q2⟩ z1 z3 (.inr (.inl ⟨_,_,_,rfl,rfl⟩))))
 · have hk':k=ps.length:=by omega
   subst hk'
   have hdec:decide ((ps.length:Int) < (ps.length:Int))=false:=by simp
   simp (disch:=try exact DI) only [↓PR,QR,simprocAttr,hdec,(cells_of_heap hb).1]
   rw [List.take_of_length_le (by simp)] at S
   have:=S0.trans S
   rwa [Nat.zero_add] at this
structure Wr (base:Nat) (X w:World):Prop where
 below:Below base X w
 other:Go.Lib.OthersKept 5 none X w
theorem Wr.refl (base:Nat) (X:World):Wr base X X:=⟨Below.refl _ _,Go.Lib.OthersKept.refl _ _ _⟩
theorem Wr.trans {base:Nat} {X Y Z:World} (h:Wr base X Y) (g:Wr base Y Z):Wr base X Z:=⟨h.below.trans g.below,h.other.trans g.other⟩
theorem Wr.of {base:Nat} {X Y:World} (hb:base≤X.heap.size) (e:Ext X Y):Wr base X Y:=⟨⟨e.os,e.tape,e.output,e.size,fun k hk=>e.block k (by omega)⟩,fun k o h _ _=>e.obj h⟩
theorem Wr.size {base:Nat} {X Y:World} (h:Wr base X Y):X.heap.size≤Y.heap.size:=h.below.size
theorem Wr.from {base:Nat} {A X Y:World} (h:Wr base X Y) (e:Ext A X) (hA:A.heap.size≤base):Ext A Y:=⟨h.below.os.trans e.os,h.below.tape.trans e.tape,h.below.output.trans e.output,Nat.le_trans e.size h.size,fun k hk=>(h.below.block k (by omega)).trans (e.block k hk)⟩
theorem Wr.obj {base b:Nat} {X Y:World} (h:Wr base X Y) {cs:Array Value} {T:TypeId} {fr:Nat×Nat} (hc:X.heap[b]?=some (.cells cs T fr)) (hT:T≠5):Y.heap[b]?=some (.cells cs T fr):=h.other b _ hc (by simp) (fun c fz e=>by injection e with _ e _;exact hT e)
theorem Wr.grown {α:Type} {base n:Nat} {w w':World} {enc:α→List Value} {v:Value} {l:List α} (ho:OwnE w base 5 n enc v l) (hbase:base≤w.heap.size) (hg:w.grownBy w' v.ownBlock):Wr base w w':=by
 refine ⟨⟨hg.os,hg.tape,hg.output,hg.size,fun k hk=>hg.block k (by omega) (fun e=>?_)⟩,(Go.Lib.OthersKept.refl _ _ _).grown hg fun g h=>?_⟩
 · have:=(World.ownsRow.lt ho k e.symm).1
   omega
 · rcases ho.2 with ⟨rfl,_⟩ | ⟨g',cap,cur,rfl,_,hg',_⟩
   · cases h
   · injection h with h
     subst h
     exact ⟨_,_,hg'⟩
structure Gr (v:Value) (w:World) (v':Value) (w':World):Prop where
 size:w.heap.size≤w'.heap.size
 keep:∀ b,b < w.heap.size→v.ownBlock≠some b→w'.heap[b]?=w.heap[b]?
 blk:v'.ownBlock=v.ownBlock∨∀ g,v'.ownBlock=some g→w.heap.size≤g
theorem Gr.refl (v:Value) (w:World):Gr v w v w:=⟨Nat.le_refl _,fun _ _ _=>rfl,.inl rfl⟩
theorem Gr.ext {v:Value} {w w':World} (e:Ext w w'):Gr v w v w':=⟨e.size,fun b hb _=>e.block b hb,.inl rfl⟩
theorem Gr.trans {v v' v'':Value} {w w' w'':World} (h:Gr v w v' w') (g:Gr v' w' v'' w''):Gr v w v'' w'':=by
 refine ⟨Nat.le_trans h.size g.size,fun b hb hv=>?_,?_⟩
 · rw [← h.keep b hb hv]
   refine g.keep b (Nat.lt_of_lt_of_le hb h.size) fun e=>?_
   rcases h.blk with h1 | h1
   · rw [h1] at e;exact hv e
   · have:=h1 b e;omega
 · rcases g.blk with h2 | h2
   · rcases h.blk with h1 | h1
     · exact .inl (h2.trans h1)
     · exact .inr fun g hg=>h1 g (by rw [← h2];exact hg)
   · exact .inr fun g hg=>Nat.le_trans h.size (h2 g hg)
abbrev OwnB (w:World) (base:Nat) (v:Value) (l:List UInt8):Prop:=OwnE w base 5 1 encB v l
theorem app_bytes {w:World} {QP:List PanicEntry→World→Prop} {k:Value→World→Prop} {base:Nat} {v:Value} {l:List UInt8} (cs:List UInt8) {b c n:Nat} (hn:n=cs.length) (hne:cs≠[]) (hown:OwnB w base v l) (hc:∀ j x,cs[j]?=some x→w.cell? ⟨b,j,none⟩=some (.int .u8 (x.toNat:Int))) (hbase:base≤w.heap.size) (hl:l.length+cs.length≤140737488355328)
 (hk:∀ v' w',OwnB w' base v' (l++cs)→Wr base w w'→Gr v w v' w'→k v' w'):opV Pg (Builtin.append_ #[22,22] 22 #[v,.slice (some ⟨b,0,none⟩) n c]) QP w k:=by
 subst hn
 have hby:=by5
 refine op_appendL (l':=cs) Tryz.underlying22 ty5 rfl (by decide) (fun _=>rfl) (fun x _ u hu=>?_) hown (fun j y hy=>?_) hbase (List.length_pos_iff.2 hne) ?_ hl fun g cap w' ho hg hgb _=>hk _ w' (by rw [← List.length_append] at ho ⊢;exact ho) (Wr.grown hown hbase hg) ⟨hg.size,fun b hb hv=>hg.block b hb (fun e=>hv e.symm),?_⟩
 · simp only [encB,List.mem_singleton] at hu
   subst hu
   rfl
 · intro i u hu
   have:=hc j y hy
   rw [Nat.mul_one,Nat.zero_add]
   cases i with
   | zero =>
    simp only [encB,List.getElem?_cons_zero,Option.some.injEq] at hu
    subst hu
    exact this
   | succ i=>simp [encB] at hu
 · exact Nat.le_trans (Nat.mul_le_mul hl (Nat.le_of_eq rfl)) (by decide)
 · rcases hgb with h | h
   · exact .inl h.symm
   · exact .inr fun g' hg'=>by cases hg';exact Nat.le_of_eq h.symm
theorem encB_flat (l:List UInt8):l.flatMap encB=l.map fun b=>Value.int .u8 b.toNat:=by
 induction l with
 | nil=>rfl
 | cons a l ih=>rw [List.flatMap_cons,ih];rfl
theorem app_str {w:World} {QP:List PanicEntry→World→Prop} {k:Value→World→Prop} {base:Nat} {v:Value} {l:List UInt8} (s:ByteArray) (hown:OwnB w base v l) (hbase:base≤w.heap.size) (hl:l.length+s.size≤140737488355328)
 (hk:∀ v' w',OwnB w' base v' (l++s.data.toList)→Wr base w w'→k v' w'):opV Pg (Builtin.append_ #[22,9] 22 #[v,.string s]) QP w k:=by
 obtain ⟨⟨i,hi,hs,hby,hzz⟩,_⟩:=ty5
 obtain ⟨v',w',hr,ho,hg,_⟩:=Go.Lib.run_append_own_string (P:=Pg) (w:=w) base 22 9 22 5 i Tryz.underlying22 Tryz.underlying9 hi hzz hs hby v l.length (l.flatMap encB) hown s (by simp only [maxLen];omega) hl hbase
 rw [opV_ok hr]
 refine hk v' w' ?_ (Wr.grown hown hbase hg)
 unfold OwnB OwnE
 rw [List.flatMap_append,List.length_append,encB_flat s.data.toList]
 exact ho
theorem app_byte {w:World} {QP:List PanicEntry→World→Prop} {k:Value→World→Prop} {base:Nat} {v:Value} {l:List UInt8} (x:UInt8) {b:Nat} (hown:OwnB w base v l) (hc:w.heap[b]?=some (.cells #[.int .u8 (x.toNat:Int)] 5 (0,0))) (hbase:base≤w.heap.size) (hl:l.length+1≤140737488355328)
 (hk:∀ v' w',OwnB w' base v' (l++[x])→Wr base w w'→Gr v w v' w'→k v' w'):opV Pg (Builtin.append_ #[22,22] 22 #[v,.slice (some ⟨b,0,none⟩) 1 1]) QP w k:=app_bytes [x] rfl (by simp) hown (fun j y hy=>by
 rw [(cells_of_heap hc).1]
 cases j with
 | zero=>simp only [List.getElem?_cons_zero,Option.some.injEq] at hy;subst hy;rfl
 | succ j=>simp at hy) hbase hl hk
def KT (X:World) (base:Nat):World→Prop:=fun w=>Wr base X w
instance (X:World) (base:Nat):ClassNe (KT X base):=⟨⟨X,Wr.refl _ _⟩⟩
theorem drawK_introT {w:World} (base:Nat) (hb:base≤w.heap.size) {f:(World→Prop)→World→Prop} (h:f (KT w base) (drew w)):drawK w f:=⟨KT w base,Wr.of hb (Ext.refl w).drew,h⟩
theorem qT_load {X:World} {base:Nat} {T:TypeId} {n m:Nat} {z v:Value} {k:Value→Prop} {b o:Nat} (h:TyInfo Pg T false n m z) {cs:Array Value} {T':TypeId} (hc:X.heap[b]?=some (.cells cs T' (0,0))) (hT:T'≠5) (hv:cs[o]?=some v):qV Pg (KT X base) (Instr.loadAt T (.pointer (some ⟨b,o,none⟩))) k=k v :=
 qV_eqC fun w' e=>run_of_op (P:=Pg) (w:=w') (s:=Instr.loadAt T (.pointer (some ⟨b,o,none⟩))) (v:=v) (fun QP k=>op_load1 h (by rw [(cells_of_heap (e.obj hc hT)).1];exact hv))
theorem qT_loadA {X A:World} {base:Nat} {T:TypeId} {n m:Nat} {z v:Value} {k:Value→Prop} {b o:Nat} (h:TyInfo Pg T false n m z) (eA:Ext A X) (hA:A.heap.size≤base) (hc:A.cell? ⟨b,o,none⟩=some v):qV Pg (KT X base) (Instr.loadAt T (.pointer (some ⟨b,o,none⟩))) k=k v :=
 qV_eqC fun w' e=>run_of_op (P:=Pg) (w:=w') (s:=Instr.loadAt T (.pointer (some ⟨b,o,none⟩))) (v:=v) (fun QP k=>op_load1 h ((e.from eA hA).cell hc))
section
variable {QP:List PanicEntry→World→Prop} {w:World} {k:Value→World→Prop}
theorem op_shr4 (t:TypeId) (c:Bool) (x:UInt8):opV Pg (binS .shr t c (.int .u8 (x.toNat:Int)) (.int .u64 4)) QP w k=k (.int .u8 ((x.toNat / 16:Nat):Int)) w:=opV_ok (by
 simp [binS,go_sem])
theorem bits15 (x:UInt8):bits BinOp.and IntKind.u8 (x.toNat:Int) 15=((x.toNat % 16:Nat):Int):=by
 have key:∀ n:Fin 256,bits BinOp.and IntKind.u8 (n.val:Int) 15=((n.val % 16:Nat):Int):=by decide +kernel
 exact key ⟨x.toNat,x.toNat_lt⟩
theorem op_and15 (t:TypeId) (c:Bool) (x:UInt8):opV Pg (binS .and t c (.int .u8 (x.toNat:Int)) (.int .u8 15)) QP w k=k (.int .u8 ((x.toNat % 16:Nat):Int)) w:=opV_ok (by
 rw [run_bin_int _ _ _ _ _ _ rfl]
 have h15:=bits15 x
 generalize (x.toNat:Int)=y at h15 ⊢
 generalize ((x.toNat % 16:Nat):Int)=z at h15 ⊢
 simp [go_sem,h15])
abbrev hexT:ByteArray:=⟨#[48,49,50,51,52,53,54,55,56,57,97,98,99,100,101,102]⟩
theorem hexT_get (n:Nat) (h:n < 16):hexT.data.toList[n]?=some (hexD n):=by
 have key:∀ n:Fin 16,hexT.data.toList[n.val]?=some (hexD n.val):=by decide +kernel
 exact key ⟨n,h⟩
end
theorem hexL_snoc (l:List UInt8) (c:UInt8):hexL (l++[c])=hexL l++[hexD (c.toNat / 16),hexD (c.toNat % 16)]:=by simp [hexL,List.flatMap_append]
theorem hexL_len (l:List UInt8):(hexL l).length=2*l.length:=by
 induction l with
 | nil=>rfl
 | cons a l ih =>
  show (hexL (a::l)).length=_
  unfold hexL at ih ⊢
  rw [List.flatMap_cons,List.length_append,ih,List.length_cons,List.length_cons,List.length_cons,List.length_nil]
  omega
theorem hexS_ret (w0:World) (base:Nat) (v:Value) (l:List UInt8) (s:ByteArray) (hO:OwnB w0 base v l) (hb:base≤w0.heap.size) (hl:l.length+2*s.size≤140737488355328):Ret Pg 90 #[v,.string s] w0 fun r w'=>OwnB w' base r (l++hexL s.data.toList)∧Wr base w0 w'∧Gr v w0 r w':=by
 refine n71s (R:=retR _) ?_;unfold n71
 simp (disch:=try exact DI) only [↓PR,QR,simprocAttr]
 refine loop2_intro (fun u i w=>∃ k:Nat,i = .int .i64 k∧k≤s.size∧OwnB w base u (l++hexL (s.data.toList.take k))∧Wr base w0 w∧Gr v w0 u w) (fun _ i _=>s.size - (intOf i).toNat) ⟨0,rfl,by omega,by simpa [hexL] using hO,Wr.refl _ _,Gr.refl _ _⟩ ?_
 rintro u _ w ⟨k,rfl,hk,hO,hW,hG⟩
 have hsz:s.data.toList.length=s.size:=Array.length_toList
 have hbw:base≤w.heap.size:=Nat.le_trans hb hW.size
 by_cases hlt:k < s.size
 · have hdec:decide ((k:Int) < (s.size:Int))=true:=by simp;omega
   obtain ⟨c,hc⟩:=getElem?_lt (l:=s.data.toList) (k:=k) (by omega)
   simp (disch:=try exact DI) only [↓PR,QR,simprocAttr,hdec]
   refine drawK_introT base hbw ?_
   unfold n71c1
   have i1:=fun {QP:List PanicEntry→World→Prop} {w:World} {k':Value→World→Prop}=>op_indexS (P:=Pg) (QP:=QP) (w:=w) (k:=k') Tryz.underlying9 s .i64 k hc
   have i2:=fun {QP:List PanicEntry→World→Prop} {w:World} {k':Value→World→Prop}=>op_indexS (P:=Pg) (QP:=QP) (w:=w) (k:=k') Tryz.underlying9 hexT .u8 (c.toNat / 16) (hexT_get _ (by have:=c.toNat_lt;omega))
   have i3:=fun {QP:List PanicEntry→World→Prop} {w:World} {k':Value→World→Prop}=>op_indexS (P:=Pg) (QP:=QP) (w:=w) (k:=k') Tryz.underlying9 hexT .u8 (c.toNat % 16) (hexT_get _ (by omega))
   rw [qV_of fun QP w k=>i1,qV_of fun QP w k=>op_shr4 _ _ c,qV_of fun QP w k=>i2,qV_of fun QP w k=>i1,qV_of fun QP w k=>op_and15 _ _ c,qV_of fun QP w k=>i3]
   simp (disch:=try exact DI) only [↓PR,QR,simprocAttr]
   have eD:Ext w (drew w):=(Ext.refl w).drew
   have wD:Wr base w (drew w):=Wr.of hbw eD
   have gD:Gr v w0 u (drew w):=hG.trans (Gr.ext eD)
   have hO:=hO.ext eD
   have hDz:base≤(drew w).heap.size:=hbw
   show KT _ _ ((drew w).alloc _)∧opV _ (Builtin.append_ _ _ #[u,.slice (some ⟨(drew w).heap.size,0,none⟩) 2 2]) _ ((drew w).alloc _) _
   generalize drew w=D at *
   have o1:=heap_new D #[.int .u8 ((hexD (c.toNat / 16)).toNat:Int),.int .u8 ((hexD (c.toNat % 16)).toNat:Int)] 5
   have e1:Ext D (D.alloc (.cells #[.int .u8 ((hexD (c.toNat / 16)).toNat:Int),.int .u8 ((hexD (c.toNat % 16)).toNat:Int)] 5)):=ee
   generalize (D.alloc (.cells #[.int .u8 ((hexD (c.toNat / 16)).toNat:Int),.int .u8 ((hexD (c.toNat % 16)).toNat:Int)] 5))=E at o1 e1 ⊢
   have wE:=wD.trans (Wr.of hDz e1)
   have gE:=gD.trans (Gr.ext e1)
   have hO:=hO.ext e1
   have hEz:base≤E.heap.size:=Nat.le_trans hDz e1.size
   refine ⟨wE,app_bytes [hexD (c.toNat / 16),hexD (c.toNat % 16)] rfl (by simp) hO (fun j y hy=>?_) hEz ?_ fun v' w' hO' hW' hG'=>?_⟩
   · rw [(cells_of_heap o1).1]
     match j,hy with
     | 0,hy=>simp only [List.getElem?_cons_zero,Option.some.injEq] at hy;subst hy;rfl
     | 1,hy=>simp only [List.getElem?_cons_succ,List.getElem?_cons_zero,Option.some.injEq] at hy;subst hy;rfl
   · rw [List.length_append,hexL_len,List.length_take]
     show _+2≤_
     omega
   · refine ⟨wE.trans hW',?_⟩
     simp (disch:=try exact DI) only [↓PR,QR,simprocAttr]
     refine ⟨⟨k+1,rfl,by omega,?_,hW.trans (wE.trans hW'),gE.trans hG'⟩,meas_lt (kd := .i64) hlt⟩
     rw [take_snoc' hc,hexL_snoc,← List.append_assoc]
     exact hO'
 · have hk':k=s.size:=by omega
   subst hk'
   have hdec:decide ((s.size:Int) < (s.size:Int))=false:=by simp
   simp (disch:=try exact DI) only [↓PR,QR,simprocAttr,hdec]
   rw [← hsz,List.take_length] at hO
   exact ⟨hO,hW,hG⟩
theorem hexB_ret (A w0:World) (base:Nat) (v u:Value) (l s:List UInt8) (hO:OwnB w0 base v l) (hb:base≤w0.heap.size) (hA:Ext A w0) (hAb:A.heap.size≤base) (hs:BytesOf A u s) (hl:l.length+2*s.length≤140737488355328):Ret Pg 89 #[v,u] w0 fun r w'=>OwnB w' base r (l++hexL s)∧Wr base w0 w':=by
 obtain ⟨B,cap,rfl,_,_,_,hel⟩:=SliceOf.open hs
 refine n70s (R:=retR _) ?_;unfold n70
 simp (disch:=try exact DI) only [↓PR,QR,simprocAttr]
 refine loop2_intro (fun u i w=>∃ k:Nat,i = .int .i64 k∧k≤s.length∧OwnB w base u (l++hexL (s.take k))∧Wr base w0 w) (fun _ i _=>s.length - (intOf i).toNat) ⟨0,rfl,by omega,by simpa [hexL] using hO,Wr.refl _ _⟩ ?_
 rintro u _ w ⟨k,rfl,hk,hO,hW⟩
 have hbw:base≤w.heap.size:=Nat.le_trans hb hW.size
 by_cases hlt:k < s.length
 · have hdec:decide ((k:Int) < (s.length:Int))=true:=by simp;omega
   obtain ⟨c,hc⟩:=getElem?_lt (l:=s) (k:=k) (by omega)
   obtain ⟨b,o,cs,rfl,_,hE,hcs⟩:=hel k c hc
   have dk:(k:Int) < (s.length:Int):=by omega
   have hcell:A.cell? ⟨b,o+k*1,none⟩=some (.int .u8 (c.toNat:Int)):=hE 0 _ (by rw [hcs];rfl)
   simp (disch:=try exact DI) only [↓PR,QR,simprocAttr,hdec]
   refine drawK_introT base hbw ?_
   have eD:Ext w (drew w):=(Ext.refl w).drew
   have wD:Wr base w (drew w):=Wr.of hbw eD
   have hO:=hO.ext eD
   have hDz:base≤(drew w).heap.size:=hbw
   unfold n70c1
   have i2:=fun {QP:List PanicEntry→World→Prop} {w:World} {k':Value→World→Prop}=>op_indexS (P:=Pg) (QP:=QP) (w:=w) (k:=k') Tryz.underlying9 hexT .u8 (c.toNat / 16) (hexT_get _ (by have:=c.toNat_lt;omega))
   have i3:=fun {QP:List PanicEntry→World→Prop} {w:World} {k':Value→World→Prop}=>op_indexS (P:=Pg) (QP:=QP) (w:=w) (k:=k') Tryz.underlying9 hexT .u8 (c.toNat % 16) (hexT_get _ (by omega))
   have q1:=fun {k':Value→Prop}=>qT_loadA (X:=w) (A:=A) (base:=base) (k:=k') ty5 (hW.from hA hAb) hAb hcell
   simp (disch:=try exact DI) only [↓PR,QR,simprocAttr,dk]
   rw [q1,qV_of fun QP w k=>op_shr4 _ _ c,qV_of fun QP w k=>i2]
   simp (disch:=try exact DI) only [↓PR,QR,simprocAttr,dk]
   rw [q1,qV_of fun QP w k=>op_and15 _ _ c,qV_of fun QP w k=>i3]
   simp (disch:=try exact DI) only [↓PR,QR,simprocAttr]
   show KT _ _ ((drew w).alloc _)∧opV _ (Builtin.append_ _ _ #[u,.slice (some ⟨(drew w).heap.size,0,none⟩) 2 2]) _ ((drew w).alloc _) _
   generalize drew w=D at *
   have o1:=heap_new D #[.int .u8 ((hexD (c.toNat / 16)).toNat:Int),.int .u8 ((hexD (c.toNat % 16)).toNat:Int)] 5
   have e1:Ext D (D.alloc (.cells #[.int .u8 ((hexD (c.toNat / 16)).toNat:Int),.int .u8 ((hexD (c.toNat % 16)).toNat:Int)] 5)):=ee
   generalize (D.alloc (.cells #[.int .u8 ((hexD (c.toNat / 16)).toNat:Int),.int .u8 ((hexD (c.toNat % 16)).toNat:Int)] 5))=E at o1 e1 ⊢
   have wE:=wD.trans (Wr.of hDz e1)
   have hO:=hO.ext e1
   have hEz:base≤E.heap.size:=Nat.le_trans hDz e1.size
   refine ⟨wE,app_bytes [hexD (c.toNat / 16),hexD (c.toNat % 16)] rfl (by simp) hO (fun j y hy=>?_) hEz ?_ fun v' w' hO' hW' _=>?_⟩
   · rw [(cells_of_heap o1).1]
     match j,hy with
     | 0,hy=>simp only [List.getElem?_cons_zero,Option.some.injEq] at hy;subst hy;rfl
     | 1,hy=>simp only [List.getElem?_cons_succ,List.getElem?_cons_zero,Option.some.injEq] at hy;subst hy;rfl
   · rw [List.length_append,hexL_len,List.length_take]
     show _+2≤_
     omega
   · refine ⟨wE.trans hW',?_⟩
     simp (disch:=try exact DI) only [↓PR,QR,simprocAttr]
     refine ⟨⟨k+1,rfl,by omega,?_,hW.trans (wE.trans hW')⟩,meas_lt (kd := .i64) hlt⟩
     rw [take_snoc' hc,hexL_snoc,← List.append_assoc]
     exact hO'
 · have hk':k=s.length:=by omega
   subst hk'
   have hdec:decide ((s.length:Int) < (s.length:Int))=false:=by simp
   simp (disch:=try exact DI) only [↓PR,QR,simprocAttr,hdec]
   rw [List.take_length] at hO
   exact ⟨hO,hW⟩
def joinQ:List (List UInt8)→List UInt8
 | []=>[]
 | a::l=>40::(a++l.flatMap (fun x=>32::x))
theorem joinQ_snoc (L:List (List UInt8)) (x:List UInt8):joinQ (L++[x])=joinQ L++((if L=[] then 40 else 32)::x):=by
 cases L with
 | nil=>simp [joinQ]
 | cons a l=>simp [joinQ,List.flatMap_append]
theorem joinP_Q (L:List (List UInt8)):joinP L=joinQ L++(if L=[] then [] else [41]):=by
 cases L with
 | nil=>rfl
 | cons a l=>simp [joinP,joinQ]
theorem joinQ_take (L:List (List UInt8)) (k:Nat):(joinQ (L.take k)).length≤(joinQ L).length:=by
 cases k with
 | zero=>simp [joinQ]
 | succ k =>
  cases L with
  | nil=>simp [joinQ]
  | cons a l =>
   rw [List.take_succ_cons]
   unfold joinQ
   rw [List.length_cons,List.length_cons,List.length_append,List.length_append]
   have:((l.take k).flatMap (fun x=>32::x)).length≤(l.flatMap (fun x=>32::x)).length:=by
    rw [← List.take_append_drop k l,List.flatMap_append,List.length_append,List.take_append_drop]
    exact Nat.le_add_right _ _
   omega
theorem qT_struct {X:World} {base b:Nat} {k:Value→Prop} {cs:List Value} (hl:cs.length=5) (hc:X.heap[b]?=some (.cells cs.toArray 26 (0,0))):qV Pg (KT X base) (Instr.loadAt 26 (.pointer (some ⟨b,0,none⟩))) k=k (.agg cs.toArray) :=
 qV_eqC fun w' e=>run_of_op (P:=Pg) (w:=w') (s:=Instr.loadAt 26 (.pointer (some ⟨b,0,none⟩))) (v := .agg cs.toArray) (fun QP k=>op_load (ElemAt.loads (w:=w') (b:=b) (o:=0) (fun j v hv=>by rw [(cells_of_heap (Wr.obj e hc (by decide))).1,Nat.zero_add];simpa using hv) ty26 hl))
structure WrC (A X:World) (base p:Nat) (n:Nd) (ps:List Tr) (bv hv pv:Value):Prop where
 box:X.heap[p]?=some (.cells #[.string n.name,.int .i64 n.int,bv,hv,pv] 26 (0,0))
 eA:Ext A X
 lo:A.heap.size≤base
 hi:base≤X.heap.size
 tab:TabOK A
 hB:BytesOf A bv n.bytes
 hH:HdrsOf A hv n.hdrs
 hP:TrsOf A pv ps
def WriteT (t:Tr):Prop:=∀ (A w0:World) (base:Nat) (v u:Value) (l:List UInt8),OwnB w0 base u l→base≤w0.heap.size→Ext A w0→A.heap.size≤base→TabOK A→ValAt A v t→allT nodeB t=true→l.length+(textT t).length+30≤140737488355328→Ret Pg 66 #[u,v] w0 fun r w'=>OwnB w' base r (l++textT t)∧Wr base w0 w'
section
variable {A X:World} {base p:Nat} {n:Nd} {ps:List Tr} {bv hv pv:Value} {R:RT}
theorem w_end (C:WrC A X base p n ps bv hv pv) {w:World} {o:Value} {l:List UInt8} (hW:Wr base X w) (hO:OwnB w base o l) (hl:l.length+30≤140737488355328) (hR:∀ r w',OwnB w' base r (l++if ps=[] then [] else [41])→Wr base X w'→R (.returned r) w'):n87c12 (.pointer (some ⟨p,0,none⟩)) o R w:=by
 obtain ⟨B,cap,hpv,_,_,_,hel⟩:=SliceOf.open C.hP
 have hbox:=hW.obj C.box (by decide)
 rw [hpv] at hbox
 unfold n87c12 joinK
 by_cases h0:ps=[]
 · rw [if_pos h0] at hR
   have hdec:decide ((ps.length:Int) > 0)=false:=by rw [h0];rfl
   simp (disch:=try exact DI) only [↓PR,QR,simprocAttr,(cells_of_heap hbox).1,hdec]
   exact hR _ _ (by rw [List.append_nil];exact hO) hW
 · rw [if_neg h0] at hR
   have h1:0 < ps.length:=List.length_pos_iff.2 h0
   have hdec:decide ((ps.length:Int) > 0)=true:=by simp;omega
   simp (disch:=try exact DI) only [↓PR,QR,simprocAttr,(cells_of_heap hbox).1,hdec]
   have o1:=heap_new w #[.int .u8 41] 5
   have e1:Ext w (w.alloc (.cells #[.int .u8 41] 5)):=ee
   generalize (w.alloc (.cells #[.int .u8 41] 5))=E at o1 e1 ⊢
   have hbw:base≤w.heap.size:=Nat.le_trans C.hi hW.size
   refine app_byte 41 (hO.ext e1) o1 (Nat.le_trans hbw e1.size) (by omega) fun v' w' hO' hW' _=>?_
   exact hR _ _ hO' (hW.trans ((Wr.of hbw e1).trans hW'))
theorem w_parts {hv':Value} (ih:∀ x∈ps,WriteT x) (hv:∀ x∈ps,allT nodeB x=true) (C:WrC A X base p n ps bv hv' pv) {w:World} {o:Value} {l:List UInt8} (hW:Wr base X w) (hO:OwnB w base o l) (hl:l.length+(joinP (ps.map textT)).length+30≤140737488355328) (hR:∀ r w',OwnB w' base r (l++joinP (ps.map textT))→Wr base X w'→R (.returned r) w'):n87c14 (.pointer (some ⟨p,0,none⟩)) o R w:=by
 obtain ⟨B,cap,hpv,_,_,_,hel⟩:=SliceOf.open C.hP
 subst hpv
 have hbox:=hW.obj C.box (by decide)
 unfold n87c14
 simp (disch:=try exact DI) only [↓PR,QR,simprocAttr,(cells_of_heap hbox).1]
 refine loop2_intro (fun u i w=>∃ k:Nat,i = .int .i64 k∧k≤ps.length∧OwnB w base u (l++joinQ ((ps.map textT).take k))∧Wr base X w) (fun _ i _=>ps.length - (intOf i).toNat) ⟨0,rfl,by omega,by simpa [joinQ] using hO,hW⟩ ?_
 clear hbox hW hO
 rintro u _ w ⟨k,rfl,hk,hO,hW⟩
 have hbw:base≤w.heap.size:=Nat.le_trans C.hi hW.size
 have hbox:=hW.obj C.box (by decide)
 rw [joinP_Q,List.length_append] at hl
 by_cases hlt:k < ps.length
 · have hdec:decide ((k:Int) < (ps.length:Int))=true:=by simp;omega
   obtain ⟨x,hx⟩:=getElem?_lt hlt
   obtain ⟨b,o',cs,rfl,_,hE,hEx⟩:=hel k x hx
   obtain ⟨bv',hv',pv',rfl,q1,q2,q3,r1,r2,r3⟩:=hEx.op
   have dk:(k:Int) < (ps.length:Int):=by omega
   have eAw:=hW.from C.eA C.lo
   have hsn:joinQ ((ps.map textT).take (k+1))=joinQ ((ps.map textT).take k)++((if k=0 then 40 else 32)::textT x):=by
    rw [take_snoc' (by rw [List.getElem?_map,hx];rfl),joinQ_snoc]
    congr 2
    cases k with
    | zero=>simp
    | succ k =>
     have:(ps.map textT).take (k+1)≠[]:=by
      cases ps with
      | nil=>simp at hlt
      | cons=>simp
     rw [if_neg this,if_neg (by omega)]
   have hlen:=joinQ_take (ps.map textT) (k+1)
   rw [hsn,List.length_append,List.length_cons] at hlen
   simp (disch:=try exact DI) only [↓PR,QR,simprocAttr,hdec]
   unfold n87c13 joinK
   simp (disch:=try exact DI) only [↓PR,QR,simprocAttr,dk,hE.c5 eAw]
   obtain ⟨sg,hsg⟩:∃ sg:UInt8,sg=if k=0 then 40 else 32:=⟨_,rfl⟩
   rw [← hsg] at hsn
   have hcond:∀ p q:Prop,condP (.bool ((k:Int) == 0)) p q=if k=0 then p else q:=fun p q=>by
    by_cases h:k=0
    · subst h;rfl
    · have:((k:Int) == 0)=false:=by simp;omega
      rw [this,if_neg h];rfl
   rw [hcond]
   generalize hY:World.setCell (World.setCell (World.setCell (World.setCell (World.setCell (World.alloc w _) _ _) _ _) _ _) _ _) _ _=Y
   have oY:Y.heap[w.heap.size]?=some (.cells #[.string x.nd.name,.int .i64 x.nd.int,bv',hv',pv'] 26 (0,0)):=by
    rw [← hY]
    exact heap_set (heap_set (heap_set (heap_set (heap_set (heap_new w _ _) _) _) _) _) _
   have eY:Ext w Y:=by
    rw [← hY]
    have h0:Ext w (w.alloc (.cells #[.string ByteArray.empty,.int .i64 0,.slice none 0 0,.slice none 0 0,.slice none 0 0] 26)):=(Ext.refl w).alloc _
    exact ((((h0.setCell (Nat.le_refl _) _).setCell (Nat.le_refl _) _).setCell (Nat.le_refl _) _).setCell (Nat.le_refl _) _).setCell (Nat.le_refl _) _
   clear hY
   have eAY:=eAw.trans eY
   have hWY:=hW.trans (Wr.of hbw eY)
   have hbY:base≤Y.heap.size:=Nat.le_trans hbw eY.size
   suffices h:∀ nx:Value→Value→World→Prop,(∀ u' w',OwnB w' base u' (l++joinQ ((ps.map textT).take (k+1)))→Wr base X w'→nx u' (.int .i64 ((k+1:Nat):Int)) w')→n87c11 (.pointer (some ⟨w.heap.size,0,none⟩)) (.int .u8 (sg.toNat:Int)) (.int .i64 (k:Int)) u nx R Y by
    have h:=h (fun u1 i1 w'=>(∃ j:Nat,i1 = .int .i64 j∧j≤ps.length∧OwnB w' base u1 (l++joinQ ((ps.map textT).take j))∧Wr base X w')∧ps.length - (intOf i1).toNat < ps.length - (intOf (.int .i64 (k:Int))).toNat) fun u' w' hO' hW'=>⟨⟨k+1,rfl,by omega,hO',hW'⟩,meas_lt (kd := .i64) hlt⟩
    by_cases h0:k=0
    · rw [if_pos h0]
      rw [if_pos h0] at hsg
      subst hsg
      exact h
    · rw [if_neg h0]
      rw [if_neg h0] at hsg
      subst hsg
      exact h
   intro nx hnx
   unfold n87c11
   refine drawK_introT base hbY ?_
   rw [qT_struct (cs:=[.string x.nd.name,.int .i64 x.nd.int,bv',hv',pv']) rfl oY]
   have eD:Ext Y (drew Y):=(Ext.refl Y).drew
   have hO:=(hO.ext eY).ext eD
   have wD:Wr base Y (drew Y):=Wr.of hbY eD
   have eAD:=eAY.trans eD
   have hDz:base≤(drew Y).heap.size:=hbY
   simp (disch:=try exact DI) only [↓PR,QR,simprocAttr]
   show KT _ _ ((drew Y).alloc _)∧n87c10 _ (.slice (some ⟨(drew Y).heap.size,0,none⟩) 1 1) _ _ _ _ _ ((drew Y).alloc _)
   generalize drew Y=D at *
   have o1:=heap_new D #[.int .u8 (sg.toNat:Int)] 5
   have e1:Ext D (D.alloc (.cells #[.int .u8 (sg.toNat:Int)] 5)):=ee
   generalize (D.alloc (.cells #[.int .u8 (sg.toNat:Int)] 5))=E at o1 e1 ⊢
   have wE:=wD.trans (Wr.of hDz e1)
   have hEz:base≤E.heap.size:=Nat.le_trans hDz e1.size
   unfold n87c10
   refine ⟨wE,app_byte sg (hO.ext e1) o1 hEz (by rw [List.length_append];omega) fun v1 w1 hO1 hW1 _=>⟨wE.trans hW1,?_⟩⟩
   have w1Y:=wE.trans hW1
   refine callK_ret (ih x (List.mem_of_getElem? hx) A w1 base (.agg (trCells x.nd bv' hv' pv').toArray) v1 _ hO1 (Nat.le_trans hEz hW1.size) (w1Y.from eAY C.lo) C.lo C.tab ⟨_,_,_,rfl,q1,q2,q3⟩ (hv x (List.mem_of_getElem? hx)) (by rw [List.length_append,List.length_append,List.length_singleton];omega)) ?_
   rintro r w2 ⟨hO2,hW2⟩
   refine ⟨w1Y.trans hW2,?_⟩
   simp (disch:=try exact DI) only [↓PR,QR,simprocAttr]
   refine hnx r w2 ?_ (hWY.trans (w1Y.trans hW2))
   rw [hsn]
   simpa [List.append_assoc] using hO2
 · have hk':k=ps.length:=by omega
   subst hk'
   have hdec:decide ((ps.length:Int) < (ps.length:Int))=false:=by simp
   simp (disch:=try exact DI) only [↓PR,QR,simprocAttr,hdec]
   rw [List.take_of_length_le (by simp)] at hO
   refine w_end C hW hO (by rw [List.length_append];omega) fun r w' hO' hW'=>hR r w' ?_ hW'
   rw [joinP_Q,← List.append_assoc]
   have:(if ps.map textT=[] then ([]:List UInt8) else [41])=if ps=[] then [] else [41]:=by simp
   rw [this]
   exact hO'
end
section
variable {D:World} {base:Nat} {a b:ByteArray} {K5:Value→World→Prop} {R:RT}
theorem own_new {w:World} {o:Value} {l:List UInt8} (hO:OwnB w base o l):o.ownBlock≠some w.heap.size:=fun e=>by
 have:=(World.ownsRow.lt hO _ e).2
 omega
theorem w_c3 {w:World} {o:Value} {l:List UInt8} {q:Nat} (hb:base≤w.heap.size) (hW:Wr base D w) (hO:OwnB w base o l) (hq:w.heap[q]?=some (.cells #[.int .u8 58] 5 (0,0))) (hne:o.ownBlock≠some q) (hl:l.length+2*a.size+2*b.size+1≤140737488355328)
 (hK:∀ r w',OwnB w' base r (l++(hexL a.data.toList++58::hexL b.data.toList))→Wr base D w'→K5 r w'):n87c3 o (.string a) (.slice (some ⟨q,0,none⟩) 1 1) (.string b) (KT D base) K5 R w:=by
 have ha:a.data.toList.length=a.size:=Array.length_toList
 unfold n87c3
 refine callK_ret (hexS_ret w base o l a hO hb (by omega)) ?_
 rintro r1 w1 ⟨hO1,hW1,hG1⟩
 refine ⟨hW.trans hW1,?_⟩
 have hqw:=(Array.getElem?_eq_some_iff.1 hq).1
 have hq1:=(hG1.keep q hqw hne).trans hq
 refine app_byte 58 hO1 hq1 (Nat.le_trans hb hW1.size) (by rw [List.length_append,hexL_len];omega) fun r2 w2 hO2 hW2 _=>⟨hW.trans (hW1.trans hW2),?_⟩
 refine callK_ret (hexS_ret w2 base r2 _ b hO2 (Nat.le_trans hb (Nat.le_trans hW1.size hW2.size)) (by rw [List.length_append,List.length_append,hexL_len,List.length_singleton];omega)) ?_
 rintro r3 w3 ⟨hO3,hW3,_⟩
 have hW':=hW.trans (hW1.trans (hW2.trans hW3))
 refine ⟨hW',hK r3 w3 ?_ hW'⟩
 simpa [List.append_assoc] using hO3
theorem build1 {w:World} (x:Int):(w.alloc (.cells #[.int .u8 x] 5)).heap[w.heap.size]?=some (.cells #[.int .u8 x] 5 (0,0))∧Ext w (w.alloc (.cells #[.int .u8 x] 5)):=⟨heap_new w _ _,ee⟩
theorem w_c4 {w:World} {o:Value} {l:List UInt8} (hb:base≤w.heap.size) (hW:Wr base D w) (hO:OwnB w base o l) (hl:l.length+2*a.size+2*b.size+1≤140737488355328)
 (hK:∀ r w',OwnB w' base r (l++(hexL a.data.toList++58::hexL b.data.toList))→Wr base D w'→K5 r w'):n87c4 o (.string a) (.string b) (KT D base) K5 R w:=by
 have ha:a.data.toList.length=a.size:=Array.length_toList
 unfold n87c4
 constructor
 · refine callK_ret (hexS_ret w base o l a hO hb (by omega)) ?_
   rintro r1 w1 ⟨hO1,hW1,hG1⟩
   refine ⟨hW.trans hW1,?_⟩
   have hb1:=Nat.le_trans hb hW1.size
   unfold n87c2
   simp (disch:=try exact DI) only [↓PR,QR,simprocAttr]
   obtain ⟨q1,e1⟩:=build1 (w:=w1) 58
   generalize (w1.alloc (.cells #[.int .u8 58] 5))=W at q1 e1 ⊢
   have hW1':=hW1.trans (Wr.of hb1 e1)
   refine ⟨hW.trans hW1',?_⟩
   refine app_byte 58 (hO1.ext e1) q1 (Nat.le_trans hb1 e1.size) (by rw [List.length_append,hexL_len];omega) fun r2 w2 hO2 hW2 _=>⟨hW.trans (hW1'.trans hW2),?_⟩
   refine callK_ret (hexS_ret w2 base r2 _ b hO2 (Nat.le_trans (Nat.le_trans hb1 e1.size) hW2.size) (by rw [List.length_append,List.length_append,hexL_len,List.length_singleton];omega)) ?_
   rintro r3 w3 ⟨hO3,hW3,_⟩
   have hW':=hW.trans (hW1'.trans (hW2.trans hW3))
   refine ⟨hW',hK r3 w3 ?_ hW'⟩
   simpa [List.append_assoc] using hO3
 · simp (disch:=try exact DI) only [↓PR,QR,simprocAttr]
   have hn:=own_new hO
   obtain ⟨q1,e1⟩:=build1 (w:=w) 58
   generalize hp:w.heap.size=p at *
   generalize (w.alloc (.cells #[.int .u8 58] 5))=W at q1 e1 ⊢
   have hW':=hW.trans (Wr.of (by omega) e1)
   have hs:=e1.size
   exact ⟨hW',w_c3 (by omega) hW' (hO.ext e1) q1 hn hl hK⟩
theorem w_c6 {w:World} {o:Value} {l:List UInt8} {q:Nat} (hb:base≤w.heap.size) (hW:Wr base D w) (hO:OwnB w base o l) (hq:w.heap[q]?=some (.cells #[.int .u8 91] 5 (0,0))) (hne:o.ownBlock≠some q) (hl:l.length+2*a.size+2*b.size+2≤140737488355328)
 (hK:∀ r w',OwnB w' base r (l++[91]++(hexL a.data.toList++58::hexL b.data.toList))→Wr base D w'→K5 r w'):n87c6 (.slice (some ⟨q,0,none⟩) 1 1) (.string a) (.string b) o (KT D base) K5 R w:=by
 unfold n87c6
 have hl1:(l++[91]).length+2*a.size+2*b.size+1≤140737488355328:=by rw [List.length_append,List.length_singleton];omega
 constructor
 · refine app_byte 91 hO hq hb (by omega) fun r1 w1 hO1 hW1 _=>⟨hW.trans hW1,?_⟩
   exact w_c4 (Nat.le_trans hb hW1.size) (hW.trans hW1) hO1 hl1 hK
 · simp (disch:=try exact DI) only [↓PR,QR,simprocAttr]
   have hn:=own_new hO
   obtain ⟨q1,e1⟩:=build1 (w:=w) 58
   have hqw:=(Array.getElem?_eq_some_iff.1 hq).1
   generalize hp:w.heap.size=p at *
   generalize (w.alloc (.cells #[.int .u8 58] 5))=W at q1 e1 ⊢
   have hs:=e1.size
   have hpW:=(Array.getElem?_eq_some_iff.1 q1).1
   have hW':=hW.trans (Wr.of (by omega) e1)
   refine ⟨hW',?_⟩
   refine app_byte 91 (hO.ext e1) (e1.obj hq) (by omega) (by omega) fun r1 w1 hO1 hW1 hG1=>⟨hW'.trans hW1,?_⟩
   refine w_c3 (by have:=hW1.size;omega) (hW'.trans hW1) hO1 ((hG1.keep p hpW hn).trans q1) ?_ hl1 hK
   rcases hG1.blk with h | h
   · rw [h];exact hn
   · intro e;have:=h p e;omega
theorem w_c8 {w:World} {o:Value} {l:List UInt8} {q:Nat} (hb:base≤w.heap.size) (hW:Wr base D w) (hO:OwnB w base o l) (hq:w.heap[q]?=some (.cells #[.int .u8 58] 5 (0,0))) (hne:o.ownBlock≠some q) (hl:l.length+2*a.size+2*b.size+2≤140737488355328)
 (hK:∀ r w',OwnB w' base r (l++[91]++(hexL a.data.toList++58::hexL b.data.toList))→Wr base D w'→K5 r w'):n87c8 (.string a) (.slice (some ⟨q,0,none⟩) 1 1) (.string b) o (KT D base) K5 R w:=by
 unfold n87c8
 have hl1:(l++[91]).length+2*a.size+2*b.size+1≤140737488355328:=by rw [List.length_append,List.length_singleton];omega
 simp (disch:=try exact DI) only [↓PR,QR,simprocAttr]
 obtain ⟨q1,e1⟩:=build1 (w:=w) 91
 have hqw:=(Array.getElem?_eq_some_iff.1 hq).1
 generalize hp:w.heap.size=p at *
 generalize (w.alloc (.cells #[.int .u8 91] 5))=W at q1 e1 ⊢
 have hs:=e1.size
 have hW':=hW.trans (Wr.of (by omega) e1)
 refine ⟨hW',?_⟩
 refine app_byte 91 (hO.ext e1) q1 (by omega) (by omega) fun r1 w1 hO1 hW1 hG1=>⟨hW'.trans hW1,?_⟩
 refine w_c3 (by have:=hW1.size;omega) (hW'.trans hW1) hO1 ((hG1.keep q (by omega) hne).trans (e1.obj hq)) ?_ hl1 hK
 rcases hG1.blk with h | h
 · rw [h];exact hne
 · intro e;have:=h q e;omega
theorem w_c9 {Y:World} {o:Value} {l:List UInt8} {q k:Nat} {nx:Value→Value→World→Prop} (hb:base≤Y.heap.size) (hO:OwnB Y base o l) (hq:Y.heap[q]?=some (.cells #[.string a,.string b] 74 (0,0))) (hk:k < 9223372036854775807) (hl:l.length+2*a.size+2*b.size+3≤140737488355328)
 (hn:∀ r w',OwnB w' base r (l++hdrL (a,b))→Wr base Y w'→nx r (.int .i64 ((k+1:Nat):Int)) w'):n87c9 (.pointer (some ⟨q,0,none⟩)) (.int .i64 (k:Int)) o (KT Y base) nx R (drew Y):=by
 have eD:Ext Y (drew Y):=(Ext.refl Y).drew
 have hO:=hO.ext eD
 have wD:Wr base Y (drew Y):=Wr.of hb eD
 have hDz:base≤(drew Y).heap.size:=hb
 have a1:=fun {k':Value→Prop}=>qT_load (X:=Y) (base:=base) (k:=k') ty9 hq (by decide) (o:=0) rfl
 have a2:=fun {k':Value→Prop}=>qT_load (X:=Y) (base:=base) (k:=k') ty9 hq (by decide) (o:=1) rfl
 unfold n87c9
 simp (disch:=try exact DI) only [↓PR,QR,simprocAttr,a1,a2]
 have hK:∀ r w',OwnB w' base r (l++[91]++(hexL a.data.toList++58::hexL b.data.toList))→Wr base Y w'→n87c1 (.int .i64 (k:Int)) r nx R w':=by
  intro r w' hO' hW'
  unfold n87c1
  simp (disch:=try exact DI) only [↓PR,QR,simprocAttr]
  obtain ⟨q1,e1⟩:=build1 (w:=w') 93
  have hbw:=Nat.le_trans hb hW'.size
  generalize (w'.alloc (.cells #[.int .u8 93] 5))=W at q1 e1 ⊢
  refine app_byte 93 (hO'.ext e1) q1 (Nat.le_trans hbw e1.size) ?_ fun r2 w2 hO2 hW2 _=>?_
  · have ha:a.data.toList.length=a.size:=Array.length_toList
    have hb':b.data.toList.length=b.size:=Array.length_toList
    simp only [List.length_append,List.length_cons,List.length_nil,hexL_len]
    omega
  · simp (disch:=try exact DI) only [↓PR,QR,simprocAttr]
    refine hn r2 w2 ?_ (hW'.trans ((Wr.of hbw e1).trans hW2))
    unfold hdrL
    simpa [List.append_assoc] using hO2
 have hnD:=own_new hO
 have key:∀ (x:Int),_:=fun x=>build1 (w:=drew Y) x
 constructor
 · obtain ⟨q1,e1⟩:=build1 (w:=drew Y) 91
   have wE:=wD.trans (Wr.of hDz e1)
   exact ⟨wE,w_c6 (Nat.le_trans hDz e1.size) wE (hO.ext e1) q1 hnD (by omega) hK⟩
 · obtain ⟨q1,e1⟩:=build1 (w:=drew Y) 58
   have wE:=wD.trans (Wr.of hDz e1)
   exact ⟨wE,w_c8 (Nat.le_trans hDz e1.size) wE (hO.ext e1) q1 hnD (by omega) hK⟩
end
section
variable {A X:World} {base p:Nat} {n:Nd} {ps:List Tr} {bv hv pv:Value} {R:RT}
theorem flat_take {α:Type} (f:α→List UInt8) (l:List α) (k:Nat):((l.take k).flatMap f).length≤(l.flatMap f).length:=by
 rw [← List.take_append_drop k l,List.flatMap_append,List.length_append,List.take_append_drop]
 exact Nat.le_add_right _ _
theorem hdrL_len (h:ByteArray×ByteArray):(hdrL h).length=2*h.1.size+2*h.2.size+3:=by
 have h1:h.1.data.toList.length=h.1.size:=Array.length_toList
 have h2:h.2.data.toList.length=h.2.size:=Array.length_toList
 unfold hdrL
 simp only [List.length_append,List.length_cons,List.length_nil,hexL_len]
 omega
theorem w_hdrs (ih:∀ x∈ps,WriteT x) (hv':∀ x∈ps,allT nodeB x=true) (hn100:n.hdrs.length≤100) (C:WrC A X base p n ps bv hv pv) {w:World} {o:Value} {l:List UInt8} (hW:Wr base X w) (hO:OwnB w base o l) (hl:l.length+(n.hdrs.flatMap hdrL).length+(joinP (ps.map textT)).length+30≤140737488355328) (hR:∀ r w',OwnB w' base r (l++(n.hdrs.flatMap hdrL++joinP (ps.map textT)))→Wr base X w'→R (.returned r) w'):n87c16 (.pointer (some ⟨p,0,none⟩)) o R w:=by
 obtain ⟨B,cap,hhv,_,_,_,hel⟩:=SliceOf.open C.hH
 subst hhv
 have hbox:=hW.obj C.box (by decide)
 unfold n87c16
 simp (disch:=try exact DI) only [↓PR,QR,simprocAttr,(cells_of_heap hbox).1]
 refine loop2_intro (fun u i w=>∃ k:Nat,i = .int .i64 k∧k≤n.hdrs.length∧OwnB w base u (l++(n.hdrs.take k).flatMap hdrL)∧Wr base X w) (fun _ i _=>n.hdrs.length - (intOf i).toNat) ⟨0,rfl,by omega,by simpa using hO,hW⟩ ?_
 clear hbox hW hO
 rintro u _ w ⟨k,rfl,hk,hO,hW⟩
 have hbw:base≤w.heap.size:=Nat.le_trans C.hi hW.size
 have hbox:=hW.obj C.box (by decide)
 by_cases hlt:k < n.hdrs.length
 · have hdec:decide ((k:Int) < (n.hdrs.length:Int))=true:=by simp;omega
   obtain ⟨⟨a,b⟩,hx⟩:=getElem?_lt hlt
   obtain ⟨bb,o',cs,rfl,_,hE,hEx⟩:=hel k (a,b) hx
   unfold EHdr at hEx
   subst hEx
   have dk:(k:Int) < (n.hdrs.length:Int):=by omega
   have eAw:=hW.from C.eA C.lo
   have hsn:(n.hdrs.take (k+1)).flatMap hdrL=(n.hdrs.take k).flatMap hdrL++hdrL (a,b):=by rw [take_snoc' hx,List.flatMap_append];simp
   have hlen:=flat_take hdrL n.hdrs (k+1)
   rw [hsn,List.length_append,hdrL_len] at hlen
   simp only at hlen
   simp (disch:=try exact DI) only [↓PR,QR,simprocAttr,hdec]
   unfold n87c15
   simp (disch:=try exact DI) only [↓PR,QR,simprocAttr,dk,(hE.c2 eAw).1,(hE.c2 eAw).2]
   have oY:=heap_new w #[.string a,.string b] 74
   have eY:Ext w (w.alloc (.cells #[.string a,.string b] 74)):=ee
   generalize (w.alloc (.cells #[.string a,.string b] 74))=Y at oY eY ⊢
   generalize w.heap.size=q at oY hbw ⊢
   have hWY:=hW.trans (Wr.of (Nat.le_trans C.hi hW.size) eY)
   have hbY:base≤Y.heap.size:=Nat.le_trans C.hi hWY.size
   refine drawK_introT base hbY ?_
   refine w_c9 hbY (hO.ext eY) oY (by omega) (by rw [List.length_append];omega) fun r w' hO' hW'=>?_
   refine ⟨⟨k+1,rfl,by omega,?_,hWY.trans hW'⟩,meas_lt (kd := .i64) hlt⟩
   rw [hsn,← List.append_assoc]
   exact hO'
 · have hk':k=n.hdrs.length:=by omega
   subst hk'
   have hdec:decide ((n.hdrs.length:Int) < (n.hdrs.length:Int))=false:=by simp
   simp (disch:=try exact DI) only [↓PR,QR,simprocAttr,hdec]
   rw [List.take_length] at hO
   refine w_parts ih hv' C hW hO (by rw [List.length_append];omega) fun r w' hO' hW'=>hR r w' ?_ hW'
   rw [← List.append_assoc]
   exact hO'
theorem w_bytes (ih:∀ x∈ps,WriteT x) (hv':∀ x∈ps,allT nodeB x=true) (hn100:n.hdrs.length≤100) (C:WrC A X base p n ps bv hv pv) {w:World} {o:Value} {l:List UInt8} (hW:Wr base X w) (hO:OwnB w base o l) (hl:l.length+(bytL n.bytes).length+(n.hdrs.flatMap hdrL).length+(joinP (ps.map textT)).length+30≤140737488355328) (hR:∀ r w',OwnB w' base r (l++(bytL n.bytes++(n.hdrs.flatMap hdrL++joinP (ps.map textT))))→Wr base X w'→R (.returned r) w'):n87c18 (.pointer (some ⟨p,0,none⟩)) o R w:=by
 obtain ⟨B,cap,hbv,_,_,_,hel⟩:=SliceOf.open C.hB
 have hbox:=hW.obj C.box (by decide)
 have hbw:base≤w.heap.size:=Nat.le_trans C.hi hW.size
 unfold n87c18 joinK
 rw [hbv] at hbox
 by_cases h0:n.bytes=[]
 · have hdec:decide ((n.bytes.length:Int) > 0)=false:=by rw [h0];rfl
   have hby:bytL n.bytes=[]:=by rw [h0];rfl
   rw [hby] at hR hl
   simp (disch:=try exact DI) only [↓PR,QR,simprocAttr,(cells_of_heap hbox).1,hdec]
   exact w_hdrs ih hv' hn100 C hW hO (by simpa using hl) fun r w' hO' hW'=>hR r w' (by simpa using hO') hW'
 · have h1:0 < n.bytes.length:=List.length_pos_iff.2 h0
   have hdec:decide ((n.bytes.length:Int) > 0)=true:=by simp;omega
   have hby:bytL n.bytes=35::hexL n.bytes:=by unfold bytL;rw [if_neg h0]
   rw [hby] at hR hl
   rw [List.length_cons,hexL_len] at hl
   simp (disch:=try exact DI) only [↓PR,QR,simprocAttr,(cells_of_heap hbox).1,hdec]
   refine drawK_introT base hbw ?_
   have eD:Ext w (drew w):=(Ext.refl w).drew
   have wD:Wr base w (drew w):=Wr.of hbw eD
   have a1:=fun {k':Value→Prop}=>qT_load (X:=w) (base:=base) (k:=k') ty22 hbox (by decide) (o:=2) rfl
   have hO:=hO.ext eD
   have hDz:base≤(drew w).heap.size:=hbw
   unfold n87c17
   simp (disch:=try exact DI) only [↓PR,QR,simprocAttr,a1]
   show KT _ _ ((drew w).alloc _)∧opV _ (Builtin.append_ _ _ #[o,.slice (some ⟨(drew w).heap.size,0,none⟩) 1 1]) _ ((drew w).alloc _) _
   generalize drew w=D at *
   obtain ⟨q1,e1⟩:=build1 (w:=D) 35
   generalize (D.alloc (.cells #[.int .u8 35] 5))=W at q1 e1 ⊢
   have wW:=wD.trans (Wr.of hDz e1)
   have hbW:base≤W.heap.size:=Nat.le_trans hDz e1.size
   refine ⟨wW,app_byte 35 (hO.ext e1) q1 hbW (by omega) fun r1 w1 hO1 hW1 _=>⟨wW.trans hW1,?_⟩⟩
   have w1w:=wW.trans hW1
   have eA1:=(hW.trans w1w).from C.eA C.lo
   refine callK_ret (hexB_ret A w1 base r1 _ _ n.bytes hO1 (Nat.le_trans hbW hW1.size) eA1 C.lo (hbv ▸ C.hB) (by rw [List.length_append,List.length_singleton];omega)) ?_
   rintro r2 w2 ⟨hO2,hW2⟩
   refine ⟨w1w.trans hW2,?_⟩
   refine w_hdrs ih hv' hn100 C (hW.trans (w1w.trans hW2)) hO2 (by simp only [List.length_append,List.length_cons,List.length_nil,hexL_len];omega) fun r w' hO' hW'=>hR r w' ?_ hW'
   simpa [List.append_assoc] using hO'
end
theorem tab_below {A w:World} {base:Nat} (hT:TabOK A) (e:Ext A w) (hb:A.heap.size≤base):Go.Lib.TabBelow Pg base w "internal/strconv.uint64pow10" .u64 Go.Lib.pow10Tab:=fun w' h=>by
 have:TabOK w':=hT.ext ⟨h.os.trans e.os,h.tape.trans e.tape,h.output.trans e.output,Nat.le_trans e.size h.size,fun k hk=>(h.block k (by omega)).trans (e.block k hk)⟩
 exact this
theorem AppendInt_ret {A w:World} {base:Nat} {v:Value} {l:List UInt8} (n:Int) (h0 : -9223372036854775808≤n) (h1:n≤9223372036854775807) (hT:TabOK A) (e:Ext A w) (hA:A.heap.size≤base) (hO:OwnB w base v l) (hb:base≤w.heap.size) (hl:l.length+21≤140737488355328) :
 Ret Pg 88 #[v,.int .i64 n,.int .i64 10] w fun r w'=>OwnB w' base r (l++Go.Lib.itoa n)∧Wr base w w':=by
 refine Calls.mono (sh_strconv_AppendInt_10 base l.length n h0 h1 v (l.flatMap encB) w hO hb hl (tab_below hT e hA)) ?_
 rintro e w' ⟨v',rfl,hO',hB,hK⟩
 refine ⟨v',rfl,?_,hB,hK⟩
 unfold OwnB OwnE
 rw [List.flatMap_append,List.length_append,encB_flat (Go.Lib.itoa n)]
 exact hO'
theorem write_ret (t:Tr):WriteT t:=by
 refine Tr.ind (p:=WriteT) ?_ t
 intro n ps ih A w0 base v u l hO hb eA hA hT hV hval hl
 rw [allT_mk,Bool.and_eq_true,List.all_eq_true] at hval
 obtain ⟨a1,a2,a3,a4,a5,a6⟩:=nodeB_iff.1 hval.1
 obtain ⟨bv,hv,pv,rfl,f1,f2,f3,f4,f5,f6⟩:=hV.op
 simp only [Tr.nd,Tr.ps] at f1 f2 f3
 show Ret _ _ #[u,.agg (trCells n bv hv pv).toArray] _ _
 rw [textT_mk] at hl ⊢
 unfold nodeL at hl ⊢
 simp only [List.length_append] at hl
 refine n87s (R:=retR _) ?_;unfold n87
 rw [op_boxA]
 have h0:=heap_new w0 (trCells n bv hv pv).toArray 26
 have e0:Ext w0 (w0.alloc (.cells (trCells n bv hv pv).toArray 26)):=ee
 generalize (w0.alloc (.cells (trCells n bv hv pv).toArray 26))=X at h0 e0 ⊢
 have hb0:=hb
 generalize w0.heap.size=p at h0 ⊢
 have hsz:n.name.data.toList.length=n.name.size:=Array.length_toList
 have C:WrC A X base p n ps bv hv pv:=⟨h0,eA.trans e0,hA,Nat.le_trans hb e0.size,hT,f1,f2,f3⟩
 have hO:=hO.ext e0
 simp (disch:=try exact DI) only [↓PR,QR,simprocAttr,(cells_of_heap h0).1]
 refine app_str n.name hO C.hi (by omega) fun v1 w1 hO1 hW1=>?_
 have hb1:=hW1.obj h0 (by decide)
 have hbw:base≤w1.heap.size:=Nat.le_trans C.hi hW1.size
 unfold joinK
 have hfin:∀ (w:World) (o:Value),Wr base X w→OwnB w base o (l++(n.name.data.toList++intL n.int))→n87c18 (.pointer (some ⟨p,0,none⟩)) o (retR fun r w'=>OwnB w' base r (l++(n.name.data.toList++(intL n.int++(bytL n.bytes++n.hdrs.flatMap hdrL))++joinP (ps.map textT)))∧Wr base w0 w') w:=by
  intro w o hW hO
  refine w_bytes ih hval.2 a5 C hW hO (by simp only [List.length_append];omega) fun r w' hO' hW'=>?_
  rw [retR_ret]
  refine ⟨by simpa [List.append_assoc] using hO',Wr.trans ?_ hW'⟩
  exact Wr.of (by omega) e0
 by_cases hz:n.int=0
 · have hd:(n.int != 0)=false:=by rw [hz];rfl
   simp (disch:=try exact DI) only [↓PR,QR,simprocAttr,(cells_of_heap hb1).1,hd]
   refine hfin _ _ hW1 ?_
   have:intL n.int=[]:=by unfold intL;rw [if_pos hz]
   rw [this,List.append_nil]
   exact hO1
 · have hd:(n.int != 0)=true:=by simp [hz]
   have hi:intL n.int=61::Go.Lib.itoa n.int:=by unfold intL;rw [if_neg hz]
   rw [hi,List.length_cons] at hl
   simp (disch:=try exact DI) only [↓PR,QR,simprocAttr,(cells_of_heap hb1).1,hd]
   refine drawK_introT base hbw ?_
   have eD:Ext w1 (drew w1):=(Ext.refl w1).drew
   have wD:Wr base w1 (drew w1):=Wr.of hbw eD
   have b1:=fun {k':Value→Prop}=>qT_load (X:=w1) (base:=base) (k:=k') ty3 hb1 (by decide) (o:=1) rfl
   have hO1:=hO1.ext eD
   have hDz:base≤(drew w1).heap.size:=hbw
   unfold n87c19
   simp (disch:=try exact DI) only [↓PR,QR,simprocAttr,b1]
   show KT _ _ ((drew w1).alloc _)∧opV _ (Builtin.append_ _ _ #[v1,.slice (some ⟨(drew w1).heap.size,0,none⟩) 1 1]) _ ((drew w1).alloc _) _
   generalize drew w1=D at *
   obtain ⟨q1,e1⟩:=build1 (w:=D) 61
   generalize (D.alloc (.cells #[.int .u8 61] 5))=W at q1 e1 ⊢
   have wW:=wD.trans (Wr.of hDz e1)
   have hbW:base≤W.heap.size:=Nat.le_trans hDz e1.size
   refine ⟨wW,app_byte 61 (hO1.ext e1) q1 hbW (by simp only [List.length_append];omega) fun r1 w2 hO2 hW2 _=>⟨wW.trans hW2,?_⟩⟩
   have w1w:=wW.trans hW2
   have eA1:=(hW1.trans w1w).from C.eA C.lo
   refine callK_ret (AppendInt_ret n.int (by omega) (by omega) hT eA1 C.lo hO2 (Nat.le_trans hbW hW2.size) (by simp only [List.length_append,List.length_singleton];omega)) ?_
   rintro r2 w3 ⟨hO3,hW3⟩
   refine ⟨w1w.trans hW3,?_⟩
   refine hfin _ _ (hW1.trans (w1w.trans hW3)) ?_
   rw [hi]
   simpa [List.append_assoc] using hO3
theorem OwnB.bytes {w:World} {base:Nat} {v:Value} {l:List UInt8} (h:OwnB w base v l):BytesOf w v l:=OwnE.slice h (fun _=>rfl) (fun _ _=>rfl)
theorem Text_ret (w0:World) (v:Value) (t:Tr) (hV:ValAt w0 v t) (hT:TabOK w0) (hn:nodesT t≤1000000000) (hl:(textT t).length≤100000000000000):Ret Pg 26 #[v] w0 fun r w'=>r=(if validT t=true then .tuple #[.string (mkB (textT t)),.int .i64 0] else .tuple #[.string ⟨#[]⟩,.int .i64 2])∧Ext w0 w':=by
 obtain ⟨bv,hv,pv,rfl,f1,f2,f3,f4,f5,f6⟩:=hV.op
 refine n60s (R:=retR _) ?_;unfold n60
 rw [op_boxA]
 have h0:=heap_new w0 (trCells t.nd bv hv pv).toArray 26
 have e0:Ext w0 (w0.alloc (.cells (trCells t.nd bv hv pv).toArray 26)):=ee
 generalize (w0.alloc (.cells (trCells t.nd bv hv pv).toArray 26))=X at h0 e0 ⊢
 generalize w0.heap.size=p at h0 ⊢
 simp (disch:=try exact DI) only [↓PR,QR,simprocAttr,(cells_of_heap h0).1]
 refine zcr (Valid_ret X _ t ⟨_,_,_,rfl,f1.ext e0,f2.ext e0,f3.ext e0⟩ hn) fun w1 e1=>?_
 have h1:=e1.obj h0
 have E1:=e0.trans e1
 by_cases hv':validT t=true
 · rw [if_pos hv',hv']
   have hall:allT nodeB t=true:=by
    have:=hv'
    unfold validT at this
    simp only [Bool.and_eq_true,decide_eq_true_eq] at this
    exact this.2
   simp (disch:=try exact DI) only [↓PR,QR,simprocAttr]
   unfold n60c1
   simp (disch:=try exact DI) only [↓PR,QR,simprocAttr,(cells_of_heap h1).1]
   refine callK_ret (write_ret t w1 w1 w1.heap.size _ (.slice none 0 0) [] (OwnE.nil _ _ _ _ _) (Nat.le_refl _) (Ext.refl _) (Nat.le_refl _) (hT.ext E1) ⟨_,_,_,rfl,f1.ext E1,f2.ext E1,f3.ext E1⟩ hall (by rw [List.length_nil];omega)) ?_
   rintro r w2 ⟨hO,hW⟩
   rw [op_bytesStr hO.bytes]
   simp (disch:=try exact DI) only [↓PR,QR,simprocAttr]
   exact ⟨rfl,E1.trans (hW.from (Ext.refl _) (Nat.le_refl _))⟩
 · have hv'':validT t=false:=by simpa using hv'
   rw [if_neg hv',hv'']
   simp (disch:=try exact DI) only [↓PR,QR,simprocAttr]
   exact ⟨by trivial,E1⟩
def decZ (v:Nat):ByteArray:=if v=0 then ⟨#[]⟩ else decB v
theorem decZ_step {v:Nat} (h:0 < v):decZ (v / 10)++⟨#[UInt8.ofNat (48+v % 10)]⟩=decZ v:=by
 have hv:decZ v=decB v:=by unfold decZ;rw [if_neg (by omega)]
 rw [hv]
 by_cases h1:v < 10
 · have:v / 10=0:=by omega
   rw [this,dec_one h1,Nat.mod_eq_of_lt h1]
   unfold decZ
   rw [if_pos rfl]
   exact bytes_ext (by simp)
 · rw [dec_more (by omega),dec_one (n:=v % 10) (by omega)]
   unfold decZ
   rw [if_neg (by omega)]
theorem digit_step (w:World) (v:Nat) (hv:v≤9223372036854775807) {QP:List PanicEntry→World→Prop} {K:Value→World→Prop} (hK:∀ w',Ext w w'→K (.string ⟨#[UInt8.ofNat (48+v % 10)]⟩) w') :
 opV Pg (binS .rem 3 true (.int .i64 (v:Int)) (.int .i64 10)) QP w fun t17 w=>opV Pg (binS .add 3 true (.int .i64 48) t17) QP w fun t18 w=>opV Pg (Go.convert 3 5 t18) QP w fun t19 w=>opV Pg (Instr.buildSlice 22 1 #[(0,t19)]) QP w fun t20 w=>opV Pg (Go.convert 22 9 t20) QP w K:=by
 have hr:(v:Int).tmod 10=((v % 10:Nat):Int):=by rw [Int.tmod_eq_emod_of_nonneg (by omega)];omega
 have hw:IntKind.i64.wrap (48+((v % 10:Nat):Int))=((48+v % 10:Nat):Int):=by rw [wrap_ok (by omega) (by omega)];omega
 have hu:IntKind.u8.wrap ((48+v % 10:Nat):Int)=((48+v % 10:Nat):Int):=by
  have key:∀ n:Fin 10,IntKind.u8.wrap ((48+n.val:Nat):Int)=((48+n.val:Nat):Int):=by decide +kernel
  exact key ⟨v % 10,Nat.mod_lt _ (by omega)⟩
 simp (disch:=try exact DI) only [↓PR,QR,simprocAttr,hr,hw]
 rw [hu]
 have o1:=heap_new w #[.int .u8 ((48+v % 10:Nat):Int)] 5
 have e1:Ext w (w.alloc (.cells #[.int .u8 ((48+v % 10:Nat):Int)] 5)):=ee
 generalize World.alloc w _=W at o1 e1 ⊢
 rw [op_oneB o1,Int.toNat_natCast]
 exact hK W e1
theorem rdecimal_ret (w0:World) (n:Nat) (hn:n≤9223372036854775807):Ret Pg 63 #[.int .i64 (n:Int)] w0 fun r w'=>r = .string (decB n)∧Ext w0 w':=by
 have hq:∀ v:Nat,v≤9223372036854775807→IntKind.i64.wrap ((v:Int).tdiv 10)=((v / 10:Nat):Int):=fun v hv=>by
  have:(v:Int).tdiv 10=((v / 10:Nat):Int):=by rw [Int.tdiv_eq_ediv_of_nonneg (by omega)];omega
  rw [this,wrap_ok (by omega) (by omega)]
 refine n25s (R:=retR _) ?_;unfold n25
 refine digit_step w0 n hn fun w1 e1=>?_
 rw [op_quo _ _ _ _ _ (by decide),hq n hn]
 have h0:decZ (n / 10)++⟨#[UInt8.ofNat (48+n % 10)]⟩=decB n:=by
  by_cases hz:n=0
  · subst hz
    rw [show (0:Nat) / 10=0 from rfl,dec_one (n:=0) (by omega)]
    exact bytes_ext (by simp [decZ])
  · rw [decZ_step (by omega)]
    unfold decZ
    rw [if_neg hz]
 refine loop2_intro (fun a s w=>∃ (v:Nat) (b:ByteArray),a = .int .i64 (v:Int)∧s = .string b∧v≤n∧b.size≤1000∧decZ v++b=decB n∧Ext w0 w) (fun a _ _=>(intOf a).toNat) ⟨n / 10,_,rfl,rfl,Nat.div_le_self _ _,by show 1≤1000;decide,h0,e1⟩ ?_
 rintro _ _ w ⟨v,b,rfl,rfl,hv,hb,hI,e⟩
 by_cases h:v=0
 · subst h
   have d0:decide (((0:Nat):Int) > 0)=false:=by decide
   simp (disch:=try exact DI) only [↓PR,QR,simprocAttr,d0]
   refine ⟨?_,e⟩
   rw [← hI]
   exact congrArg Value.string (bytes_ext (by simp [decZ]))
 · have d0:decide ((v:Int) > 0)=true:=decide_eq_true (by omega)
   simp (disch:=try exact DI) only [↓PR,QR,simprocAttr,d0]
   unfold n25c1
   refine digit_step w v (by omega) fun w2 e2=>?_
   have hsz:(⟨#[UInt8.ofNat (48+v % 10)]⟩:ByteArray).size=1:=rfl
   rw [op_saddZ _ _ _ _ (by omega),op_quo _ _ _ _ _ (by decide),hq v (by omega)]
   have hI':decZ (v / 10)++(⟨#[UInt8.ofNat (48+v % 10)]⟩++b)=decB n:=by
    rw [← ByteArray.append_assoc,decZ_step (by omega),hI]
   have hlen:(⟨#[UInt8.ofNat (48+v % 10)]⟩++b:ByteArray).size≤1000:=by
    have h1:=congrArg ByteArray.size hI'
    have h2:=decB_size (n:=(n:Int)) (by omega) (by omega)
    rw [size_append] at h1
    omega
   exact ⟨⟨v / 10,_,rfl,rfl,by omega,hlen,hI',e.trans e2⟩,by show ((v / 10:Nat):Int).toNat < (v:Int).toNat;omega⟩
def n64c1 (t0 t20 t28:Value) (next1:KW) (R:RT) (w:World):Prop :=
 opN Pg (nilN t0) (panK R) w fun t32 w =>
 opV Pg (Instr.fieldAt 26 t32 4) (panK R) w fun t33 w =>
 opV Pg (Instr.loadAt 24 t33) (panK R) w fun t34 w =>
 opV Pg (Instr.indexAt 24 t34 t28) (panK R) w fun t36 w =>
 opV Pg (binS .add 3 true t20 (.int .i64 1)) (panK R) w fun t37 w =>
 next1 t36 t37 w
def n64c2 (t0 t20 t28:Value) (next1:KW) (R:RT) (w:World):Prop :=
 opV Pg (binS .lss 3 true t28 (.int .i64 0)) (panK R) w fun t30 w =>
 condP t30 (
 R (.returned (.tuple #[(Value.pointer none),(.int .i64 9)])) w) (
 n64c1 t0 t20 t28 next1 R w)
def n64c3 (t0 t9 t20:Value) (C2:World→Prop) (next1:KW) (R:RT) (w:World):Prop :=
 qN Pg C2 (nilN t0) fun t25 =>
 qV Pg C2 (Instr.loadAt 26 t25) fun t26 =>
 qV Pg C2 (Instr.loadAt 106 t9) fun t27 =>
 callK Pg 67 #[t26,t27] (panK R) w fun t28 w =>
 C2 w∧(
 n64c2 t0 t20 t28 next1 R w)
def n64c4 (t0 t14 t20:Value) (next1:KW) (R:RT) (w:World):Prop :=
 opV Pg (Instr.indexAt 120 t14 t20) (panK R) w fun t22 w =>
 opV Pg (Instr.loadAt 106 t22) (panK R) w fun t23 w =>
 opV Pg (Instr.alloc 106 true (.tuple #[])) (panK R) w fun t9 w =>
 opU Pg (Instr.storeAt 106 t9 t23) (panK R) w fun w =>
 drawK w fun C2 w =>
 n64c3 t0 t9 t20 C2 next1 R w
def n64c5 (t0 t14:Value) (R:RT) (w:World):Prop :=
 opV Pg (Builtin.len_ #[120] 3 #[t14]) (panK R) w fun t19 w =>
 loop2 (fun t0 t20 w next1 =>
 opV Pg (binS .lss 3 false t20 t19) (panK R) w fun t21 w =>
 condP t21 (
 n64c4 t0 t14 t20 next1 R w) (
 R (.returned (.tuple #[t0,(.int .i64 0)])) w)) t0 (.int .i64 0) w
def n64c6 (t0 t13:Value) (R:RT) (w:World):Prop :=
 opV Pg (Instr.extract t13 0) (panK R) w fun t14 w =>
 opV Pg (Instr.extract t13 1) (panK R) w fun t15 w =>
 opV Pg (Op.unary .not t15) (panK R) w fun t17 w =>
 condP t17 (
 R (.returned (.tuple #[(Value.pointer none),(.int .i64 6)])) w) (
 n64c5 t0 t14 R w)
def n64 (t0 t1:Value) (R:RT) (w:World):Prop :=
 callK Pg 81 #[t1] (panK R) w fun t13 w =>
 n64c6 t0 t13 R w
theorem n64s {t0 t1:Value} {R:RT} {w:World} (h:n64 t0 t1 R w):Calls Pg 55 #[t0,t1] w R:=by
 refine yD Tryz.func55 ?_
 refine zs<|zr<|zm<|zm<|zn<|zk<|zs<|zr<|zm<|yc h c81 fun _ w h=>zm<|yv h fun _ w h=>yv h fun _ w h=>zm<|zm ?_
 refine zn<|zk<|zs<|zs<|zr<|zm<|yv h fun _ w h=>zn<|zk<|yC h (fun h=>zs<|zr<|zm<|zm<|zn<|zk<|sim_ret<|sim_then_ret<|body_ret2 rfl rfl rfl h) fun h=>sim_skip<|zk<|zs<|zs ?_
 refine zr<|zm<|yx h fun _ w h=>zm<|zn<|zk<|sim_block<|yl2 [0,4,5,9,10,20,21,22,23,24,25,26,27,28,29,30,31,32,33,34,35,36,37] 0 20 h fun σ w next h=>zs<|zr<|yb h fun _ w h=>zn<|zk<|zs<|yC h (fun h=>?_) fun h=>?_
 · refine sim_skip<|zk<|zs<|sim_block<|zs<|zr<|yv h fun _ w h=>yv h fun _ w h=>yv h fun _ w h=>yu h fun w h=>zn<|zk<|zs<|yh [10,24,25,26,27,28] h fun C hC h=>yw 0 hC ?_
   refine yn 1 hC h fun _ h=>?_
   refine ye 2 hC h fun _ h=>?_
   refine ye 3 hC h fun _ h=>?_
   refine yo 4 ?_
   refine yc h c67 fun _ w h=>zn ?_
   obtain ⟨hC,h⟩:=h
   refine ⟨hC,?_⟩
   refine yw 5 hC ?_
   refine yz<|zk<|zs<|zs<|zr<|zm<|yb h fun _ w h=>zn<|zk<|yC h (fun h=>zs<|zr<|zm<|zm<|zn<|zk<|sim_ret<|sim_then_ret<|sim_block_ret<|sim_then_ret<|sim_then_ret<|sim_block_ret<|sim_then_ret<|body_ret2 rfl rfl rfl h) fun h=>sim_skip<|zk<|zr<|zm ?_
   exact yN h fun _ w h=>yv h fun _ w h=>yv h fun _ w h=>zm<|yv h fun _ w h=>zm<|zn<|sim_block_normal<|zk<|zr<|yb h fun _ w h=>zm<|zn<|zk<|⟨rfl,h⟩
 exact sim_exit<|sim_then_exit<|sim_then_exit<|sim_block_hit<|zk<|zs<|zr<|zm<|zm<|zm<|zn<|zk<|sim_ret<|body_ret2 rfl rfl rfl h
theorem mkB_app (a b:List UInt8):mkB a++mkB b=mkB (a++b):=bytes_ext (by unfold mkB;rw [ByteArray.data_append];simp)
theorem mkB_size (a:List UInt8):(mkB a).size=a.length:=by unfold mkB;exact List.size_toArray ..
theorem op_saddL {w:World} {QP:List PanicEntry→World→Prop} {k:Value→World→Prop} (t:TypeId) (c:Bool) (a b:List UInt8) (h:a.length+b.length≤9223372036854775807):opV Pg (binS .add t c (.string (mkB a)) (.string (mkB b))) QP w k=k (.string (mkB (a++b))) w:=by
 rw [op_saddZ _ _ _ _ (by rw [mkB_size,mkB_size];exact h),mkB_app]
section
variable {P:Program} {QP:List PanicEntry→World→Prop} {k:Value→World→Prop} {w:World}
theorem op_subS {t:TypeId} (hu:P.underlying t=some .string) (s:ByteArray) (a b:Nat) (h1:a≤b) (h2:b≤s.size):opV P (Instr.sliceAt t (.string s) (some (.int .i64 (a:Int))) (some (.int .i64 (b:Int))) none) QP w k=k (.string (s.extract a b)) w:=by
 have g1:(a:Int)≤(b:Int):=by omega
 have g2:(b:Int)≤(s.size:Int):=by omega
 refine opV_ok ?_
 simp [Instr.sliceAt,run_underlying hu,Instr.slice,Instr.sliceBounds,run_sliceBound,g1,g2]
end
theorem sub_mkB (s:ByteArray) (a b:Nat):s.extract a b=mkB ((s.data.toList.drop a).take (b - a)):=by
 refine bytes_ext ?_
 unfold mkB
 simp [Array.toList_extract,List.extract_eq_take_drop]
structure Kp (b:Nat) (w w':World):Prop where
 os:w'.os=w.os
 tape:w'.tape=w.tape
 output:w'.output=w.output
 size:w.heap.size≤w'.heap.size
 keep:∀ k,k < w.heap.size→k≠b→w'.heap[k]?=w.heap[k]?
theorem Kp.of {b:Nat} {w w':World} (e:Ext w w'):Kp b w w':=⟨e.os,e.tape,e.output,e.size,fun k hk _=>e.block k hk⟩
theorem Kp.refl (b:Nat) (w:World):Kp b w w:=Kp.of (Ext.refl w)
theorem Kp.trans {b:Nat} {x y z:World} (h:Kp b x y) (g:Kp b y z):Kp b x z:=⟨g.os.trans h.os,g.tape.trans h.tape,g.output.trans h.output,Nat.le_trans h.size g.size,fun k hk hb=>(g.keep k (Nat.lt_of_lt_of_le hk h.size) hb).trans (h.keep k hk hb)⟩
theorem Kp.set {b o:Nat} {w:World} (v:Value):Kp b w (w.setCell ⟨b,o,none⟩ v):=⟨rfl,rfl,rfl,by simp,fun k _ hb=>heap_setE hb⟩
theorem Kp.setNew {b p o:Nat} {x w:World} (h:Kp b x w) (hp:x.heap.size≤p) (v:Value):Kp b x (w.setCell ⟨p,o,none⟩ v):=⟨h.os,h.tape,h.output,by simpa using h.size,fun k hk hb=>(heap_setE (by omega)).trans (h.keep k hk hb)⟩
theorem Kp.from {b:Nat} {A x w:World} (h:Kp b x w) (e:Ext A x) (hb:A.heap.size≤b):Ext A w:=⟨h.os.trans e.os,h.tape.trans e.tape,h.output.trans e.output,Nat.le_trans e.size h.size,fun k hk=>(h.keep k (Nat.lt_of_lt_of_le hk e.size) (by omega)).trans (e.block k hk)⟩
theorem Kp.obj {b k:Nat} {x w:World} (h:Kp b x w) {o:Obj} (hk:x.heap[k]?=some o) (hb:k≠b):w.heap[k]?=some o:=(h.keep k (Array.getElem?_eq_some_iff.1 hk).1 hb).trans hk
structure St (b:Nat) (s:List UInt8) (h:Nat) (l:List UInt8) (w:World):Prop where
 cell:w.heap[b]?=some (.cells #[.string (mkB s),.int .i64 ((s.length - l.length:Nat):Int),.int .i64 (h:Int)] 85 (0,0))
 suf:∃ pre,s=pre++l
 short:s.length≤100000000
theorem St.ext {b h:Nat} {s l:List UInt8} {w w':World} (H:St b s h l w) (e:Ext w w'):St b s h l w':=⟨e.obj H.cell,H.suf,H.short⟩
theorem St.le {b h:Nat} {s l:List UInt8} {w:World} (H:St b s h l w):l.length≤s.length:=by
 obtain ⟨pre,rfl⟩:=H.suf
 simp
theorem St.drop {b h:Nat} {s l:List UInt8} {w:World} (H:St b s h l w):s.drop (s.length - l.length)=l:=by
 obtain ⟨pre,rfl⟩:=H.suf
 simp
theorem St.head {b h:Nat} {s l r:List UInt8} {w:World} {c:UInt8} (H:St b s h l w) (hl:l=c::r):s[s.length - l.length]?=some c:=by
 obtain ⟨pre,rfl⟩:=H.suf
 subst hl
 rw [List.length_append,Nat.add_sub_cancel,List.getElem?_append_right (Nat.le_refl _),Nat.sub_self]
 rfl
theorem St.step {b h:Nat} {s l r:List UInt8} {w:World} {c:UInt8} (H:St b s h l w) (hl:l=c::r):St b s h r (w.setCell ⟨b,1,none⟩ (.int .i64 ((s.length - l.length+1:Nat):Int))):=by
 have hle:=H.le
 refine ⟨?_,?_,H.short⟩
 · have:=heap_set (o:=1) H.cell (.int .i64 ((s.length - l.length+1:Nat):Int))
   rw [this]
   have:s.length - l.length+1=s.length - r.length:=by rw [hl,List.length_cons] at *;omega
   rw [this]
   rfl
 · obtain ⟨pre,rfl⟩:=H.suf
   exact ⟨pre++[c],by rw [hl];simp⟩
theorem mkB_data (s:List UInt8):(mkB s).data.toList=s:=by unfold mkB;simp
theorem next_ret (b h:Nat) (s l:List UInt8) (w0:World) (c:UInt8) (H:St b s h l w0):Ret Pg 74 #[.pointer (some ⟨b,0,none⟩),.int .u8 (c.toNat:Int)] w0 fun r w'=>r = .bool (decide (l.head?=some c))∧St b s h (if l.head?=some c then l.tail else l) w'∧Kp b w0 w':=by
 have hs:=H.short
 refine n77s (R:=retR _) ?_;unfold n77
 refine drawK_intro ?_
 have eD:Ext w0 (drew w0):=(Ext.refl w0).drew
 have H:=H.ext eD
 have kD:Kp b w0 (drew w0):=Kp.of eD
 generalize drew w0=D at *
 unfold n77c2 joinK
 cases l with
 | nil =>
  have hd:(((s.length - ([]:List UInt8).length:Nat):Int) == ((mkB s).size:Int))=true:=by rw [mkB_size,List.length_nil,Nat.sub_zero];simp
  simp (disch:=try exact DI) only [↓PR,QR,simprocAttr,(cells_of_heap H.cell).1,hd]
  exact ⟨rfl,H,kD⟩
 | cons a r =>
  have hle:=H.le
  have hd:(((s.length - (a::r).length:Nat):Int) == ((mkB s).size:Int))=false:=by
   rw [mkB_size]
   simp only [List.length_cons] at hle ⊢
   simp
   omega
  have i1:=fun {QP:List PanicEntry→World→Prop} {w:World} {k':Value→World→Prop}=>op_indexS (P:=Pg) (QP:=QP) (w:=w) (k:=k') Tryz.underlying9 (mkB s) .i64 (s.length - (a::r).length) (by rw [mkB_data];exact H.head rfl)
  have q1:∀ k':Value→Prop,qV Pg (EC D) (Instr.index 9 (.string (mkB s)) (.int .i64 ((s.length - (a::r).length:Nat):Int))) k'=k' (.int .u8 (a.toNat:Int)):=fun k'=>qV_of fun QP w k=>i1
  simp (disch:=try exact DI) only [↓PR,QR,simprocAttr,(cells_of_heap H.cell).1,hd,q1]
  by_cases hac:a=c
  · subst hac
    have hn:((a.toNat:Int) != (a.toNat:Int))=false:=by simp
    have hw:IntKind.i64.wrap (((s.length - (a::r).length:Nat):Int)+1)=((s.length - (a::r).length+1:Nat):Int):=wrap_succ (by omega)
    simp (disch:=try exact DI) only [↓PR,QR,simprocAttr,hn]
    unfold n77c1
    simp (disch:=try exact DI) only [↓PR,QR,simprocAttr,(cells_of_heap H.cell).1,(cells_of_heap H.cell).2,hw]
    refine ⟨by simp,?_,kD.trans (Kp.set _)⟩
    rw [if_pos (by simp)]
    exact H.step rfl
  · have hn:((a.toNat:Int) != (c.toNat:Int))=true:=by
     have:a.toNat≠c.toNat:=fun e=>hac (UInt8.toNat_inj.1 e)
     simp
     omega
    have h0:¬ (a::r).head?=some c:=by simpa using hac
    simp (disch:=try exact DI) only [↓PR,QR,simprocAttr,hn]
    rw [if_neg h0]
    exact ⟨by simp [hac],H,kD⟩
def leftM (b n:Nat) (w:World):Nat:=match w.heap[b]? with
 | some (.cells cs _ _)=>n - (intOf (cs[1]?.getD (.int .i64 0))).toNat
 | _=>0
theorem St.left {b h:Nat} {s l:List UInt8} {w:World} (H:St b s h l w):leftM b s.length w=l.length:=by
 have:=H.le
 unfold leftM
 rw [H.cell]
 show s.length - (intOf (.int .i64 ((s.length - l.length:Nat):Int))).toNat=_
 simp [intOf]
 omega
def TestB (f:FuncId) (p:UInt8→Bool):Prop:=Callable Pg f∧∀ (w:World) (c:UInt8),Ret Pg f #[.int .u8 (c.toNat:Int)] w fun r w'=>r = .bool (p c)∧Ext w w'
theorem takeWhile_app {p:UInt8→Bool} {a l:List UInt8} (ha:a.all p=true) (hl:Stop p l):(a++l).takeWhile p=a∧(a++l).dropWhile p=l:=by
 induction a with
 | nil =>
  rcases hl with rfl | ⟨c,r,rfl,hc⟩
  · exact ⟨rfl,rfl⟩
  · simp [List.takeWhile_cons,List.dropWhile_cons,hc]
 | cons x a ih =>
  rw [List.all_cons,Bool.and_eq_true] at ha
  obtain ⟨h1,h2⟩:=ih ha.2
  simp [List.takeWhile_cons,List.dropWhile_cons,ha.1,h1,h2]
theorem run_ret (b h:Nat) (s l:List UInt8) (w0:World) (f:FuncId) (p:UInt8→Bool) (hf:TestB f p) (H:St b s h l w0):Ret Pg 71 #[.pointer (some ⟨b,0,none⟩),.func (.func f) #[] #[]] w0 fun r w'=>r = .string (mkB (l.takeWhile p))∧St b s h (l.dropWhile p) w'∧Kp b w0 w':=by
 have hs:=H.short
 have hle:=H.le
 refine n78s (R:=retR _) ?_;unfold n78
 simp (disch:=try exact DI) only [↓PR,QR,simprocAttr,(cells_of_heap H.cell).1]
 refine loop0_intro (fun w=>∃ pre l',l=pre++l'∧pre.all p=true∧St b s h l' w∧Kp b w0 w) (leftM b s.length) ⟨[],l,rfl,rfl,H,Kp.refl _ _⟩ ?_
 rintro w ⟨pre,l',rfl,hpre,H',hK⟩
 rw [H'.left]
 refine drawK_intro ?_
 have eD:Ext w (drew w):=(Ext.refl w).drew
 have H':=H'.ext eD
 have kD:Kp b w0 (drew w):=hK.trans (Kp.of eD)
 generalize drew w=D at *
 have hle':=H'.le
 have hend:∀ D,St b s h l' D→Kp b w0 D→Stop p l'→drawK D fun C4 w=>n78c1 (.pointer (some ⟨b,0,none⟩)) (.int .i64 ((s.length - (pre++l').length:Nat):Int)) C4 (retR fun r w'=>r = .string (mkB ((pre++l').takeWhile p))∧St b s h ((pre++l').dropWhile p) w'∧Kp b w0 w') w:=by
  intro D H' kD hst
  obtain ⟨t1,t2⟩:=takeWhile_app hpre hst
  rw [t1,t2]
  refine drawK_intro ?_
  have eD:Ext D (drew D):=(Ext.refl D).drew
  have H':=H'.ext eD
  have kD:Kp b w0 (drew D):=kD.trans (Kp.of eD)
  generalize drew D=E at *
  unfold n78c1
  have hsz:=mkB_size s
  have q1:∀ k':Value→Prop,qV Pg (EC E) (Instr.sliceAt 9 (.string (mkB s)) (some (.int .i64 ((s.length - (pre++l').length:Nat):Int))) (some (.int .i64 ((s.length - l'.length:Nat):Int))) none) k'=k' (.string (mkB pre)):=fun k'=>by
   rw [qV_of fun QP w k=>op_subS (P:=Pg) (QP:=QP) (w:=w) (k:=k) Tryz.underlying9 (mkB s) (s.length - (pre++l').length) (s.length - l'.length) (by simp only [List.length_append] at *;omega) (by rw [hsz];omega)]
   rw [sub_mkB,mkB_data,H.drop]
   congr 3
   rw [show s.length - l'.length - (s.length - (pre++l').length)=pre.length by simp only [List.length_append] at *;omega]
   simp
  simp (disch:=try exact DI) only [↓PR,QR,simprocAttr,(cells_of_heap H'.cell).1,q1]
  exact ⟨by trivial,H',kD⟩
 unfold n78c3 joinK
 cases l' with
 | nil =>
  have hd:decide (((s.length - ([]:List UInt8).length:Nat):Int) < ((mkB s).size:Int))=false:=by rw [mkB_size,List.length_nil,Nat.sub_zero];simp
  simp (disch:=try exact DI) only [↓PR,QR,simprocAttr,(cells_of_heap H'.cell).1,hd]
  exact hend D H' kD (.inl rfl)
 | cons a r =>
  have hd:decide (((s.length - (a::r).length:Nat):Int) < ((mkB s).size:Int))=true:=by
   rw [mkB_size]
   simp only [List.length_cons] at hle' ⊢
   simp
   omega
  have i1:=fun {QP:List PanicEntry→World→Prop} {w:World} {k':Value→World→Prop}=>op_indexS (P:=Pg) (QP:=QP) (w:=w) (k:=k') Tryz.underlying9 (mkB s) .i64 (s.length - (a::r).length) (by rw [mkB_data];exact H'.head rfl)
  have q1:∀ k':Value→Prop,qV Pg (EC D) (Instr.index 9 (.string (mkB s)) (.int .i64 ((s.length - (a::r).length:Nat):Int))) k'=k' (.int .u8 (a.toNat:Int)):=fun k'=>qV_of fun QP w k=>i1
  simp (disch:=try exact DI) only [↓PR,QR,simprocAttr,(cells_of_heap H'.cell).1,hd,q1]
  rw [callV_func hf.1]
  refine zcr (hf.2 D a) fun w1 e1=>?_
  refine ⟨e1,?_⟩
  have H1:=H'.ext e1
  have k1:=kD.trans (Kp.of e1)
  cases hpa:p a with
  | true =>
   have hw:IntKind.i64.wrap (((s.length - (a::r).length:Nat):Int)+1)=((s.length - (a::r).length+1:Nat):Int):=wrap_succ (by omega)
   simp (disch:=try exact DI) only [↓PR,QR,simprocAttr,hd]
   unfold n78c2
   simp (disch:=try exact DI) only [↓PR,QR,simprocAttr,(cells_of_heap H1.cell).1,(cells_of_heap H1.cell).2,hw]
   have H2:=H1.step rfl
   rw [H2.left]
   exact ⟨⟨pre++[a],r,by simp,by simp [hpre,hpa],H2,k1.trans (Kp.set _)⟩,by rw [List.length_cons];exact Nat.lt_succ_self _⟩
  | false =>
   simp (disch:=try exact DI) only [↓PR,QR,simprocAttr,hd]
   exact hend w1 H1 k1 (.inr ⟨a,r,rfl,hpa⟩)
theorem word_test:TestB 72 wordB:=by
 refine ⟨c72,fun w c=>?_⟩
 refine n82s (R:=retR _) ?_;unfold n82
 simp (disch:=try exact DI) only [↓PR,QR,simprocAttr]
 have o1:=heap_new w #[.int .u8 (c.toNat:Int)] 5
 have e1:Ext w (w.alloc (.cells #[.int .u8 (c.toNat:Int)] 5)):=ee
 generalize (w.alloc (.cells #[.int .u8 (c.toNat:Int)] 5))=W at o1 e1 ⊢
 rw [op_oneB o1,Int.toNat_natCast,UInt8.ofNat_toNat]
 have hq:∀ (QP:List PanicEntry→World→Prop) (k':Value→World→Prop),opV Pg (binS .add 9 true (.string { data := #[97] }) (.string { data := #[c] })) QP W k'=k' (.string (mkB [97,c])) W:=fun QP k'=>op_saddL _ _ [97] [c] (by simp)
 rw [hq]
 refine zcr (Name_ret W (mkB [97,c])) fun w2 e2=>?_
 simp (disch:=try exact DI) only [↓PR,QR,simprocAttr]
 refine ⟨?_,e1.trans e2⟩
 have key:∀ n:Fin 256,nameB (mkB [97,UInt8.ofNat n.val])=wordB (UInt8.ofNat n.val):=by decide +kernel
 have:=key ⟨c.toNat,c.toNat_lt⟩
 rw [UInt8.ofNat_toNat] at this
 rw [this]
theorem dig_test:TestB 76 digN:=by
 refine ⟨c76,fun w c=>?_⟩
 refine n83s (R:=retR _) ?_;unfold n83
 unfold joinK
 simp (disch:=try exact DI) only [↓PR,QR,simprocAttr]
 by_cases h:48≤c.toNat
 · have d:decide ((c.toNat:Int)≥48)=true:=decide_eq_true (by omega)
   simp (disch:=try exact DI) only [↓PR,QR,simprocAttr,d]
   refine ⟨?_,Ext.refl _⟩
   unfold digN
   rw [decide_eq_true h,Bool.true_and]
   congr 1
   exact decide_eq_decide.2 (by omega)
 · have d:decide ((c.toNat:Int)≥48)=false:=decide_eq_false (by omega)
   simp (disch:=try exact DI) only [↓PR,QR,simprocAttr,d]
   refine ⟨?_,Ext.refl _⟩
   unfold digN
   rw [decide_eq_false h,Bool.false_and]
def hexV (c:UInt8):Nat:=if c.toNat≤57 then c.toNat - 48 else c.toNat - 87
theorem hexT_index (c:UInt8):decide (Go.Lib.indexByte hexT.data.toList c≥0)=hexB c∧(hexB c=true→Go.Lib.indexByte hexT.data.toList c=((hexV c:Nat):Int)):=by
 have key:∀ n:Fin 256,decide (Go.Lib.indexByte hexT.data.toList (UInt8.ofNat n.val)≥0)=hexB (UInt8.ofNat n.val)∧(hexB (UInt8.ofNat n.val)=true→Go.Lib.indexByte hexT.data.toList (UInt8.ofNat n.val)=((hexV (UInt8.ofNat n.val):Nat):Int)):=by decide +kernel
 have:=key ⟨c.toNat,c.toNat_lt⟩
 simpa only [UInt8.ofNat_toNat] using this
theorem IndexHex_ret (w:World) (c:UInt8):Ret Pg 102 #[.string hexT,.int .u8 (c.toNat:Int)] w fun r w'=>r = .int .i64 (Go.Lib.indexByte hexT.data.toList c)∧w'=w:=by
 refine Calls.mono (sh_strings_IndexByte hexT (c.toNat:Int) w) ?_
 rintro e w' ⟨rfl,rfl⟩
 refine ⟨_,rfl,?_,rfl⟩
 rw [Int.toNat_natCast]
 congr 2
 exact UInt8.ofNat_toNat
theorem hex_test:TestB 101 hexB:=by
 refine ⟨c101,fun w c=>?_⟩
 refine n80s (R:=retR _) ?_;unfold n80
 refine callK_ret (IndexHex_ret w c) ?_
 rintro _ w1 ⟨rfl,rfl⟩
 simp (disch:=try exact DI) only [↓PR,QR,simprocAttr]
 refine ⟨?_,Ext.refl _⟩
 rw [(hexT_index c).1]
theorem Atoi_big {w:World} (hE:EnvOK w) (s:ByteArray) (hs:s.size≤100000000):Ret Pg 75 #[.string s] w fun r w'=>Ext w w'∧∃ n e,r = .tuple #[.int .i64 n,e]∧((Go.Lib.atoiAll s.data.toList = .ok n∧e = .nilIface)∨((∀ v,Go.Lib.atoiAll s.data.toList ≠ .ok v)∧∃ t x,e = .iface t x)):=by
 match h:Go.Lib.atoiAll s.data.toList with
 | .ok v =>
  refine Calls.mono (sh_strconv_Atoi_ok s (by omega) v h w) ?_
  rintro e w' ⟨rfl,rfl | ⟨t,rfl⟩⟩
  · exact ⟨_,rfl,Ext.refl _,_,_,rfl,.inl ⟨rfl,rfl⟩⟩
  · exact ⟨_,rfl,Ext.of_below (Go.Lib.bytesWorld_below w 5 t),_,_,rfl,.inl ⟨rfl,rfl⟩⟩
 | Go.Lib.NumEnd.syntax =>
  obtain ⟨ev,h1,h2⟩:=hE.syn
  refine Calls.mono (sh_strconv_Atoi_syntax s (by omega) h ev w h1 h2) ?_
  rintro e w' ⟨N,rfl,_,_,hb⟩
  exact ⟨_,rfl,Ext.of_below hb,_,_,rfl,.inr ⟨fun v hv=>(by cases hv),_,_,rfl⟩⟩
 | Go.Lib.NumEnd.range =>
  obtain ⟨ev,h1,h2⟩:=hE.rng
  refine Calls.mono (sh_strconv_Atoi_range s (by omega) h ev w h1 h2) ?_
  rintro e w' ⟨N,rfl,_,_,hb⟩
  exact ⟨_,rfl,Ext.of_below hb,_,_,rfl,.inr ⟨fun v hv=>(by cases hv),_,_,rfl⟩⟩
def errF:List PanicEntry:=[{ v := .iface 33 (.int .i64 6),recovered:=false }]
theorem must_ret (w:World) (t:Bool):Calls Pg 52 #[.bool t] w fun e w'=>w'=w∧(match t with | true=>∃ v,e = .returned v | false=>e = .panicked errF):=by
 refine n74s (t0 := .bool t) ?_
 unfold n74
 cases t with
 | true =>
  simp (disch:=try exact DI) only [↓PR,QR,simprocAttr]
  exact ⟨by trivial,_,rfl⟩
 | false =>
  simp (disch:=try exact DI) only [↓PR,QR,simprocAttr]
  rw [op_panic]
  exact ⟨rfl,rfl⟩
theorem must_call {w:World} {t:Bool} {QP:List PanicEntry→World→Prop} {k:Value→World→Prop} (h1:t=true→∀ v,k v w) (h2:t=false→QP errF w):callK Pg 52 #[.bool t] QP w k:=by
 refine callK_calls (must_ret w t) ?_ ?_ ?_
 · rintro v w' ⟨rfl,h⟩
   cases t with
   | true=>exact h1 rfl v
   | false=>cases h
 · rintro ch w' ⟨rfl,h⟩
   cases t with
   | true=>obtain ⟨_,h⟩:=h;cases h
   | false=>injection h with h;rw [h];exact h2 rfl
 · rintro w' ⟨_,h⟩
   cases t with
   | true=>obtain ⟨_,h⟩:=h;cases h
   | false=>cases h
def unhexL:List UInt8→List UInt8
 | a::b::l=>UInt8.ofNat (16*hexV a+hexV b)::unhexL l
 | _=>[]
theorem hexV_lt {c:UInt8} (h:hexB c=true):hexV c < 16:=by
 unfold hexB at h
 simp only [Bool.or_eq_true,Bool.and_eq_true,decide_eq_true_eq] at h
 unfold hexV
 split<;>omega
theorem hexV_D {n:Nat} (h:n < 16):hexV (hexD n)=n∧hexB (hexD n)=true:=by
 have key:∀ n:Fin 16,hexV (hexD n.val)=n.val∧hexB (hexD n.val)=true:=by decide +kernel
 exact key ⟨n,h⟩
theorem unhex_hex:∀ l:List UInt8,unhexL (hexL l)=l
 | []=>rfl
 | c::l=>by
  show unhexL (hexD (c.toNat / 16)::hexD (c.toNat % 16)::hexL l)=_
  unfold unhexL
  rw [(hexV_D (n:=c.toNat / 16) (by have:=c.toNat_lt;omega)).1,(hexV_D (n:=c.toNat % 16) (by omega)).1,unhex_hex l,Nat.div_add_mod,UInt8.ofNat_toNat]
theorem hexL_all (l:List UInt8):(hexL l).all hexB=true:=by
 induction l with
 | nil=>rfl
 | cons c l ih =>
  show (hexD (c.toNat / 16)::hexD (c.toNat % 16)::hexL l).all hexB=true
  simp only [List.all_cons,Bool.and_eq_true]
  exact ⟨(hexV_D (n:=c.toNat / 16) (by have:=c.toNat_lt;omega)).2,(hexV_D (n:=c.toNat % 16) (by omega)).2,ih⟩
theorem unhex_len:∀ (l:List UInt8),(unhexL l).length=l.length / 2
 | []=>rfl
 | [_]=>by unfold unhexL;simp
 | a::b::l=>by
  unfold unhexL
  rw [List.length_cons,unhex_len l,List.length_cons,List.length_cons]
  omega
theorem unhex_get:∀ (l:List UInt8) (i:Nat) (a b:UInt8),l[2*i]?=some a→l[2*i+1]?=some b→(unhexL l)[i]?=some (UInt8.ofNat (16*hexV a+hexV b))
 | [],i,a,b,h,_=>by cases h
 | [x],i,a,b,h,h'=>by
  cases i with
  | zero=>cases h'
  | succ i=>simp at h'
 | x::y::l,0,a,b,h,h'=>by
  simp only [Nat.mul_zero,List.getElem?_cons_zero,Option.some.injEq] at h
  simp only [Nat.mul_zero,Nat.zero_add,List.getElem?_cons_succ,List.getElem?_cons_zero,Option.some.injEq] at h'
  subst h h'
  rfl
 | x::y::l,i+1,a,b,h,h'=>by
  unfold unhexL
  rw [List.getElem?_cons_succ]
  exact unhex_get l i a b (by rw [show 2*(i+1)=2*i+1+1 by omega] at h;simpa using h) (by rw [show 2*(i+1)+1=2*i+1+1+1 by omega] at h';simpa using h')
theorem op_makeBytes {QP:List PanicEntry→World→Prop} {w:World} {k:Value→World→Prop} (n:Nat) (hn:n≤1000000000):opV Pg (Instr.makeSlice 22 (.int .i64 (n:Int)) (.int .i64 (n:Int))) QP w k =
 k (.slice (some ⟨w.heap.size,0,none⟩) n n) (w.alloc (.cells ((List.replicate n (0:UInt8)).map fun x=>Value.int .u8 (x.toNat:Int)).toArray 5)):=by
 obtain ⟨⟨i,hi,hs,hby,hz⟩,_⟩:=ty5
 have h1:=by5
 rw [opV_ok (run_make_row (P:=Pg) 22 5 i _ Tryz.underlying22 hi hz hs rfl .i64 .i64 n (by rw [hby];exact Nat.le_trans (Nat.mul_le_mul h1 hn) (by decide)) (by omega) w)]
 congr 3
 rw [List.map_replicate,← toList_madeCells_one]
 rfl
def YRow (w:World) (b:Nat) (L:List UInt8):Prop:=w.heap[b]?=some (.cells (L.map fun x=>Value.int .u8 (x.toNat:Int)).toArray 5 (0,0))
theorem YRow.ext {w w':World} {b:Nat} {L:List UInt8} (h:YRow w b L) (e:Ext w w'):YRow w' b L:=e.obj h
theorem YRow.set {w:World} {b:Nat} {L:List UInt8} (h:YRow w b L) (i:Nat) (x:UInt8):YRow (w.setCell ⟨b,i,none⟩ (.int .u8 (x.toNat:Int))) b (L.set i x):=by
 have:=heap_set (o:=i) h (.int .u8 (x.toNat:Int))
 unfold YRow
 rw [this,List.setIfInBounds_toArray,List.map_set]
theorem YRow.own {w:World} {b base:Nat} {L:List UInt8} (h:YRow w b L) (hb:base≤b) (hl:L.length≤1000000000):OwnB w base (.slice (some ⟨b,0,none⟩) L.length L.length) L:=by
 refine ⟨?_,.inr ⟨b,_,_,rfl,hb,h,Nat.le_refl _,?_,?_,?_⟩⟩
 · rw [encB_flat,List.length_map,Nat.mul_one]
 · simp only [maxLen];omega
 · simp
 · rw [encB_flat,Nat.mul_one]
   exact List.take_of_length_le (by simp)
theorem shl_or (a b:Nat) (ha:a < 16) (hb:b < 16):IntKind.u8.wrap (bits BinOp.or IntKind.i64 (IntKind.i64.wrap ((a:Int)*2 ^ 4)) (b:Int))=(((UInt8.ofNat (16*a+b)).toNat:Nat):Int):=by
 have key:∀ a b:Fin 16,IntKind.u8.wrap (bits BinOp.or IntKind.i64 (IntKind.i64.wrap ((a.val:Int)*2 ^ 4)) (b.val:Int))=(((UInt8.ofNat (16*a.val+b.val)).toNat:Nat):Int):=by decide +kernel
 exact key ⟨a,ha⟩ ⟨b,hb⟩
theorem op_orI {QP:List PanicEntry→World→Prop} {w:World} {k:Value→World→Prop} (t:TypeId) (c:Bool) (x y:Int):opV Pg (binS .or t c (.int .i64 x) (.int .i64 y)) QP w k=k (.int .i64 (bits BinOp.or IntKind.i64 x y)) w:=opV_ok (by
 rw [run_bin_int _ _ _ _ _ _ rfl]
 generalize hz:bits BinOp.or IntKind.i64 x y=z
 simp [go_sem,hz])
theorem hex_ret (b h:Nat) (s l:List UInt8) (w0:World) (H:St b s h l w0):Calls Pg 77 #[.pointer (some ⟨b,0,none⟩)] w0 fun e w'=>Kp b w0 w'∧(if (l.takeWhile hexB).length % 2=0 then ∃ v,e = .returned v∧OwnB w' w0.heap.size v (unhexL (l.takeWhile hexB))∧St b s h (l.dropWhile hexB) w' else e = .panicked errF):=by
 refine n79s (t0 := .pointer (some ⟨b,0,none⟩)) ?_
 unfold n79
 simp (disch:=try exact DI) only [↓PR,QR,simprocAttr]
 refine callK_ret (run_ret b h s l w0 _ hexB hex_test H) ?_
 rintro _ w1 ⟨rfl,H1,k1⟩
 unfold n79c5
 have hlen:(l.takeWhile hexB).length≤100000000:=by
  have h1:=(List.takeWhile_sublist (p:=hexB) (l:=l)).length_le
  have h2:=H.le
  have h3:=H.short
  omega
 have hsz:=mkB_size (l.takeWhile hexB)
 have hall:∀ c∈l.takeWhile hexB,hexB c=true:=fun c hc=>(List.all_eq_true.1 List.all_takeWhile) c hc
 generalize l.takeWhile hexB=T at *
 have hr:((T.length:Int).tmod 2)=((T.length % 2:Nat):Int):=by rw [Int.tmod_eq_emod_of_nonneg (by omega)];omega
 rw [← hsz] at hr
 simp (disch:=try exact DI) only [↓PR,QR,simprocAttr]
 rw [hr,hsz]
 refine must_call (fun ht v=>?_) (fun ht=>?_)
 rotate_left
 · have h0:¬ T.length % 2=0:=by
    intro e;rw [e] at ht;simp at ht
   refine ⟨k1,?_⟩
   rw [if_neg h0]
 have h0:T.length % 2=0:=by
  have:((T.length % 2:Nat):Int)=0:=by simpa using ht
  omega
 simp only [if_pos h0]
 unfold n79c4
 have hq:IntKind.i64.wrap ((T.length:Int).tdiv 2)=((T.length / 2:Nat):Int):=by
  rw [Int.tdiv_eq_ediv_of_nonneg (by omega),wrap_ok (by omega) (by omega)]
  omega
 simp (disch:=try exact DI) only [↓PR,QR,simprocAttr]
 rw [hsz,op_quo _ _ _ _ _ (by decide),hq,op_makeBytes _ (by omega)]
 have oX:=heap_new w1 ((List.replicate (T.length / 2) (0:UInt8)).map fun x=>Value.int .u8 (x.toNat:Int)).toArray 5
 have eX:Ext w1 (w1.alloc (.cells ((List.replicate (T.length / 2) (0:UInt8)).map fun x=>Value.int .u8 (x.toNat:Int)).toArray 5)):=(Ext.refl _).alloc _
 generalize (w1.alloc (.cells ((List.replicate (T.length / 2) (0:UInt8)).map fun x=>Value.int .u8 (x.toNat:Int)).toArray 5))=X at oX eX ⊢
 have hzX:=eX.size
 have hpX:=(Array.getElem?_eq_some_iff.1 oX).1
 have k1s:=k1.size
 have hbX:b≠w1.heap.size:=by have:=(Array.getElem?_eq_some_iff.1 H1.cell).1;omega
 generalize w1.heap.size=p at *
 have kX:=k1.trans (Kp.of eX)
 have HX:=H1.ext eX
 have hul:=unhex_len T
 simp (disch:=try exact DI) only [↓PR,QR,simprocAttr]
 refine loop1_intro (fun a w=>∃ (k:Nat) (L:List UInt8),a = .int .i64 k∧k≤T.length / 2∧L.length=T.length / 2∧(∀ j,j < k→L[j]?=(unhexL T)[j]?)∧YRow w p L∧St b s h (l.dropWhile hexB) w∧Kp b w0 w) (fun a _=>T.length / 2 - (intOf a).toNat) ⟨0,_,rfl,by omega,by simp,fun j hj=>by omega,oX,HX,kX⟩ ?_
 rintro _ w ⟨k,L,rfl,hk,hL,hLk,hY,HW,hK⟩
 by_cases hlt:k < T.length / 2
 · have hdec:decide ((k:Int) < ((T.length / 2:Nat):Int))=true:=decide_eq_true (by omega)
   rw [op_lss,hdec]
   simp (disch:=try exact DI) only [↓PR,QR,simprocAttr]
   refine drawK_intro ?_
   have eD:Ext w (drew w):=(Ext.refl w).drew
   have hY:=hY.ext eD
   have HW:=HW.ext eD
   have hK:=hK.trans (Kp.of eD)
   generalize drew w=D at *
   obtain ⟨x,hx⟩:=getElem?_lt (l:=T) (k:=2*k) (by omega)
   obtain ⟨y,hy⟩:=getElem?_lt (l:=T) (k:=2*k+1) (by omega)
   have hxB:=hall x (List.mem_of_getElem? hx)
   have hyB:=hall y (List.mem_of_getElem? hy)
   have w1':IntKind.i64.wrap (2*(k:Int))=((2*k:Nat):Int):=by rw [wrap_ok (by omega) (by omega)];omega
   have w2':IntKind.i64.wrap (((2*k:Nat):Int)+1)=((2*k+1:Nat):Int):=wrap_succ (by omega)
   have q1:∀ k':Value→Prop,qV Pg (EC D) (Instr.index 9 (.string (mkB T)) (.int .i64 ((2*k:Nat):Int))) k'=k' (.int .u8 (x.toNat:Int)):=fun k'=>qV_of fun QP w k'=>op_indexS Tryz.underlying9 (mkB T) .i64 (2*k) (by rw [mkB_data];exact hx)
   have q2:∀ k':Value→Prop,qV Pg (EC D) (Instr.index 9 (.string (mkB T)) (.int .i64 ((2*k+1:Nat):Int))) k'=k' (.int .u8 (y.toNat:Int)):=fun k'=>qV_of fun QP w k'=>op_indexS Tryz.underlying9 (mkB T) .i64 (2*k+1) (by rw [mkB_data];exact hy)
   unfold n79c3
   rw [qV_of fun QP w k'=>op_mul _ _ _ _ _,w1',q1,qV_of fun QP w k'=>op_mul _ _ _ _ _,w1',qV_of fun QP w k'=>op_add _ _ _ _ _,w2',q2]
   refine callK_ret (IndexHex_ret D x) ?_
   rintro _ w2 ⟨rfl,hw2⟩
   rw [hw2]
   refine ⟨Ext.refl _,?_⟩
   rw [(hexT_index x).2 hxB]
   unfold n79c2
   rw [qV_of fun QP w k'=>op_shl _ _ _ _ _ (by decide) (by decide)]
   refine callK_ret (IndexHex_ret D y) ?_
   rintro _ w3 ⟨rfl,hw3⟩
   rw [hw3]
   refine ⟨Ext.refl _,?_⟩
   rw [(hexT_index y).2 hyB]
   unfold n79c1
   have dk:(k:Int) < ((T.length / 2:Nat):Int):=by omega
   have h4:(4:Int).toNat=4:=rfl
   rw [qV_of fun QP w k'=>op_orI _ _ _ _,h4]
   simp (disch:=try exact DI) only [↓PR,QR,simprocAttr,dk]
   rw [shl_or _ _ (hexV_lt hxB) (hexV_lt hyB)]
   have hYl:=(Array.getElem?_eq_some_iff.1 hY).1
   have hcell:∃ u,D.cell? ⟨p,k*1,none⟩=some u:=by
    rw [(cells_of_heap hY).1]
    exact ⟨_,Array.getElem?_eq_getElem (by simp;omega)⟩
   obtain ⟨u0,hcell⟩:=hcell
   simp (disch:=try exact DI) only [↓PR,QR,simprocAttr,hcell,(cells_of_heap hY).2]
   refine turnK_intro ?_
   simp (disch:=try exact DI) only [↓PR,QR,simprocAttr]
   rw [Nat.mul_one]
   refine ⟨⟨k+1,L.set k (UInt8.ofNat (16*hexV x+hexV y)),rfl,by omega,by rw [List.length_set];exact hL,fun j hj=>?_,hY.set k _,⟨?_,HW.suf,HW.short⟩,hK.setNew (by omega) _⟩,meas_lt (kd := .i64) hlt⟩
   · by_cases hjk:j=k
     · subst hjk
       rw [List.getElem?_set_self (by omega),unhex_get T j x y hx hy]
     · rw [List.getElem?_set_ne (by omega)]
       exact hLk j (by omega)
   · rw [heap_setE hbX]
     exact HW.cell
 · have hk':k=T.length / 2:=by omega
   have hdec:decide ((k:Int) < ((T.length / 2:Nat):Int))=false:=decide_eq_false (by omega)
   rw [op_lss,hdec]
   simp (disch:=try exact DI) only [↓PR,QR,simprocAttr]
   have hLU:L=unhexL T:=List.ext_getElem? fun j=>by
    by_cases hj:j < k
    · exact hLk j hj
    · rw [List.getElem?_eq_none (by omega),List.getElem?_eq_none (by omega)]
   subst hLU
   refine ⟨hK,_,rfl,?_,HW⟩
   have:=hY.own (base:=w0.heap.size) (by omega) (by omega)
   rw [hL] at this
   exact this
def CellX (w w':World):Prop:=∀ (b o:Nat) (u:Value),w.cell? ⟨b,o,none⟩=some u→w'.cell? ⟨b,o,none⟩=some u
theorem ElemAt.cx {w w':World} {b o:Nat} {cs:List Value} (h:ElemAt w b o cs) (e:CellX w w'):ElemAt w' b o cs:=fun j v hv=>e _ _ _ (h j v hv)
theorem SliceOf.cx {α:Type} {w w':World} {n:Nat} {E E':List Value→α→Prop} {v:Value} {l:List α} (e:CellX w w') (hE:∀ cs x,x∈l→E cs x→E' cs x) (h:SliceOf w n (fun _=>E) v l):SliceOf w' n (fun _=>E') v l:=by
 obtain ⟨A,c,a1,a2,a3,a4⟩:=h
 refine ⟨A,c,a1,a2,a3,fun hne=>?_⟩
 obtain ⟨b,o,hA,h5⟩:=a4 hne
 refine ⟨b,o,hA,fun k x hx=>?_⟩
 obtain ⟨cs,h6,h7,h8⟩:=h5 k x hx
 exact ⟨cs,h6,ElemAt.cx h7 e,hE cs x (List.mem_of_getElem? hx) h8⟩
theorem BytesOf.cx {w w':World} {v:Value} {l:List UInt8} (h:BytesOf w v l) (e:CellX w w'):BytesOf w' v l:=SliceOf.cx (E:=EByte w) (E':=EByte w') e (fun _ _ _ h=>h) h
theorem HdrsOf.cx {w w':World} {v:Value} {l:List (ByteArray×ByteArray)} (h:HdrsOf w v l) (e:CellX w w'):HdrsOf w' v l:=SliceOf.cx (E:=EHdr w) (E':=EHdr w') e (fun _ _ _ h=>h) h
theorem ETr.cx {w w':World} (e:CellX w w') (t:Tr):∀ cs,ETr w cs t→ETr w' cs t:=by
 refine Tr.ind (p:=fun t=>∀ cs,ETr w cs t→ETr w' cs t) ?_ t
 intro n ps ih cs h
 obtain ⟨bv,hv,pv,rfl,h1,h2,h3⟩:=ETr_mk.1 h
 exact ETr_mk.2 ⟨bv,hv,pv,rfl,h1.cx e,h2.cx e,SliceOf.cx (E:=ETr w) (E':=ETr w') e (fun cs x hx h=>ih x hx cs h) h3⟩
def restr (w:World) (a e:Nat):World:={ w with heap:=w.heap.mapIdx fun i o=>if a≤i∧i < e then o else .deferred none }
theorem restr_heap (w:World) (a e k:Nat):(restr w a e).heap[k]?=(w.heap[k]?).map fun o=>if a≤k∧k < e then o else .deferred none:=by
 show (w.heap.mapIdx _)[k]?=_
 rw [Array.getElem?_mapIdx]
theorem restr_in {w:World} {a e k:Nat} (h:a≤k∧k < e):(restr w a e).heap[k]?=w.heap[k]?:=by
 rw [restr_heap]
 cases w.heap[k]? with
 | none=>rfl
 | some o=>rw [Option.map_some,if_pos h]
theorem restr_cell {w:World} {a e b o:Nat} {u:Value} (h:(restr w a e).cell? ⟨b,o,none⟩=some u):(a≤b∧b < e)∧w.cell? ⟨b,o,none⟩=some u:=by
 by_cases hb:a≤b∧b < e
 · refine ⟨hb,?_⟩
   rw [← h]
   exact (World.cell?_of_block (restr_in hb)).symm
 · exfalso
   unfold World.cell? at h
   simp only at h
   rw [restr_heap] at h
   cases hh:w.heap[b]? with
   | none=>rw [hh] at h;cases h
   | some x =>
    rw [hh,Option.map_some,if_neg hb] at h
    cases h
theorem cell_restr {w:World} {a e b o:Nat} (hb:a≤b∧b < e):(restr w a e).cell? ⟨b,o,none⟩=w.cell? ⟨b,o,none⟩:=World.cell?_of_block (restr_in hb)
theorem restr_cx {w w':World} {a e a' e':Nat} (ha:a'≤a) (he:e≤e') (h:∀ k,a≤k→k < e→k < w.heap.size→w'.heap[k]?=w.heap[k]?):CellX (restr w a e) (restr w' a' e'):=by
 intro b o u hu
 obtain ⟨hb,hc⟩:=restr_cell hu
 have hl:=World.block_lt_of_cell? w _ hc
 rw [cell_restr (by omega),← hc]
 exact World.cell?_of_block (h b hb.1 hb.2 hl)
theorem restr_all (w:World) (a e:Nat):CellX (restr w a e) w:=fun b o u hu=>(restr_cell hu).2
def ETi (w:World) (a e:Nat) (cs:List Value) (t:Tr):Prop:=ETr (restr w a e) cs t
theorem ETi.keep {w w':World} {a e a' e':Nat} {cs:List Value} {t:Tr} (h:ETi w a e cs t) (ha:a'≤a) (he:e≤e') (hk:∀ k,a≤k→k < e→k < w.heap.size→w'.heap[k]?=w.heap[k]?):ETi w' a' e' cs t:=ETr.cx (restr_cx ha he hk) t cs h
theorem ETi.all {w:World} {a e:Nat} {cs:List Value} {t:Tr} (h:ETi w a e cs t):ETr w cs t:=ETr.cx (restr_all w a e) t cs h
theorem OwnE.same {α:Type} {w w':World} {lo n:Nat} {T:TypeId} {enc:α→List Value} {v:Value} {l:List α} (h:OwnE w lo T n enc v l) (hk:∀ g,v.ownBlock=some g→w'.heap[g]?=w.heap[g]?):OwnE w' lo T n enc v l:=by
 obtain ⟨h1,h2⟩:=h
 refine ⟨h1,?_⟩
 rcases h2 with h2 | ⟨g,cap,cur,hv,hb,hc,h3⟩
 · exact .inl h2
 · exact .inr ⟨g,cap,cur,hv,hb,(hk g (by rw [hv];rfl)).trans hc,h3⟩
theorem OwnE.restr {α:Type} {w:World} {lo n a:Nat} {T:TypeId} {enc:α→List Value} {v:Value} {l:List α} (h:OwnE w lo T n enc v l) (ha:a≤lo):OwnE (restr w a w.heap.size) lo T n enc v l:=OwnE.same h fun g hg=>restr_in (by have:=World.ownsRow.lt h g hg;omega)
theorem OwnE.lt' {α:Type} {w:World} {lo n:Nat} {T:TypeId} {enc:α→List Value} {v:Value} {l:List α} (h:OwnE w lo T n enc v l) {g:Nat} (hg:v.ownBlock=some g):lo≤g∧g < w.heap.size:=World.ownsRow.lt h g hg
theorem OwnE.type {α:Type} {w:World} {lo n:Nat} {T:TypeId} {enc:α→List Value} {v:Value} {l:List α} (h:OwnE w lo T n enc v l) {g:Nat} (hg:v.ownBlock=some g):TypeAt w g T:=by
 rcases h.2 with ⟨rfl,_⟩ | ⟨g',cap,cur,rfl,_,hc,_⟩
 · cases hg
 · cases hg
   exact ⟨_,_,hc⟩
def numP (l:List UInt8):Option (Int×List UInt8):=match Go.Lib.atoiAll (l.takeWhile digN) with
 | .ok n=>some (n,l.dropWhile digN)
 | _=>none
def hxP (l:List UInt8):Option (List UInt8×List UInt8):=if (l.takeWhile hexB).length % 2=0 then some (unhexL (l.takeWhile hexB),l.dropWhile hexB) else none
def RP:Rd:=⟨fun l=>some (l.takeWhile wordB,l.dropWhile wordB),numP,hxP⟩
theorem decD_small:∀ (k v:Nat),v < 10 ^ (k+1)→(Go.Lib.decDigits v).length≤k+1:=by
 intro k
 induction k with
 | zero =>
  intro v hv
  rw [Go.Lib.decDigits,dif_pos (by omega)]
  simp
 | succ k ih =>
  intro v hv
  rw [Go.Lib.decDigits]
  split
  · simp
  · have:=ih (v / 10) (by rw [Nat.pow_succ] at hv;omega)
    rw [List.length_append,List.length_singleton]
    omega
theorem decD_atoi {u:Nat} (h:u < 1000000000000):Go.Lib.atoiAll (Go.Lib.decDigits u) = .ok (u:Int):=by
 obtain ⟨h0,h1,h2,h3⟩:=dec_ok u
 have hl:=decD_small 11 u h
 have hm:=mag_val h0 h1 (by omega)
 rw [h2] at hm
 cases hd:Go.Lib.decDigits u with
 | nil=>exact absurd hd h0
 | cons c r =>
  rw [hd] at h1 hm
  have hc:=List.all_eq_true.1 h1 c (List.mem_cons_self ..)
  rw [digN_iff] at hc
  rw [Go.Lib.atoiAll_plain c r (by omega) (by omega),hm]
  unfold Go.Lib.signless
  simp only
  rw [if_neg (by omega)]
theorem name_words {s:ByteArray} (h:nameB s=true):s.data.toList.all wordB=true:=by
 unfold nameB at h
 rw [Bool.and_eq_true] at h
 exact h.2
theorem RP_ok:RdOk RP:=by
 refine ⟨fun s rest hs hr=>?_,fun n rest h0 h1 hr=>?_,fun l rest hr=>?_⟩
 · obtain ⟨h1,h2⟩:=takeWhile_app (name_words hs) hr
   show some (_,_)=_
   rw [h1,h2]
 · obtain ⟨d0,d1,d2,d3⟩:=dec_ok n.toNat
   have hi:Go.Lib.itoa n=Go.Lib.decDigits n.toNat:=itoa_pos (by omega)
   rw [hi]
   obtain ⟨h1,h2⟩:=takeWhile_app d1 hr
   show numP _=_
   unfold numP
   rw [h1,h2,decD_atoi (by omega)]
   simp only
   rw [show ((n.toNat:Nat):Int)=n by omega]
 · obtain ⟨h1,h2⟩:=takeWhile_app (hexL_all l) hr
   show hxP _=_
   unfold hxP
   rw [h1,h2,if_pos (by rw [hexL_len];omega),unhex_hex]
def contP (rd:List UInt8→Option (Tr×List UInt8)) (k:Nat) (l:List UInt8):Option (List Tr×List UInt8):=match l with
 | 32::l2=>readP rd k l2
 | 41::l2=>some ([],l2)
 | _=>none
theorem readP_succ (rd:List UInt8→Option (Tr×List UInt8)) (k:Nat) (l:List UInt8):readP rd (k+1) l=match rd l with
 | some q=>(contP rd k q.2).map fun r=>(q.1::r.1,r.2)
 | none=>none:=by
 rw [readP]
 cases rd l with
 | none=>rfl
 | some q =>
  obtain ⟨t,l1⟩:=q
  simp only
  unfold contP
  split
  · rename_i h
    injection h with h
    injection h with h1 h2
    subst h1 h2
    rfl
  · rename_i h
    injection h with h
    injection h with h1 h2
    subst h1 h2
    rfl
  · rename_i h1 h2
    split
    · rename_i l2
      exact absurd rfl (h1 t l2)
    · rename_i l2
      exact absurd rfl (h2 t l2)
    · rfl
theorem hxP_len {l a l':List UInt8} (h:hxP l=some (a,l')):l'.length≤l.length:=by
 unfold hxP at h
 split at h
 · injection h with h
   injection h with _ h
   rw [← h]
   exact (List.dropWhile_sublist _).length_le
 · cases h
structure RvC (A w0:World) (b p:Nat):Prop where
 env:EnvOK A
 eA:Ext A w0
 hb:A.heap.size≤b
 hbw:b < w0.heap.size
 lo:w0.heap.size≤p
def KidsOf (w:World) (p:Nat) (pv:Value) (css:List (Cs 5)) (ts:List Tr):Prop:=css.length=ts.length∧∀ (k:Nat) (c:Cs 5) (x:Tr),css[k]?=some c→ts[k]?=some x→∃ a e,p < a∧e≤w.heap.size∧ETi w a e c.1 x∧∀ g,pv.ownBlock=some g→g < a∨e≤g
structure Rv (w0:World) (b p:Nat) (s:List UInt8) (h:Nat) (l:List UInt8) (nm:ByteArray) (i:Int) (bs:List UInt8) (hs:List (ByteArray×ByteArray)) (ts:List Tr) (bv hv pv:Value) (w:World):Prop where
 kp:Kp b w0 w
 st:St b s h l w
 box:w.heap[p]?=some (.cells #[.string nm,.int .i64 i,bv,hv,pv] 26 (0,0))
 ob:OwnB w (p+1) bv bs
 oh:OwnE w (p+1) 74 2 encH hv hs
 ov:∃ css:List (Cs 5),OwnE w (p+1) 26 5 (Subtype.val:Cs 5→List Value) pv css∧KidsOf w p pv css ts
section
variable {A w0:World} {b p:Nat} {s:List UInt8} {h:Nat} {l:List UInt8} {nm:ByteArray} {i:Int} {bs:List UInt8} {hs:List (ByteArray×ByteArray)} {ts:List Tr} {bv hv pv:Value} {w w':World}
theorem KidsOf.keep {css:List (Cs 5)} (hk:KidsOf w p pv css ts) (hsz:w.heap.size≤w'.heap.size) (hkeep:∀ k,p < k→k < w.heap.size→pv.ownBlock≠some k→w'.heap[k]?=w.heap[k]?):KidsOf w' p pv css ts:=by
 refine ⟨hk.1,fun k c x hc hx=>?_⟩
 obtain ⟨a,e,h1,h2,h3,h4⟩:=hk.2 k c x hc hx
 refine ⟨a,e,h1,by omega,h3.keep (Nat.le_refl _) (Nat.le_refl _) fun j hj1 hj2 hj3=>hkeep j (by omega) hj3 fun hg=>?_,h4⟩
 have:=h4 j hg
 omega
theorem Rv.move (H:Rv w0 b p s h l nm i bs hs ts bv hv pv w) {h':Nat} {l':List UInt8} {nm':ByteArray} {i':Int} (hkp:Kp b w0 w') (hst:St b s h' l' w') (hbox:w'.heap[p]?=some (.cells #[.string nm',.int .i64 i',bv,hv,pv] 26 (0,0))) (hsz:w.heap.size≤w'.heap.size) (hkeep:∀ k,p < k→k < w.heap.size→w'.heap[k]?=w.heap[k]?):Rv w0 b p s h' l' nm' i' bs hs ts bv hv pv w':=by
 obtain ⟨css,o1,o2⟩:=H.ov
 exact ⟨hkp,hst,hbox,OwnE.same H.ob fun g hg=>hkeep g (by have:=OwnE.lt' H.ob hg;omega) (OwnE.lt' H.ob hg).2,OwnE.same H.oh fun g hg=>hkeep g (by have:=OwnE.lt' H.oh hg;omega) (OwnE.lt' H.oh hg).2,css,OwnE.same o1 fun g hg=>hkeep g (by have:=OwnE.lt' o1 hg;omega) (OwnE.lt' o1 hg).2,o2.keep hsz fun k h1 h2 _=>hkeep k h1 h2⟩
theorem Rv.call (H:Rv w0 b p s h l nm i bs hs ts bv hv pv w) (C:RvC A w0 b p) {h':Nat} {l':List UInt8} (hkp:Kp b w w') (hst:St b s h' l' w'):Rv w0 b p s h' l' nm i bs hs ts bv hv pv w':=by
 have h1:=C.hbw
 have h2:=C.lo
 exact H.move (H.kp.trans hkp) hst (hkp.obj H.box (by omega)) hkp.size fun k hk hk'=>hkp.keep k hk' (by omega)
theorem Rv.ext (H:Rv w0 b p s h l nm i bs hs ts bv hv pv w) (C:RvC A w0 b p) (e:Ext w w'):Rv w0 b p s h l nm i bs hs ts bv hv pv w':=H.call C (Kp.of e) (H.st.ext e)
theorem Rv.done (H:Rv w0 b p s h l nm i bs hs ts bv hv pv w) (C:RvC A w0 b p):ETi w w0.heap.size w.heap.size [.string nm,.int .i64 i,bv,hv,pv] (.mk ⟨nm,i,bs,hs⟩ ts):=by
 have h1:=C.lo
 obtain ⟨css,o1,o2⟩:=H.ov
 refine ETr_mk.2 ⟨bv,hv,pv,rfl,OwnE.slice (OwnE.restr H.ob (by omega)) (fun _=>rfl) (fun _ _=>rfl),OwnE.slice (OwnE.restr H.oh (by omega)) (fun _=>rfl) (fun _ _=>rfl),OwnE.reads (OwnE.restr o1 (by omega)) ⟨o2.1,fun k x c hx hc=>?_⟩⟩
 obtain ⟨a,e,h2,h3,h4,_⟩:=o2.2 k c x hc hx
 exact h4.keep (by omega) h3 fun _ _ _ _=>rfl
end
def Post (w0:World) (b:Nat) (s:List UInt8) (h0:Nat) (o:Option (Tr×List UInt8)):Ending→World→Prop:=fun e w'=>Kp b w0 w'∧match o with
 | some q=>∃ cs,e = .returned (.agg cs.toArray)∧ETi w' w0.heap.size w'.heap.size cs q.1∧St b s h0 q.2 w'
 | none=>e = .panicked errF
theorem St.setH {b h h':Nat} {s l:List UInt8} {w:World} (H:St b s h l w):St b s h' l (w.setCell ⟨b,2,none⟩ (.int .i64 (h':Int))):=⟨heap_set (o:=2) H.cell _,H.suf,H.short⟩
section
variable {A w0:World} {b p:Nat} {s:List UInt8} {h:Nat} {l:List UInt8} {nm:ByteArray} {i:Int} {bs:List UInt8} {hs:List (ByteArray×ByteArray)} {ts:List Tr} {bv hv pv:Value} {w:World}
theorem rv_end (H:Rv w0 b p s (h+1) l nm i bs hs ts bv hv pv w) (C:RvC A w0 b p) (hh:h≤1000):n81c6 (.pointer (some ⟨b,0,none⟩)) (.pointer (some ⟨p,0,none⟩)) (Post w0 b s h (some (.mk ⟨nm,i,bs,hs⟩ ts,l))) w:=by
 have hlo:=C.lo
 have hbw:=C.hbw
 have o1:=SliceOf.oneCell (OwnE.slice (E:=EByte) H.ob (fun _=>rfl) (fun _ _=>rfl))
 have o2:=SliceOf.oneCell (OwnE.slice (E:=EHdr) H.oh (fun _=>rfl) (fun _ _=>rfl))
 obtain ⟨css,ov,_⟩:=H.ov
 have o3:=SliceOf.oneCell (ov.slice (E:=fun _ cs (x:Cs 5)=>cs=x.1) (fun x=>x.2) (fun _ _=>rfl))
 have hw:IntKind.i64.wrap (((h+1:Nat):Int) - 1)=(h:Int):=by rw [wrap_ok (by omega) (by omega)];omega
 unfold n81c6
 have hpb:p≠b:=by omega
 have HB:=(heap_setE (w:=w) (o:=2) (v := .int .i64 (h:Int)) hpb).trans H.box
 simp (disch:=try exact DI) only [↓PR,QR,simprocAttr,(cells_of_heap H.st.cell).1,(cells_of_heap H.st.cell).2,hw,(cells_of_heap HB).1,(cells_of_heap HB).2]
 have hst:St b s h l (w.setCell ⟨b,2,none⟩ (.int .i64 (h:Int))):=H.st.setH
 have hsz:(w.setCell ⟨b,2,none⟩ (.int .i64 (h:Int))).heap.size=w.heap.size:=by simp
 have hU:Only p (w.setCell ⟨b,2,none⟩ (.int .i64 (h:Int))) (setCells (w.setCell ⟨b,2,none⟩ (.int .i64 (h:Int))) p 0 [.string nm,.int .i64 i,bv,hv,pv]):=setCells_only [.string nm,.int .i64 i,bv,hv,pv] _ 0
 have hZ:=setCells_size [.string nm,.int .i64 i,bv,hv,pv] (b:=p) (w.setCell ⟨b,2,none⟩ (.int .i64 (h:Int))) 0
 have hB2:=setCells_heap [.string nm,.int .i64 i,bv,hv,pv] 0 HB
 rw [setA_all rfl] at hB2
 change Post w0 b s h _ _ (setCells (w.setCell ⟨b,2,none⟩ (.int .i64 (h:Int))) p 0 [.string nm,.int .i64 i,bv,hv,pv])
 have hk:Kp b w0 (setCells (w.setCell ⟨b,2,none⟩ (.int .i64 (h:Int))) p 0 [.string nm,.int .i64 i,bv,hv,pv]):=by
  have k1:=H.kp.trans (Kp.set (b:=b) (o:=2) (w:=w) (.int .i64 (h:Int)))
  exact ((((k1.setNew hlo _).setNew hlo _).setNew hlo _).setNew hlo _).setNew hlo _
 generalize setCells (w.setCell ⟨b,2,none⟩ (.int .i64 (h:Int))) p 0 [.string nm,.int .i64 i,bv,hv,pv]=W at *
 have hst':St b s h l W:=⟨(hU b (by omega)).trans hst.cell,hst.suf,hst.short⟩
 have H':=H.move hk hst' hB2 (by omega) fun k h1 h2=>(hU k (by omega)).trans (heap_setE (by omega))
 exact ⟨hk,_,rfl,H'.done C,hst'⟩
def KO (p:Nat) (o:Obj):World→Prop:=fun w=>w.heap[p]?=some o
theorem KO.ne {p:Nat} {o:Obj} {w:World} (h:w.heap[p]?=some o):ClassNe (KO p o):=⟨⟨w,h⟩⟩
theorem drawK_introO {p:Nat} {o:Obj} (h0:w.heap[p]?=some o) {f:(World→Prop)→World→Prop} (h:f (KO p o) (drew w)):drawK w f:=⟨KO p o,h0,h⟩
theorem qO_load {T:TypeId} {n m:Nat} {z v:Value} {k:Value→Prop} {p o:Nat} (h:TyInfo Pg T false n m z) {cs:Array Value} {T':TypeId} [hne:ClassNe (KO p (.cells cs T' (0,0)))] (hv:cs[o]?=some v):qV Pg (KO p (.cells cs T' (0,0))) (Instr.loadAt T (.pointer (some ⟨p,o,none⟩))) k=k v :=
 qV_eqC fun w' e=>run_of_op (P:=Pg) (w:=w') (s:=Instr.loadAt T (.pointer (some ⟨p,o,none⟩))) (v:=v) (fun QP k=>op_load1 h (by rw [(cells_of_heap e).1];exact hv))
theorem op_addKid {QP:List PanicEntry→World→Prop} {K:Value→World→Prop} (C:RvC A w0 b p) (H:Rv w0 b p s h l nm i bs hs ts bv hv pv w) {w1:World} {l':List UInt8} {cs:List Value} {x:Tr} (hk:Kp b w w1) (hst:St b s h l' w1) (hx:ETi w1 w.heap.size w1.heap.size cs x) (hts:ts.length≤200000000)
 (hK:∀ v' w3,(∃ g cap,v' = .slice (some ⟨g,0,none⟩) (ts.length+1) cap)→Rv w0 b p s h l' nm i bs hs ts bv hv pv (w1.alloc (.cells cs.toArray 26))→Rv w0 b p s h l' nm i bs hs (ts++[x]) bv hv v' (w3.setCell ⟨p,4,none⟩ v')→w3.heap[p]?=some (.cells #[.string nm,.int .i64 i,bv,hv,pv] 26 (0,0))→K v' w3) :
 opV Pg (Builtin.append_ #[24,24] 24 #[pv,.slice (some ⟨w1.heap.size,0,none⟩) 1 1]) QP (w1.alloc (.cells cs.toArray 26)) K:=by
 have hlo:=C.lo
 have hbw:=C.hbw
 have h5:cs.length=5:=by
  obtain ⟨_,_,_,rfl,_⟩:=ETr_of.1 hx
  rfl
 have hcell:∀ u∈cs,u.oneCell'=true:=(hx.all).cells5
 have H1:=H.call C hk hst
 have o2:=heap_new w1 cs.toArray 26
 have e2:Ext w1 (w1.alloc (.cells cs.toArray 26)):=ee
 have s2:(w1.alloc (.cells cs.toArray 26)).heap.size=w1.heap.size+1:=by simp
 have H2:=H1.ext C e2
 generalize (w1.alloc (.cells cs.toArray 26))=w2 at *
 have hsk:=hk.size
 obtain ⟨css0,ov0,_⟩:=H.ov
 obtain ⟨css,ov,kids⟩:=H2.ov
 have hp0:p < w.heap.size:=(Array.getElem?_eq_some_iff.1 H.box).1
 have hby:=by26
 have hcl:css.length=ts.length:=kids.1
 refine op_appendL (l':=[(⟨cs,h5⟩:Cs 5)]) Tryz.underlying24 ty26 rfl (by decide) (fun x=>x.2) (fun y hy u hu=>?_) ov (fun j y hy=>?_) (by omega) (by simp) ?_ (by simp;omega) ?_
 · simp only [List.mem_singleton] at hy
   subst hy
   exact hcell u hu
 · cases j with
   | zero =>
    simp only [List.getElem?_cons_zero,Option.some.injEq] at hy
    subst hy
    intro j v hv
    rw [(cells_of_heap o2).1]
    simpa using hv
   | succ j=>simp at hy
 · simp only [List.length_cons,List.length_nil]
   exact Nat.le_trans (Nat.mul_le_mul (Nat.add_le_add_right (by rw [hcl];exact hts) _) hby) (by decide)
 · intro g cap w3 ho hg hgg hgl
   have hgp:p+1≤g∧g < w3.heap.size:=OwnE.lt' ho (g:=g) rfl
   have hrow:∀ k,k < w2.heap.size→pv.ownBlock≠some k→w3.heap[k]?=w2.heap[k]?:=fun k hk hne=>hg.block k hk (fun e=>hne e.symm)
   have hpvp:∀ k,k≤p→pv.ownBlock≠some k:=fun k hk e=>by have:=OwnE.lt' ov e;omega
   have hs3:=hg.size
   have hbox3:w3.heap[p]?=some (.cells #[.string nm,.int .i64 i,bv,hv,pv] 26 (0,0)):=(hrow p (by omega) (hpvp p (Nat.le_refl _))).trans H2.box
   have hst3:St b s h l' w3:=⟨(hrow b (by omega) (hpvp b (by omega))).trans H2.st.cell,H2.st.suf,H2.st.short⟩
   have hkp3:Kp b w0 w3:=⟨hg.os.trans H2.kp.os,hg.tape.trans H2.kp.tape,hg.output.trans H2.kp.output,Nat.le_trans H2.kp.size hs3,fun k hk hb=>(hrow k (Nat.lt_of_lt_of_le hk H2.kp.size) (hpvp k (by omega))).trans (H2.kp.keep k hk hb)⟩
   rw [hcl] at ho ⊢
   refine hK _ w3 ⟨g,cap,rfl⟩ H2 ?_ hbox3
   have hT:∀ {α:Type} {n:Nat} {T:TypeId} {enc:α→List Value} {v:Value} {L:List α},OwnE w2 (p+1) T n enc v L→T≠26→OwnE (w3.setCell ⟨p,4,none⟩ (.slice (some ⟨g,0,none⟩) (ts.length+1) cap)) (p+1) T n enc v L:=by
    intro α n T enc v L hO hT
    refine OwnE.same hO fun j hj=>?_
    have hj':=OwnE.lt' hO hj
    rw [heap_setE (by omega)]
    refine hrow j hj'.2 fun e=>?_
    obtain ⟨c1,f1,t1⟩:=OwnE.type hO hj
    obtain ⟨c2,f2,t2⟩:=OwnE.type ov e
    rw [t1] at t2
    injection t2 with t2
    injection t2 with _ t2 _
    exact hT t2
   refine ⟨hkp3.setNew hlo _,⟨(heap_setE (by omega)).trans hst3.cell,hst3.suf,hst3.short⟩,?_,hT H2.ob (by decide),hT H2.oh (by decide),css++[⟨cs,h5⟩],?_,?_⟩
   · exact heap_set (o:=4) hbox3 _
   · exact OwnE.same ho fun j hj=>heap_setE (by
      have:g=j:=by cases hj;rfl
      omega)
   · refine ⟨by rw [List.length_append,List.length_append,hcl];rfl,fun k c y hc hy=>?_⟩
     by_cases hkl:k < css.length
     · rw [List.getElem?_append_left hkl] at hc
       rw [List.getElem?_append_left (by omega)] at hy
       obtain ⟨a,e,a1,a2,a3,a4⟩:=kids.2 k c y hc hy
       refine ⟨a,e,a1,by simp;omega,a3.keep (Nat.le_refl _) (Nat.le_refl _) fun j j1 j2 j3=>?_,fun g' hg'=>?_⟩
       · rw [heap_setE (by omega)]
         refine hrow j j3 fun e'=>?_
         have:=a4 j e'
         omega
       · obtain rfl:g=g':=by cases hg';rfl
         rcases hgg with h' | h'
         · exact a4 g h'
         · exact .inr (by omega)
     · obtain rfl:k=css.length:=by
        have:=(List.getElem?_eq_some_iff.1 hc).1
        rw [List.length_append,List.length_singleton] at this
        omega
       rw [List.getElem?_append_right (Nat.le_refl _),Nat.sub_self] at hc
       rw [hcl,List.getElem?_append_right (Nat.le_refl _),Nat.sub_self] at hy
       simp only [List.getElem?_cons_zero,Option.some.injEq] at hc hy
       subst hc hy
       refine ⟨w.heap.size,w1.heap.size,hp0,by simp;omega,hx.keep (Nat.le_refl _) (Nat.le_refl _) fun j j1 j2 j3=>?_,fun g' hg'=>?_⟩
       · have hold:pv.ownBlock≠some j:=fun e'=>by
          have:=(OwnE.lt' ov0 e').2
          omega
         rw [heap_setE (by omega),hrow j (by omega) hold]
         exact e2.block j j3
       · obtain rfl:g=g':=by cases hg';rfl
         rcases hgg with h' | h'
         · exact .inl (OwnE.lt' ov0 h').2
         · exact .inr (by omega)
end
theorem readP_len {rd:List UInt8→Option (Tr×List UInt8)} (h:∀ l t l',rd l=some (t,l')→l'.length≤l.length):∀ (k:Nat) (l:List UInt8) (ts:List Tr) (l':List UInt8),readP rd k l=some (ts,l')→l'.length≤l.length
 | 0,l,ts,l',hh=>by cases hh
 | k+1,l,ts,l',hh=>by
  rw [readP_succ] at hh
  cases hr:rd l with
  | none=>rw [hr] at hh;cases hh
  | some q =>
   obtain ⟨t,l1⟩:=q
   rw [hr] at hh
   have h1:=h l t l1 hr
   simp only at hh
   unfold contP at hh
   split at hh
   · rename_i l2
     cases hp:readP rd k l2 with
     | none=>rw [hp] at hh;cases hh
     | some q2 =>
      rw [hp] at hh
      simp only [Option.map_some,Option.some.injEq,Prod.mk.injEq] at hh
      have:=readP_len h k l2 q2.1 q2.2 hp
      rw [← hh.2]
      rw [List.length_cons] at h1
      omega
   · simp only [Option.map_some,Option.some.injEq,Prod.mk.injEq] at hh
     rw [← hh.2]
     rw [List.length_cons] at h1
     omega
   · cases hh
theorem readI_len {l:List UInt8} {n:Int} {l':List UInt8} (h:readI RP l=some (n,l')):l'.length≤l.length:=by
 unfold readI at h
 split at h
 · rename_i l1
   change numP l1=_ at h
   unfold numP at h
   split at h
   · injection h with h
     injection h with _ h
     have:=(List.dropWhile_sublist (p:=digN) (l:=l1)).length_le
     rw [← h,List.length_cons]
     omega
   · cases h
 · injection h with h
   injection h with _ h
   rw [h]
   exact Nat.le_refl _
theorem readB_len {l:List UInt8} {n l':List UInt8} (h:readB RP l=some (n,l')):l'.length≤l.length:=by
 unfold readB at h
 split at h
 · rename_i l1
   have:=hxP_len (l:=l1) h
   rw [List.length_cons]
   omega
 · injection h with h
   injection h with _ h
   rw [h]
   exact Nat.le_refl _
theorem readH_len:∀ (k:Nat) (l:List UInt8) (hs:List (ByteArray×ByteArray)) (l':List UInt8),readH RP k l=some (hs,l')→l'.length≤l.length
 | 0,l,hs,l',h=>by
  rw [readH] at h
  injection h with h
  injection h with _ h
  rw [h]
  exact Nat.le_refl _
 | k+1,l,hs,l',h=>by
  unfold readH at h
  split at h
  · rename_i l1
    split at h
    · rename_i a l2 h1
      have g1:=hxP_len (l:=l1) h1
      split at h
      · rename_i b l3 h2
        have g2:=hxP_len (l:=l2) h2
        cases hr:readH RP k l3 with
        | none=>rw [hr] at h;cases h
        | some q =>
         rw [hr] at h
         simp only [Option.map_some,Option.some.injEq,Prod.mk.injEq] at h
         have:=readH_len k l3 q.1 q.2 hr
         rw [← h.2]
         simp only [List.length_cons] at *
         omega
      · cases h
    · cases h
  · injection h with h
    injection h with _ h
    rw [h]
    exact Nat.le_refl _
theorem readN_len {l:List UInt8} {n:Nd} {l':List UInt8} (h:readN RP l=some (n,l')):l'.length≤l.length:=by
 unfold readN at h
 have g0:=(List.dropWhile_sublist (p:=wordB) (l:=l)).length_le
 split at h
 · cases h
 rename_i nm l1 h0
 have h0:some (l.takeWhile wordB,l.dropWhile wordB)=some (nm,l1):=h0
 injection h0 with h0
 injection h0 with _ h0
 rw [h0] at g0
 split at h
 · cases h
 · rename_i i l2 h1
   have g1:=readI_len h1
   split at h
   · cases h
   · rename_i bs l3 h2
     have g2:=readB_len h2
     split at h
     · cases h
     · rename_i hs l4 h3
       have g3:=readH_len _ _ _ _ h3
       injection h with h
       injection h with _ h
       rw [← h]
       omega
def partsOf (rd:List UInt8→Option (Tr×List UInt8)) (n:Nd) (l:List UInt8):Option (Tr×List UInt8):=match l with
 | 40::l2=>(readP rd (l2.length+1) l2).map fun q=>(.mk n q.1,q.2)
 | l1=>some (.mk n [],l1)
theorem readV_succ (R:Rd) (f:Nat) (l:List UInt8):readV R (f+1) l=match readN R l with
 | none=>none
 | some (n,l1)=>partsOf (readV R f) n l1:=by
 rw [readV]
 cases readN R l with
 | none=>rfl
 | some q=>rfl
theorem readV_len:∀ (f:Nat) (l:List UInt8) (t:Tr) (l':List UInt8),readV RP f l=some (t,l')→l'.length≤l.length
 | 0,l,t,l',h=>by cases h
 | f+1,l,t,l',h=>by
  rw [readV_succ] at h
  split at h
  · cases h
  · rename_i n l1 h1
    have g1:=readN_len h1
    unfold partsOf at h
    split at h
    · rename_i l2
      cases hp:readP (readV RP f) (l2.length+1) l2 with
      | none=>rw [hp] at h;cases h
      | some q =>
       rw [hp] at h
       simp only [Option.map_some,Option.some.injEq,Prod.mk.injEq] at h
       have:=readP_len (fun l t l' h=>readV_len f l t l' h) _ _ q.1 q.2 hp
       rw [← h.2]
       rw [List.length_cons] at g1
       omega
    · injection h with h
      injection h with _ h
      rw [← h]
      exact g1
def ValC (f:Nat):Prop:=∀ (A w0:World) (b:Nat) (s:List UInt8) (h:Nat) (l:List UInt8),EnvOK A→Ext A w0→A.heap.size≤b→St b s h l w0→h+f=40→Calls Pg 51 #[.pointer (some ⟨b,0,none⟩)] w0 (Post w0 b s h (readV RP f l))
section
variable {A w0:World} {b p:Nat} {s:List UInt8} {h:Nat} {nm:ByteArray} {i:Int} {bs:List UInt8} {hs:List (ByteArray×ByteArray)} {bv hv:Value}
theorem val_call {f:Nat} (V:ValC f) (C:RvC A w0 b p) {ts:List Tr} {pv:Value} {l:List UInt8} {w:World} (H:Rv w0 b p s (h+1) l nm i bs hs ts bv hv pv w) (hf:h+1+f=40) {QP:List PanicEntry→World→Prop} {k:Value→World→Prop}
 (hk:∀ x l' cs w1,readV RP f l=some (x,l')→Kp b w w1→St b s (h+1) l' w1→ETi w1 w.heap.size w1.heap.size cs x→k (.agg cs.toArray) w1) (hp:readV RP f l=none→∀ w1,Kp b w w1→QP errF w1):callK Pg 51 #[.pointer (some ⟨b,0,none⟩)] QP w k:=by
 have eA:Ext A w:=H.kp.from C.eA C.hb
 refine callK_calls (V A w b s (h+1) l C.env eA C.hb H.st hf) ?_ ?_ ?_
 · rintro v w1 ⟨k1,h1⟩
   cases hr:readV RP f l with
   | none=>rw [hr] at h1;cases h1
   | some q =>
    rw [hr] at h1
    obtain ⟨cs,hv,h2,h3⟩:=h1
    injection hv with hv
    rw [hv]
    exact hk q.1 q.2 cs w1 hr k1 h3 h2
 · rintro ch w1 ⟨k1,h1⟩
   cases hr:readV RP f l with
   | none =>
    rw [hr] at h1
    injection h1 with h1
    rw [h1]
    exact hp hr w1 k1
   | some q =>
    rw [hr] at h1
    obtain ⟨cs,hv,_⟩:=h1
    cases hv
 · rintro w1 ⟨k1,h1⟩
   cases hr:readV RP f l with
   | none=>rw [hr] at h1;cases h1
   | some q =>
    rw [hr] at h1
    obtain ⟨cs,hv,_⟩:=h1
    cases hv
theorem rv_loop {f:Nat} (V:ValC f) (C:RvC A w0 b p) (hf:h+1+f=40) {ts:List Tr} {pv:Value} {l:List UInt8} {w:World} {k:Nat} (H:Rv w0 b p s (h+1) l nm i bs hs ts bv hv pv w) (hl:l.length≤k) (ht:ts.length+l.length≤100000001) {O:Option (Tr×List UInt8)} (hO:O=(contP (readV RP f) k l).map fun q=>(.mk ⟨nm,i,bs,hs⟩ (ts++q.1),q.2)) :
 loop0 (fun w next9=>n81c10 (.pointer (some ⟨b,0,none⟩)) (.pointer (some ⟨p,0,none⟩)) (fun w=>n81c6 (.pointer (some ⟨b,0,none⟩)) (.pointer (some ⟨p,0,none⟩)) (Post w0 b s h O) w) next9 (Post w0 b s h O) w) w:=by
 refine loop0_intro (fun w=>∃ ts l pv k,Rv w0 b p s (h+1) l nm i bs hs ts bv hv pv w∧l.length≤k∧ts.length+l.length≤100000001∧O=(contP (readV RP f) k l).map fun q=>(.mk ⟨nm,i,bs,hs⟩ (ts++q.1),q.2)) (leftM b s.length) ⟨ts,l,pv,k,H,hl,ht,hO⟩ ?_
 clear H hl ht hO w ts pv l k
 rintro w ⟨ts,l,pv,k,H,hl,ht,hO⟩
 rw [H.st.left]
 unfold n81c10
 simp (disch:=try exact DI) only [↓PR,QR,simprocAttr]
 refine callK_ret (next_ret b (h+1) s l w 32 H.st) ?_
 rintro _ w1 ⟨rfl,H1,k1⟩
 have hlo:=C.lo
 have hbw:=C.hbw
 by_cases h32:l.head?=some 32
 · rw [if_pos h32] at H1
   have hd:decide (l.head?=some 32)=true:=decide_eq_true h32
   rw [hd]
   obtain ⟨l2,rfl⟩:∃ l2,l=32::l2:=by
    cases l with
    | nil=>cases h32
    | cons a l2=>simp only [List.head?_cons,Option.some.injEq] at h32;subst h32;exact ⟨l2,rfl⟩
   rw [List.tail_cons] at H1
   have R1:=H.call C k1 H1
   rw [List.length_cons] at hl ht
   have hcp:contP (readV RP f) k (32::l2)=readP (readV RP f) k l2:=rfl
   rw [hcp] at hO
   cases k with
   | zero=>omega
   | succ k =>
   rw [readP_succ] at hO
   simp (disch:=try exact DI) only [↓PR,QR,simprocAttr]
   have R2:=R1.ext C (Ext.refl w1).drew
   refine drawK_introO R1.box ?_
   change n81c8 _ _ _ _ _ (drew w1)
   have R2:Rv w0 b p s (h+1) l2 nm i bs hs ts bv hv pv (drew w1):=R2
   generalize drew w1=D at *
   haveI:=KO.ne R2.box
   unfold n81c8
   have q1:=fun {k':Value→Prop}=>qO_load (p:=p) (cs := #[.string nm,.int .i64 i,bv,hv,pv]) (T':=26) (k:=k') ty24 (o:=4) (v:=pv) rfl
   simp (disch:=try exact DI) only [↓PR,QR,simprocAttr,q1]
   refine val_call V C R2 hf ?_ ?_
   · intro x l' cs w2 hr k2 H2 hx
     rw [hr] at hO
     simp only [Option.map_map] at hO
     have hbox2:=k2.obj R2.box (by omega)
     refine ⟨hbox2,?_⟩
     obtain ⟨bv',hv',pv',rfl,_⟩:=ETr_of.1 hx
     simp (disch:=try exact DI) only [↓PR,QR,simprocAttr]
     have R3:=R2.call C k2 H2
     have hl2:=readV_len f l2 x l' hr
     refine ⟨(R3.ext C ((Ext.refl w2).alloc _)).box,?_⟩
     unfold n81c7
     refine op_addKid (cs:=trCells x.nd bv' hv' pv') C R2 k2 H2 hx (by omega) fun v' w3 hv3 R4 R5 hb3=>⟨hb3,?_⟩
     obtain ⟨g,cap,rfl⟩:=hv3
     simp (disch:=try exact DI) only [↓PR,QR,simprocAttr,(cells_of_heap hb3).1,(cells_of_heap hb3).2]
     refine turnK_intro ⟨⟨ts++[x],l',_,k,R5,by omega,by rw [List.length_append,List.length_singleton];omega,?_⟩,?_⟩
     · rw [hO]
       congr 1
       funext q
       simp
     · rw [R5.st.left,List.length_cons]
       omega
   · intro hr w2 k2
     rw [hr] at hO
     subst hO
     exact ⟨R2.kp.trans k2,rfl⟩
 · rw [if_neg h32] at H1
   have hd:decide (l.head?=some 32)=false:=decide_eq_false h32
   rw [hd]
   have R1:=H.call C k1 H1
   simp (disch:=try exact DI) only [↓PR,QR,simprocAttr]
   unfold n81c9
   simp (disch:=try exact DI) only [↓PR,QR,simprocAttr]
   refine callK_ret (next_ret b (h+1) s l w1 41 R1.st) ?_
   rintro _ w2 ⟨rfl,H2,k2⟩
   refine must_call (fun ht v=>?_) (fun ht=>?_)
   · have h41:l.head?=some 41:=of_decide_eq_true ht
     obtain ⟨l2,rfl⟩:∃ l2,l=41::l2:=by
      cases l with
      | nil=>cases h41
      | cons a l2=>simp only [List.head?_cons,Option.some.injEq] at h41;subst h41;exact ⟨l2,rfl⟩
     rw [if_pos h41,List.tail_cons] at H2
     have hO:O=some (.mk ⟨nm,i,bs,hs⟩ ts,l2):=by
      rw [hO]
      show Option.map _ (some (([]:List Tr),l2))=_
      rw [Option.map_some,List.append_nil]
     rw [hO]
     exact rv_end (R1.call C k2 H2) C (by omega)
   · have h41:¬ l.head?=some 41:=of_decide_eq_false ht
     have hO:O=none:=by
      rw [hO]
      unfold contP
      split
      · exact absurd rfl h32
      · exact absurd rfl h41
      · rfl
     subst hO
     exact ⟨R1.kp.trans k2,rfl⟩
end
theorem head_cons {l:List UInt8} {c:UInt8} (h:l.head?=some c):∃ r,l=c::r:=by
 cases l with
 | nil=>cases h
 | cons a r=>simp only [List.head?_cons,Option.some.injEq] at h;subst h;exact ⟨r,rfl⟩
section
variable {A w0:World} {b p:Nat} {s:List UInt8} {h:Nat} {nm:ByteArray} {i:Int} {bs:List UInt8} {hs:List (ByteArray×ByteArray)} {bv hv:Value}
theorem rv_parts {f:Nat} (V:ValC f) (C:RvC A w0 b p) (hf:h+1+f=40) {pv:Value} {l:List UInt8} {w:World} (H:Rv w0 b p s (h+1) l nm i bs hs [] bv hv pv w):n81c14 (.pointer (some ⟨b,0,none⟩)) (.pointer (some ⟨p,0,none⟩)) (Post w0 b s h (partsOf (readV RP f) ⟨nm,i,bs,hs⟩ l)) w:=by
 have hlo:=C.lo
 have hbw:=C.hbw
 unfold n81c14 joinK
 simp (disch:=try exact DI) only [↓PR,QR,simprocAttr]
 refine callK_ret (next_ret b (h+1) s l w 40 H.st) ?_
 rintro _ w1 ⟨rfl,H1,k1⟩
 by_cases h40:l.head?=some 40
 · rw [if_pos h40] at H1
   have hd:decide (l.head?=some 40)=true:=decide_eq_true h40
   rw [hd]
   obtain ⟨l2,rfl⟩:=head_cons h40
   rw [List.tail_cons] at H1
   have R1:=H.call C k1 H1
   have hO:partsOf (readV RP f) ⟨nm,i,bs,hs⟩ (40::l2)=(readP (readV RP f) (l2.length+1) l2).map fun q=>(.mk ⟨nm,i,bs,hs⟩ q.1,q.2):=rfl
   rw [readP_succ] at hO
   rw [hO]
   clear hO
   have hsh:=R1.st.le
   have hsh2:=R1.st.short
   simp (disch:=try exact DI) only [↓PR,QR,simprocAttr]
   refine drawK_introO R1.box ?_
   change n81c13 _ _ _ _ _ (drew w1)
   have R2:Rv w0 b p s (h+1) l2 nm i bs hs [] bv hv pv (drew w1):=R1.ext C (Ext.refl w1).drew
   generalize drew w1=D at *
   haveI:=KO.ne R2.box
   unfold n81c13
   have q1:=fun {k':Value→Prop}=>qO_load (p:=p) (cs := #[.string nm,.int .i64 i,bv,hv,pv]) (T':=26) (k:=k') ty24 (o:=4) (v:=pv) rfl
   simp (disch:=try exact DI) only [↓PR,QR,simprocAttr,q1]
   refine val_call V C R2 hf ?_ ?_
   · intro x l' cs w2 hr k2 H2 hx
     have hbox2:=k2.obj R2.box (by omega)
     have hl2:=readV_len f l2 x l' hr
     refine ⟨hbox2,?_⟩
     obtain ⟨bv',hv',pv',rfl,_⟩:=ETr_of.1 hx
     unfold n81c12
     simp (disch:=try exact DI) only [↓PR,QR,simprocAttr]
     have R3:=R2.call C k2 H2
     refine ⟨(R3.ext C ((Ext.refl w2).alloc _)).box,?_⟩
     refine op_addKid (cs:=trCells x.nd bv' hv' pv') C R2 k2 H2 hx (by simp) fun v' w3 hv3 R4 R5 hb3=>⟨hb3,?_⟩
     obtain ⟨g,cap,rfl⟩:=hv3
     unfold n81c11
     simp (disch:=try exact DI) only [↓PR,QR,simprocAttr,(cells_of_heap hb3).1,(cells_of_heap hb3).2]
     refine turnK_intro ?_
     refine rv_loop V C hf R5 (k:=l2.length) hl2 (by simp;omega) ?_
     rw [hr]
     simp only [Option.map_map]
     rfl
   · intro hr w2 k2
     rw [hr]
     exact ⟨R2.kp.trans k2,rfl⟩
 · rw [if_neg h40] at H1
   have hd:decide (l.head?=some 40)=false:=decide_eq_false h40
   rw [hd]
   have R1:=H.call C k1 H1
   have hO:partsOf (readV RP f) ⟨nm,i,bs,hs⟩ l=some (.mk ⟨nm,i,bs,hs⟩ [],l):=by
    unfold partsOf
    split
    · exact absurd rfl h40
    · rfl
   rw [hO]
   simp (disch:=try exact DI) only [↓PR,QR,simprocAttr]
   exact rv_end R1 C (by omega)
theorem hex_call (C:RvC A w0 b p) {ts:List Tr} {pv:Value} {l:List UInt8} {w:World} (H:Rv w0 b p s h l nm i bs hs ts bv hv pv w) {QP:List PanicEntry→World→Prop} {k:Value→World→Prop}
 (hk:∀ a l' v w1,hxP l=some (a,l')→Kp b w w1→St b s h l' w1→OwnB w1 w.heap.size v a→k v w1) (hp:hxP l=none→∀ w1,Kp b w w1→QP errF w1):callK Pg 77 #[.pointer (some ⟨b,0,none⟩)] QP w k:=by
 refine callK_calls (hex_ret b h s l w H.st) ?_ ?_ ?_
 · rintro v w1 ⟨k1,h1⟩
   split at h1
   · rename_i he
     obtain ⟨v',hv,h2,h3⟩:=h1
     injection hv with hv
     rw [hv]
     exact hk _ _ v' w1 (by unfold hxP;rw [if_pos he]) k1 h3 h2
   · cases h1
 · rintro ch w1 ⟨k1,h1⟩
   split at h1
   · obtain ⟨_,hv,_⟩:=h1
     cases hv
   · rename_i he
     injection h1 with h1
     rw [h1]
     exact hp (by unfold hxP;rw [if_neg he]) w1 k1
 · rintro w1 ⟨k1,h1⟩
   split at h1
   · obtain ⟨_,hv,_⟩:=h1
     cases hv
   · cases h1
theorem op_addHdr {QP:List PanicEntry→World→Prop} {K:Value→World→Prop} (C:RvC A w0 b p) {pv:Value} {l:List UInt8} {w:World} (H:Rv w0 b p s h l nm i bs hs [] bv hv pv w) (x:ByteArray×ByteArray) (hts:hs.length≤200000000)
 (hK:∀ v' w3,(∃ g cap,v' = .slice (some ⟨g,0,none⟩) (hs.length+1) cap)→Rv w0 b p s h l nm i bs (hs++[x]) [] bv v' pv (w3.setCell ⟨p,3,none⟩ v')→w3.heap[p]?=some (.cells #[.string nm,.int .i64 i,bv,hv,pv] 26 (0,0))→K v' w3) :
 opV Pg (Builtin.append_ #[23,23] 23 #[hv,.slice (some ⟨w.heap.size,0,none⟩) 1 1]) QP (w.alloc (.cells #[.string x.1,.string x.2] 74)) K:=by
 have hlo:=C.lo
 have hbw:=C.hbw
 have o2:=heap_new w #[.string x.1,.string x.2] 74
 have e2:Ext w (w.alloc (.cells #[.string x.1,.string x.2] 74)):=ee
 have s2:(w.alloc (.cells #[.string x.1,.string x.2] 74)).heap.size=w.heap.size+1:=by simp
 have H2:=H.ext C e2
 generalize (w.alloc (.cells #[.string x.1,.string x.2] 74))=w2 at *
 have hp0:p < w.heap.size:=(Array.getElem?_eq_some_iff.1 H.box).1
 have hby:=by74
 refine op_appendL (l':=[x]) Tryz.underlying23 ty74 rfl (by decide) (fun _=>rfl) (fun y _ u hu=>?_) H2.oh (fun j y hy=>?_) (by omega) (by simp) ?_ (by simp;omega) ?_
 · simp only [encH,List.mem_cons,List.not_mem_nil,or_false] at hu
   rcases hu with rfl | rfl<;>rfl
 · cases j with
   | zero =>
    simp only [List.getElem?_cons_zero,Option.some.injEq] at hy
    subst hy
    intro j v hv
    rw [(cells_of_heap o2).1]
    simpa [encH] using hv
   | succ j=>simp at hy
 · simp only [List.length_cons,List.length_nil]
   exact Nat.le_trans (Nat.mul_le_mul (Nat.add_le_add_right hts _) hby) (by decide)
 · intro g cap w3 ho hg hgg hgl
   have hrow:∀ k,k < w2.heap.size→hv.ownBlock≠some k→w3.heap[k]?=w2.heap[k]?:=fun k hk hne=>hg.block k hk (fun e=>hne e.symm)
   have hpvp:∀ k,k≤p→hv.ownBlock≠some k:=fun k hk e=>by have:=OwnE.lt' H2.oh e;omega
   have hgp:p+1≤g∧g < w3.heap.size:=OwnE.lt' ho (g:=g) rfl
   have hs3:=hg.size
   have hbox3:w3.heap[p]?=some (.cells #[.string nm,.int .i64 i,bv,hv,pv] 26 (0,0)):=(hrow p (by omega) (hpvp p (Nat.le_refl _))).trans H2.box
   have hst3:St b s h l w3:=⟨(hrow b (by omega) (hpvp b (by omega))).trans H2.st.cell,H2.st.suf,H2.st.short⟩
   have hkp3:Kp b w0 w3:=⟨hg.os.trans H2.kp.os,hg.tape.trans H2.kp.tape,hg.output.trans H2.kp.output,Nat.le_trans H2.kp.size hs3,fun k hk hb=>(hrow k (Nat.lt_of_lt_of_le hk H2.kp.size) (hpvp k (by omega))).trans (H2.kp.keep k hk hb)⟩
   refine hK _ w3 ⟨g,cap,rfl⟩ ?_ hbox3
   have hT:∀ {α:Type} {n:Nat} {T:TypeId} {enc:α→List Value} {v:Value} {L:List α},OwnE w2 (p+1) T n enc v L→T≠74→OwnE (w3.setCell ⟨p,3,none⟩ (.slice (some ⟨g,0,none⟩) (hs.length+1) cap)) (p+1) T n enc v L:=by
    intro α n T enc v L hO hT
    refine OwnE.same hO fun j hj=>?_
    have hj':=OwnE.lt' hO hj
    rw [heap_setE (by omega)]
    refine hrow j hj'.2 fun e=>?_
    obtain ⟨c1,f1,t1⟩:=OwnE.type hO hj
    obtain ⟨c2,f2,t2⟩:=OwnE.type H2.oh e
    rw [t1] at t2
    injection t2 with t2
    injection t2 with _ t2 _
    exact hT t2
   obtain ⟨css,ov,kids⟩:=H2.ov
   refine ⟨hkp3.setNew hlo _,⟨(heap_setE (by omega)).trans hst3.cell,hst3.suf,hst3.short⟩,heap_set (o:=3) hbox3 _,hT H2.ob (by decide),?_,css,hT ov (by decide),kids.1,fun k c y hc hy=>?_⟩
   · exact OwnE.same ho fun j hj=>heap_setE (by
      have:g=j:=by cases hj;rfl
      omega)
   · cases hy
end
def hdrsOf (rd:List UInt8→Option (Tr×List UInt8)) (nm:ByteArray) (i:Int) (bs:List UInt8) (hs:List (ByteArray×ByteArray)) (k:Nat) (l:List UInt8):Option (Tr×List UInt8):=match readH RP k l with
 | none=>none
 | some (hs2,l4)=>partsOf rd ⟨nm,i,bs,hs++hs2⟩ l4
section
variable {A w0:World} {b p:Nat} {s:List UInt8} {h:Nat} {nm:ByteArray} {i:Int} {bs:List UInt8}
theorem rv_hdrs {f:Nat} (V:ValC f) (C:RvC A w0 b p) (hf:h+1+f=40) {hs:List (ByteArray×ByteArray)} {bv hv pv:Value} {l:List UInt8} {w:World} {k:Nat} (H:Rv w0 b p s (h+1) l nm i bs hs [] bv hv pv w) (hl:l.length < k) (ht:hs.length+l.length≤100000001) {O:Option (Tr×List UInt8)} (hO:O=hdrsOf (readV RP f) nm i bs hs k l) :
 loop0 (fun w next3=>n81c15 (.pointer (some ⟨b,0,none⟩)) (.pointer (some ⟨p,0,none⟩)) next3 (Post w0 b s h O) w) w:=by
 refine loop0_intro (fun w=>∃ hs hv l k,Rv w0 b p s (h+1) l nm i bs hs [] bv hv pv w∧l.length < k∧hs.length+l.length≤100000001∧O=hdrsOf (readV RP f) nm i bs hs k l) (leftM b s.length) ⟨hs,hv,l,k,H,hl,ht,hO⟩ ?_
 clear H hl ht hO w l k hs hv
 rintro w ⟨hs,hv,l,k,H,hl,ht,hO⟩
 have hlo:=C.lo
 have hbw:=C.hbw
 rw [H.st.left]
 unfold n81c15
 simp (disch:=try exact DI) only [↓PR,QR,simprocAttr]
 refine callK_ret (next_ret b (h+1) s l w 91 H.st) ?_
 rintro _ w1 ⟨rfl,H1,k1⟩
 cases k with
 | zero=>omega
 | succ k =>
 by_cases h91:l.head?=some 91
 · rw [if_pos h91] at H1
   have hd:decide (l.head?=some 91)=true:=decide_eq_true h91
   rw [hd]
   obtain ⟨l1,rfl⟩:=head_cons h91
   rw [List.tail_cons] at H1
   have R1:=H.call C k1 H1
   rw [List.length_cons] at hl ht
   have hrH:readH RP (k+1) (91::l1)=match hxP l1 with
    | some (a,58::l2)=>match hxP l2 with
     | some (b,93::l3)=>(readH RP k l3).map fun q=>((mkB a,mkB b)::q.1,q.2)
     | _=>none
    | _=>none:=rfl
   unfold hdrsOf at hO
   rw [hrH] at hO
   simp (disch:=try exact DI) only [↓PR,QR,simprocAttr]
   refine hex_call C R1 ?_ ?_
   · intro a la va w2 hxa k2 H2 hOa
     rw [hxa] at hO
     have hla:=hxP_len hxa
     have R2:=R1.call C k2 H2
     unfold n81c5
     rw [op_bytesStr hOa.bytes]
     simp (disch:=try exact DI) only [↓PR,QR,simprocAttr]
     refine callK_ret (next_ret b (h+1) s la w2 58 R2.st) ?_
     rintro _ w3 ⟨rfl,H3,k3⟩
     refine must_call (fun ht58 v=>?_) (fun ht58=>?_)
     · have h58:la.head?=some 58:=of_decide_eq_true ht58
       obtain ⟨l2,rfl⟩:=head_cons h58
       rw [if_pos h58,List.tail_cons] at H3
       have R3:=R2.call C k3 H3
       rw [List.length_cons] at hla
       refine drawK_introO R3.box ?_
       change n81c4 _ _ _ _ _ _ (drew w3)
       have R4:Rv w0 b p s (h+1) l2 nm i bs hs [] bv hv pv (drew w3):=R3.ext C (Ext.refl w3).drew
       generalize drew w3=D at *
       haveI:=KO.ne R4.box
       unfold n81c4
       have q1:=fun {k':Value→Prop}=>qO_load (p:=p) (cs := #[.string nm,.int .i64 i,bv,hv,pv]) (T':=26) (k:=k') ty23 (o:=3) (v:=hv) rfl
       simp (disch:=try exact DI) only [↓PR,QR,simprocAttr,q1]
       have hO2:O=match (match hxP l2 with | some (b,93::l3)=>(readH RP k l3).map fun q=>((mkB a,mkB b)::q.1,q.2) | _=>none) with | none=>none | some (hs2,l4)=>partsOf (readV RP f) ⟨nm,i,bs,hs++hs2⟩ l4:=hO
       refine hex_call C R4 ?_ ?_
       · intro a2 lb vb w5 hxb k5 H5 hOb
         have hlb:=hxP_len hxb
         rw [hxb] at hO2
         have R5:=R4.call C k5 H5
         refine ⟨R5.box,?_⟩
         rw [op_bytesStr hOb.bytes]
         refine ⟨R5.box,?_⟩
         unfold n81c3
         simp (disch:=try exact DI) only [↓PR,QR,simprocAttr]
         have hE:Ext w5 (w5.alloc (.cells #[.string ⟨a.toArray⟩,.string ⟨a2.toArray⟩] 74)):=ee
         refine ⟨(R5.ext C hE).box,?_⟩
         unfold n81c2
         refine op_addHdr C R5 (⟨a.toArray⟩,⟨a2.toArray⟩) (by omega) fun v' w6 hv6 R6 hb6=>⟨hb6,?_⟩
         obtain ⟨g,cap,rfl⟩:=hv6
         simp (disch:=try exact DI) only [↓PR,QR,simprocAttr,(cells_of_heap hb6).1,(cells_of_heap hb6).2]
         refine turnK_intro ?_
         unfold n81c1
         simp (disch:=try exact DI) only [↓PR,QR,simprocAttr]
         refine callK_ret (next_ret b (h+1) s lb _ 93 R6.st) ?_
         rintro _ w7 ⟨rfl,H7,k7⟩
         refine must_call (fun ht93 v=>?_) (fun ht93=>?_)
         · have h93:lb.head?=some 93:=of_decide_eq_true ht93
           obtain ⟨l3,rfl⟩:=head_cons h93
           rw [if_pos h93,List.tail_cons] at H7
           rw [List.length_cons] at hlb
           have R7:=R6.call C k7 H7
           refine ⟨⟨hs++[(mkB a,mkB a2)],_,l3,k,R7,by omega,by rw [List.length_append,List.length_singleton];omega,?_⟩,?_⟩
           · rw [hO2]
             unfold hdrsOf
             show (match (readH RP k l3).map fun q=>((mkB a,mkB a2)::q.1,q.2) with | none=>none | some (hs2,l4)=>partsOf (readV RP f) ⟨nm,i,bs,hs++hs2⟩ l4)=_
             cases readH RP k l3 with
             | none=>rfl
             | some q =>
              show partsOf _ _ _=partsOf _ _ _
              rw [List.append_assoc]
              rfl
           · rw [R7.st.left,List.length_cons]
             omega
         · have h93:¬ lb.head?=some 93:=of_decide_eq_false ht93
           have hO3:O=none:=by
            rw [hO2]
            split
            · rfl
            · rename_i hx
              split at hx
              · rename_i hy
                injection hy with hy
                injection hy with _ hy
                rw [hy] at h93
                exact absurd rfl h93
              · cases hx
           subst hO3
           exact ⟨R6.kp.trans k7,rfl⟩
       · intro hxb w5 k5
         rw [hxb] at hO2
         subst hO2
         exact ⟨R4.kp.trans k5,rfl⟩
     · have h58:¬ la.head?=some 58:=of_decide_eq_false ht58
       have hO3:O=none:=by
        rw [hO]
        split
        · rfl
        · rename_i hx
          split at hx
          · rename_i hy
            injection hy with hy
            injection hy with _ hy
            rw [hy] at h58
            exact absurd rfl h58
          · cases hx
       subst hO3
       exact ⟨R2.kp.trans k3,rfl⟩
   · intro hxa w2 k2
     rw [hxa] at hO
     subst hO
     exact ⟨R1.kp.trans k2,rfl⟩
 · rw [if_neg h91] at H1
   have hd:decide (l.head?=some 91)=false:=decide_eq_false h91
   rw [hd]
   have R1:=H.call C k1 H1
   have hrH:readH RP (k+1) l=some ([],l):=by
    unfold readH
    split
    · exact absurd rfl h91
    · rfl
   have hO:O=partsOf (readV RP f) ⟨nm,i,bs,hs⟩ l:=by
    rw [hO]
    unfold hdrsOf
    rw [hrH]
    simp only [List.append_nil]
   simp (disch:=try exact DI) only [↓PR,QR,simprocAttr]
   rw [hO]
   exact rv_parts V C hf R1
end
def bytesOfR (rd:List UInt8→Option (Tr×List UInt8)) (nm:ByteArray) (i:Int) (l:List UInt8):Option (Tr×List UInt8):=match readB RP l with
 | none=>none
 | some (bs,l3)=>hdrsOf rd nm i bs [] (l3.length+1) l3
def intOfR (rd:List UInt8→Option (Tr×List UInt8)) (nm:ByteArray) (l:List UInt8):Option (Tr×List UInt8):=match readI RP l with
 | none=>none
 | some (i,l2)=>bytesOfR rd nm i l2
theorem readV_chain (f:Nat) (l:List UInt8):readV RP (f+1) l=intOfR (readV RP f) (mkB (l.takeWhile wordB)) (l.dropWhile wordB):=by
 rw [readV_succ]
 unfold readN intOfR bytesOfR hdrsOf
 have h0:RP.nm l=some (l.takeWhile wordB,l.dropWhile wordB):=rfl
 rw [h0]
 simp only
 cases readI RP (l.dropWhile wordB) with
 | none=>rfl
 | some q =>
  simp only
  cases readB RP q.2 with
  | none=>rfl
  | some q2 =>
   simp only
   cases readH RP (q2.2.length+1) q2.2 with
   | none=>rfl
   | some q3=>rfl
section
variable {A w0:World} {b p:Nat} {s:List UInt8} {h:Nat}
theorem Rv.setBytes {l:List UInt8} {nm:ByteArray} {i:Int} {bs a:List UInt8} {hs:List (ByteArray×ByteArray)} {ts:List Tr} {bv hv pv v:Value} {w:World} (H:Rv w0 b p s h l nm i bs hs ts bv hv pv w) (C:RvC A w0 b p) (hO:OwnB w (p+1) v a):Rv w0 b p s h l nm i a hs ts v hv pv (w.setCell ⟨p,2,none⟩ v):=by
 have hlo:=C.lo
 have hbw:=C.hbw
 obtain ⟨css,ov,kids⟩:=H.ov
 refine ⟨H.kp.setNew hlo _,⟨(heap_setE (by omega)).trans H.st.cell,H.st.suf,H.st.short⟩,heap_set (o:=2) H.box _,OwnE.same hO fun g hg=>heap_setE (by have:=OwnE.lt' hO hg;omega),OwnE.same H.oh fun g hg=>heap_setE (by have:=OwnE.lt' H.oh hg;omega),css,OwnE.same ov fun g hg=>heap_setE (by have:=OwnE.lt' ov hg;omega),kids.keep (by simp) fun k hk _ _=>heap_setE (by omega)⟩
theorem rv_bytes {f:Nat} (V:ValC f) (C:RvC A w0 b p) (hf:h+1+f=40) {nm:ByteArray} {i:Int} {bv hv pv:Value} {l:List UInt8} {w:World} (H:Rv w0 b p s (h+1) l nm i [] [] [] bv hv pv w):n81c17 (.pointer (some ⟨b,0,none⟩)) (.pointer (some ⟨p,0,none⟩)) (Post w0 b s h (bytesOfR (readV RP f) nm i l)) w:=by
 have hlo:=C.lo
 have hbw:=C.hbw
 unfold n81c17
 simp (disch:=try exact DI) only [↓PR,QR,simprocAttr]
 refine callK_ret (next_ret b (h+1) s l w 35 H.st) ?_
 rintro _ w1 ⟨rfl,H1,k1⟩
 unfold n81c16 joinK
 by_cases h35:l.head?=some 35
 · rw [if_pos h35] at H1
   have hd:decide (l.head?=some 35)=true:=decide_eq_true h35
   rw [hd]
   obtain ⟨l1,rfl⟩:=head_cons h35
   rw [List.tail_cons] at H1
   have R1:=H.call C k1 H1
   have hO:bytesOfR (readV RP f) nm i (35::l1)=match hxP l1 with
    | none=>none
    | some (bs,l3)=>hdrsOf (readV RP f) nm i bs [] (l3.length+1) l3:=rfl
   rw [hO]
   simp (disch:=try exact DI) only [↓PR,QR,simprocAttr]
   refine hex_call C R1 ?_ ?_
   · intro a l' v w2 ha k2 H2 hOa
     rw [ha]
     have R2:=R1.call C k2 H2
     have hpw:=(Array.getElem?_eq_some_iff.1 R1.box).1
     have R3:=R2.setBytes C (hOa.base (by omega))
     have hvo:=SliceOf.oneCell (OwnE.slice (E:=EByte) hOa (fun _=>rfl) (fun _ _=>rfl))
     have hsh:=H2.le
     have hsh2:=H2.short
     simp (disch:=try exact DI) only [↓PR,QR,simprocAttr,(cells_of_heap R2.box).1,(cells_of_heap R2.box).2]
     exact rv_hdrs V C hf R3 (Nat.lt_succ_self _) (by simp;omega) rfl
   · intro ha w2 k2
     rw [ha]
     exact ⟨R1.kp.trans k2,rfl⟩
 · rw [if_neg h35] at H1
   have hd:decide (l.head?=some 35)=false:=decide_eq_false h35
   rw [hd]
   have R1:=H.call C k1 H1
   have hO:bytesOfR (readV RP f) nm i l=hdrsOf (readV RP f) nm i [] [] (l.length+1) l:=by
    unfold bytesOfR readB
    split
    · rename_i h9
      split at h9
      · exact absurd rfl h35
      · cases h9
    · rename_i h9
      split at h9
      · exact absurd rfl h35
      · injection h9 with h9
        injection h9 with h8 h9
        rw [← h8,← h9]
   rw [hO]
   have hsh:=H1.le
   have hsh2:=H1.short
   simp (disch:=try exact DI) only [↓PR,QR,simprocAttr]
   exact rv_hdrs V C hf R1 (Nat.lt_succ_self _) (by simp;omega) rfl
theorem rv_int {f:Nat} (V:ValC f) (C:RvC A w0 b p) (hf:h+1+f=40) {nm nm0:ByteArray} {bv hv pv:Value} {l:List UInt8} {w:World} (H:Rv w0 b p s (h+1) l nm0 0 [] [] [] bv hv pv w):n81c20 (.pointer (some ⟨b,0,none⟩)) (.pointer (some ⟨p,0,none⟩)) (.string nm) (Post w0 b s h (intOfR (readV RP f) nm l)) w:=by
 have hlo:=C.lo
 have hbw:=C.hbw
 have HB:=H.box
 have H:Rv w0 b p s (h+1) l nm 0 [] [] [] bv hv pv (w.setCell ⟨p,0,none⟩ (.string nm)):=H.move (H.kp.setNew hlo _) ⟨(heap_setE (by omega)).trans H.st.cell,H.st.suf,H.st.short⟩ (heap_set (o:=0) H.box _) (by simp) fun k hk _=>heap_setE (by omega)
 unfold n81c20 joinK
 simp (disch:=try exact DI) only [↓PR,QR,simprocAttr,(cells_of_heap HB).1,(cells_of_heap HB).2]
 generalize (w.setCell ⟨p,0,none⟩ (.string nm))=w at H ⊢
 refine callK_ret (next_ret b (h+1) s l w 61 H.st) ?_
 rintro _ w1 ⟨rfl,H1,k1⟩
 by_cases h61:l.head?=some 61
 · rw [if_pos h61] at H1
   have hd:decide (l.head?=some 61)=true:=decide_eq_true h61
   rw [hd]
   obtain ⟨l1,rfl⟩:=head_cons h61
   rw [List.tail_cons] at H1
   have R1:=H.call C k1 H1
   have hO:intOfR (readV RP f) nm (61::l1)=match numP l1 with
    | none=>none
    | some (i,l2)=>bytesOfR (readV RP f) nm i l2:=rfl
   rw [hO]
   simp (disch:=try exact DI) only [↓PR,QR,simprocAttr]
   unfold n81c19
   simp (disch:=try exact DI) only [↓PR,QR,simprocAttr]
   refine callK_ret (run_ret b (h+1) s l1 w1 _ digN dig_test R1.st) ?_
   rintro _ w2 ⟨rfl,H2,k2⟩
   have R2:=R1.call C k2 H2
   have hsz:(mkB (l1.takeWhile digN)).size≤100000000:=by
    rw [mkB_size]
    have h1:=(List.takeWhile_sublist (p:=digN) (l:=l1)).length_le
    have h2:=R1.st.le
    have h3:=R1.st.short
    omega
   refine callK_ret (Atoi_big (C.env.ext (R2.kp.from C.eA C.hb)) (mkB (l1.takeWhile digN)) hsz) ?_
   rintro _ w3 ⟨e3,n,ev,rfl,hcase⟩
   rw [mkB_data] at hcase
   have R3:=R2.ext C e3
   unfold n81c18
   rcases hcase with ⟨hok,rfl⟩ | ⟨hno,t,x,rfl⟩
   · have hO2:numP l1=some (n,l1.dropWhile digN):=by unfold numP;rw [hok]
     rw [hO2]
     simp (disch:=try exact DI) only [↓PR,QR,simprocAttr]
     refine must_call (fun _ v=>?_) (fun hf=>by cases hf)
     simp (disch:=try exact DI) only [↓PR,QR,simprocAttr,(cells_of_heap R3.box).1,(cells_of_heap R3.box).2]
     have R4:Rv w0 b p s (h+1) (l1.dropWhile digN) nm n [] [] [] bv hv pv (w3.setCell ⟨p,1,none⟩ (.int .i64 n)):=R3.move (R3.kp.setNew hlo _) ⟨(heap_setE (by omega)).trans R3.st.cell,R3.st.suf,R3.st.short⟩ (heap_set (o:=1) R3.box _) (by simp) fun k hk _=>heap_setE (by omega)
     exact rv_bytes V C hf R4
   · have hO2:numP l1=none:=by
      unfold numP
      split
      · rename_i v hv
        exact absurd hv (hno v)
      · rfl
     rw [hO2]
     simp (disch:=try exact DI) only [↓PR,QR,simprocAttr]
     refine must_call (fun hf=>by cases hf) (fun _=>?_)
     exact ⟨R3.kp,rfl⟩
 · rw [if_neg h61] at H1
   have hd:decide (l.head?=some 61)=false:=decide_eq_false h61
   rw [hd]
   have R1:=H.call C k1 H1
   have hO:intOfR (readV RP f) nm l=bytesOfR (readV RP f) nm 0 l:=by
    unfold intOfR readI
    split
    · rename_i h9
      split at h9
      · exact absurd rfl h61
      · cases h9
    · rename_i h9
      split at h9
      · exact absurd rfl h61
      · injection h9 with h9
        injection h9 with h8 h9
        rw [← h8,← h9]
   rw [hO]
   simp (disch:=try exact DI) only [↓PR,QR,simprocAttr]
   exact rv_bytes V C hf R1
end
theorem value_ret:∀ f:Nat,ValC f
 | 0=>by
  intro A w0 b s h l hE eA hb H hh
  refine n81s (t0 := .pointer (some ⟨b,0,none⟩)) ?_
  unfold n81
  obtain rfl:h=40:=by omega
  rw [op_alloc ty26]
  have eX:Ext w0 (w0.alloc (.cells (Value.cells (.agg #[.string ByteArray.empty,.int .i64 0,.slice none 0 0,.slice none 0 0,.slice none 0 0])) 26)):=(Ext.refl _).alloc _
  generalize w0.alloc _=X at eX ⊢
  have HX:=H.ext eX
  have h1:=HX.setH (h':=41)
  have hw:IntKind.i64.wrap (((40:Nat):Int)+1)=((41:Nat):Int):=by decide
  simp (disch:=try exact DI) only [↓PR,QR,simprocAttr,(cells_of_heap HX.cell).1,(cells_of_heap HX.cell).2,hw,(cells_of_heap h1.cell).1]
  refine must_call (fun hf=>by cases hf) (fun _=>?_)
  exact ⟨(Kp.of eX).trans (Kp.set _),rfl⟩
 | f+1=>by
  intro A w0 b s h l hE eA hb H hh
  have V:=value_ret f
  rw [readV_chain]
  refine n81s (t0 := .pointer (some ⟨b,0,none⟩)) ?_
  unfold n81
  have hbw:=(Array.getElem?_eq_some_iff.1 H.cell).1
  rw [op_alloc ty26]
  have oX:=heap_new w0 (Value.cells (.agg #[.string ByteArray.empty,.int .i64 0,.slice none 0 0,.slice none 0 0,.slice none 0 0])) 26
  have eX:Ext w0 (w0.alloc (.cells (Value.cells (.agg #[.string ByteArray.empty,.int .i64 0,.slice none 0 0,.slice none 0 0,.slice none 0 0])) 26)):=(Ext.refl _).alloc _
  generalize w0.alloc _=X at oX eX ⊢
  have hlo:w0.heap.size≤w0.heap.size:=Nat.le_refl _
  generalize hp:w0.heap.size=p at oX ⊢
  have C:RvC A w0 b p:=⟨hE,eA,hb,hbw,by omega⟩
  have HX:=H.ext eX
  have h1:=HX.setH (h':=h+1)
  have hw:IntKind.i64.wrap ((h:Int)+1)=((h+1:Nat):Int):=wrap_succ (by omega)
  have hd:decide (((h+1:Nat):Int)≤40)=true:=decide_eq_true (by omega)
  have hpX:=(Array.getElem?_eq_some_iff.1 oX).1
  have R0:Rv w0 b p s (h+1) l ByteArray.empty 0 [] [] [] (.slice none 0 0) (.slice none 0 0) (.slice none 0 0) (X.setCell ⟨b,2,none⟩ (.int .i64 ((h+1:Nat):Int))) :=
   ⟨(Kp.of eX).trans (Kp.set _),h1,(heap_setE (by omega)).trans oX,OwnE.nil _ _ _ _ _,OwnE.nil _ _ _ _ _,[],OwnE.nil _ _ _ _ _,rfl,fun k c x hc=>by cases hc⟩
  simp (disch:=try exact DI) only [↓PR,QR,simprocAttr,(cells_of_heap HX.cell).1,(cells_of_heap HX.cell).2,hw,(cells_of_heap h1.cell).1,hd]
  refine must_call (fun _ v=>?_) (fun hf=>by cases hf)
  unfold n81c21
  simp (disch:=try exact DI) only [↓PR,QR,simprocAttr]
  refine callK_ret (run_ret b (h+1) s l _ _ wordB word_test h1) ?_
  rintro _ w2 ⟨rfl,H2,k2⟩
  exact rv_int V C (by omega) (R0.call C k2 H2)
theorem atoi_range {l:List UInt8} {n:Int} (h:Go.Lib.atoiAll l = .ok n) : -9223372036854775808≤n∧n≤9223372036854775807:=by
 unfold Go.Lib.atoiAll at h
 split at h
 · cases h
 · simp only at h
   split at h
   · cases h
   · cases h
   · split at h
     · cases h
     · split at h
       · cases h
       · rename_i u _ h1 h2
         injection h with h
         rw [← h]
         split<;>rename_i hc<;>simp only [hc,not_true,not_false_eq_true,true_and,false_and] at h1 h2<;>omega
theorem intL_len {n:Int} (h : -9223372036854775808≤n∧n≤9223372036854775807):(intL n).length≤22:=by
 unfold intL
 split
 · simp
 · rw [List.length_cons]
   have:=Go.Lib.itoa_length_le n h.1 h.2
   omega
theorem run_len (p:UInt8→Bool) (l:List UInt8):(l.takeWhile p).length+(l.dropWhile p).length=l.length:=by
 rw [← List.length_append,List.takeWhile_append_dropWhile]
theorem hx_bound {l a l':List UInt8} (h:hxP l=some (a,l')):(hexL a).length+l'.length=l.length:=by
 unfold hxP at h
 split at h
 · rename_i he
   injection h with h
   injection h with h1 h2
   rw [← h1,← h2,hexL_len,unhex_len,← run_len hexB l]
   omega
 · cases h
theorem readI_bound {l:List UInt8} {n:Int} {l':List UInt8} (h:readI RP l=some (n,l')):(intL n).length+l'.length≤l.length+21:=by
 unfold readI at h
 split at h
 · rename_i l1
   change numP l1=_ at h
   unfold numP at h
   split at h
   · rename_i n' h0
     injection h with h
     injection h with h1 h
     have:=(List.dropWhile_sublist (p:=digN) (l:=l1)).length_le
     have h2:=intL_len (atoi_range h0)
     rw [← h,← h1,List.length_cons]
     omega
   · cases h
 · injection h with h
   injection h with h1 h
   rw [← h,← h1]
   show 0+_≤_
   omega
theorem readB_bound {l bs l':List UInt8} (h:readB RP l=some (bs,l')):(bytL bs).length+l'.length≤l.length:=by
 unfold readB at h
 split at h
 · rename_i l1
   have:=hx_bound (l:=l1) h
   rw [List.length_cons]
   unfold bytL
   split
   · simp only [List.length_nil]
     omega
   · rw [List.length_cons]
     omega
 · injection h with h
   injection h with h1 h
   rw [← h,← h1]
   show 0+_≤_
   omega
theorem readH_bound:∀ (k:Nat) (l:List UInt8) (hs:List (ByteArray×ByteArray)) (l':List UInt8),readH RP k l=some (hs,l')→(hs.flatMap hdrL).length+l'.length≤l.length
 | 0,l,hs,l',h=>by
  rw [readH] at h
  injection h with h
  injection h with h1 h
  rw [← h,← h1]
  simp
 | k+1,l,hs,l',h=>by
  unfold readH at h
  split at h
  · rename_i l1
    split at h
    · rename_i a l2 h1
      have g1:=hx_bound (l:=l1) h1
      split at h
      · rename_i b l3 h2
        have g2:=hx_bound (l:=l2) h2
        cases hr:readH RP k l3 with
        | none=>rw [hr] at h;cases h
        | some q =>
         rw [hr] at h
         simp only [Option.map_some,Option.some.injEq,Prod.mk.injEq] at h
         have:=readH_bound k l3 q.1 q.2 hr
         rw [← h.2,← h.1,List.flatMap_cons,List.length_append]
         rw [hexL_len] at g1 g2
         have h3:=hdrL_len (mkB a,mkB b)
         simp only [mkB_size] at h3
         simp only [List.length_cons] at *
         omega
      · cases h
    · cases h
  · injection h with h
    injection h with h1 h
    rw [← h,← h1]
    simp
theorem readN_bound {l:List UInt8} {n:Nd} {l':List UInt8} (h:readN RP l=some (n,l')):(nodeL n).length+l'.length≤l.length+21:=by
 unfold readN at h
 split at h
 · cases h
 rename_i nm l1 h0
 have h0:some (l.takeWhile wordB,l.dropWhile wordB)=some (nm,l1):=h0
 injection h0 with h0
 injection h0 with h00 h0
 have g0:=run_len wordB l
 rw [h0,h00] at g0
 split at h
 · cases h
 · rename_i i l2 h1
   have g1:=readI_bound h1
   split at h
   · cases h
   · rename_i bs l3 h2
     have g2:=readB_bound h2
     split at h
     · cases h
     · rename_i hs l4 h3
       have g3:=readH_bound _ _ _ _ h3
       injection h with h
       injection h with h4 h
       rw [← h,← h4]
       unfold nodeL
       simp only [List.length_append,mkB_data]
       omega
theorem readP_bound {rd:List UInt8→Option (Tr×List UInt8)} (h:∀ l t l',rd l=some (t,l')→(textT t).length+l'.length≤l.length+21*nodesT t∧nodesT t+l'.length≤l.length+1):∀ (k:Nat) (l:List UInt8) (ts:List Tr) (l':List UInt8),readP rd k l=some (ts,l')→((ts.map textT).flatMap (fun x=>32::x)).length+l'.length≤l.length+21*(ts.map nodesT).sum∧(ts.map nodesT).sum+l'.length≤l.length∧ts≠[]
 | 0,l,ts,l',hh=>by cases hh
 | k+1,l,ts,l',hh=>by
  rw [readP_succ] at hh
  cases hr:rd l with
  | none=>rw [hr] at hh;cases hh
  | some q =>
   obtain ⟨t,l1⟩:=q
   rw [hr] at hh
   have h1:=h l t l1 hr
   simp only at hh
   unfold contP at hh
   split at hh
   · rename_i l2
     cases hp:readP rd k l2 with
     | none=>rw [hp] at hh;cases hh
     | some q2 =>
      rw [hp] at hh
      simp only [Option.map_some,Option.some.injEq,Prod.mk.injEq] at hh
      have:=readP_bound h k l2 q2.1 q2.2 hp
      rw [← hh.2,← hh.1]
      simp only [List.map_cons,List.flatMap_cons,List.length_append,List.length_cons,List.sum_cons] at *
      refine ⟨by omega,by omega,by simp⟩
   · simp only [Option.map_some,Option.some.injEq,Prod.mk.injEq] at hh
     rw [← hh.2,← hh.1]
     simp only [List.map_cons,List.map_nil,List.flatMap_cons,List.flatMap_nil,List.append_nil,List.length_cons,List.sum_cons,List.sum_nil] at *
     refine ⟨by omega,by omega,by simp⟩
   · cases hh
theorem joinP_len {L:List (List UInt8)} (h:L≠[]):(joinP L).length=(L.flatMap (fun x=>32::x)).length+1:=by
 cases L with
 | nil=>exact absurd rfl h
 | cons a l =>
  unfold joinP
  simp only [List.flatMap_cons,List.length_append,List.length_cons,List.length_nil]
  omega
theorem readV_bound:∀ (f:Nat) (l:List UInt8) (t:Tr) (l':List UInt8),readV RP f l=some (t,l')→(textT t).length+l'.length≤l.length+21*nodesT t∧nodesT t+l'.length≤l.length+1
 | 0,l,t,l',h=>by cases h
 | f+1,l,t,l',h=>by
  rw [readV_succ] at h
  split at h
  · cases h
  · rename_i n l1 h1
    have g1:=readN_bound h1
    have g0:=readN_len h1
    unfold partsOf at h
    split at h
    · rename_i l2
      cases hp:readP (readV RP f) (l2.length+1) l2 with
      | none=>rw [hp] at h;cases h
      | some q =>
       rw [hp] at h
       simp only [Option.map_some,Option.some.injEq,Prod.mk.injEq] at h
       obtain ⟨a1,a2,a3⟩:=readP_bound (fun l t l' h=>readV_bound f l t l' h) _ _ q.1 q.2 hp
       have a4:=joinP_len (L:=q.1.map textT) (by simpa using a3)
       rw [← h.2,← h.1,textT_mk,nodesT_mk,List.length_append,a4]
       rw [List.length_cons] at g1 g0
       omega
    · injection h with h
      injection h with h2 h
      rw [← h,← h2,textT_mk,nodesT_mk]
      simp only [List.map_nil,List.length_append,List.sum_nil]
      show _+([]:List UInt8).length+_≤_∧_
      simp only [List.length_nil]
      omega
abbrev catchP (p2 p3:Nat):Deferred:={ target := .fn (.func 50) #[.pointer (some ⟨p2,0,none⟩),.pointer (some ⟨p3,0,none⟩)],args := #[] }
theorem catchP_ret {p2 p3:Nat} {w:World} {k:FrameMode→World→Prop} (h:k .returning w):outM Pg [catchP p2 p3] .returning w k:=by
 refine ⟨by simp,.inr ⟨.func 50,_,50,#[.pointer (some ⟨p2,0,none⟩),.pointer (some ⟨p3,0,none⟩)],rfl,?_,?_⟩⟩
 · exact callFunc_run c50 _ w
 · refine n58s ?_
   unfold n58
   show opV _ (binS .neq _ true .nilIface .nilIface) _ _ _
   rw [op_neqNil_none Tryz.underlying20]
   unfold joinK
   simp (disch:=try exact DI) only [↓PR,QR,simprocAttr]
   exact h
theorem catchP_pan {p2 p3:Nat} {w:World} {k:FrameMode→World→Prop} {x0 x1 x2 x3 x4 y:Value} (o2:w.heap[p2]?=some (.cells #[x0,x1,x2,x3,x4] 26 (0,0))) (o3:w.heap[p3]?=some (.cells #[y] 33 (0,0)))
 (h:∀ w',w'.heap[p2]?=some (.cells #[.string ByteArray.empty,.int .i64 0,.slice none 0 0,.slice none 0 0,.slice none 0 0] 26 (0,0))→w'.heap[p3]?=some (.cells #[.int .i64 6] 33 (0,0))→(∀ A,Ext A w→A.heap.size≤p2→A.heap.size≤p3→Ext A w')→k .returning w'):outM Pg [catchP p2 p3] (.panicking errF) w k:=by
 have hne:p2≠p3:=by rintro rfl;rw [o2] at o3;cases o3
 refine ⟨by simp,.inr ⟨.func 50,_,50,#[.pointer (some ⟨p2,0,none⟩),.pointer (some ⟨p3,0,none⟩)],rfl,?_,?_⟩⟩
 · exact callFunc_run c50 _ w
 · refine n58s ?_
   rw [show recM (.panicking errF)=(.iface 33 (.int .i64 6),.panicking [{ v := .iface 33 (.int .i64 6),recovered:=true }]) from rfl]
   unfold n58
   rw [op_neqNil_some Tryz.underlying20]
   unfold joinK
   simp (disch:=try exact DI) only [↓PR,QR,simprocAttr]
   unfold n58c2
   rw [op_assert_ok Tryz.underlying33 rfl]
   simp (disch:=try exact DI) only [↓PR,QR,simprocAttr]
   unfold n58c1
   simp (disch:=try exact DI) only [↓PR,QR,simprocAttr,(cells_of_heap o2).1,(cells_of_heap o2).2,(cells_of_heap o3).1,(cells_of_heap o3).2]
   have g2:=setCells_heap [.string ByteArray.empty,.int .i64 0,.slice none 0 0,.slice none 0 0,.slice none 0 0] 0 o2
   rw [setA_all (vs:=[.string ByteArray.empty,.int .i64 0,.slice none 0 0,.slice none 0 0,.slice none 0 0]) (cs := #[x0,x1,x2,x3,x4]) rfl] at g2
   have gU:Only p2 w (setCells w p2 0 [.string ByteArray.empty,.int .i64 0,.slice none 0 0,.slice none 0 0,.slice none 0 0]):=setCells_only [.string ByteArray.empty,.int .i64 0,.slice none 0 0,.slice none 0 0,.slice none 0 0] w 0
   have gE:∀ A,Ext A w→A.heap.size≤p2→Ext A (setCells w p2 0 [.string ByteArray.empty,.int .i64 0,.slice none 0 0,.slice none 0 0,.slice none 0 0]):=fun A e hA=>setCells_ext [.string ByteArray.empty,.int .i64 0,.slice none 0 0,.slice none 0 0,.slice none 0 0] w 0 A e hA
   change k .returning ((setCells w p2 0 [.string ByteArray.empty,.int .i64 0,.slice none 0 0,.slice none 0 0,.slice none 0 0]).setCell ⟨p3,0,none⟩ (.int .i64 6))
   generalize setCells w p2 0 [.string ByteArray.empty,.int .i64 0,.slice none 0 0,.slice none 0 0,.slice none 0 0]=W at g2 gU gE ⊢
   refine h _ ((heap_setE hne).trans g2) ?_ fun A e h2 h3=>(gE A e h2).setCell h3 _
   exact heap_set (o:=0) ((gU p3 (fun e=>hne e.symm)).trans o3) _
def ParK (w0:World) (s:ByteArray) (r:Value) (w':World):Prop:=Ext w0 w'∧∃ v c,r = .tuple #[v,.int .i64 c]∧(match parseR RP s.data.toList with
 | some t=>c=0∧ValAt w' v t
 | none=>c=6∧ValAt w' v tr0)
abbrev resP (p2 p3:Nat):List (Option TypeId×Value):=[(some 26,.pointer (some ⟨p2,0,none⟩)),(some 33,.pointer (some ⟨p3,0,none⟩))]
theorem par_none {w0 w:World} {p2 p3:Nat} {s:ByteArray} {x0 x1 x2 x3 x4 y:Value} (e:Ext w0 w) (h2:w0.heap.size≤p2) (h3:w0.heap.size≤p3) (o2:w.heap[p2]?=some (.cells #[x0,x1,x2,x3,x4] 26 (0,0))) (o3:w.heap[p3]?=some (.cells #[y] 33 (0,0))) (hn:parseR RP s.data.toList=none):outQ Pg [catchP p2 p3] (resP p2 p3) (retR (ParK w0 s)) errF w:=by
 unfold outQ
 refine catchP_pan o2 o3 fun w' g2 g3 gE=>?_
 unfold endM retV resOne resP
 simp only
 simp (disch:=try exact DI) only [↓PR,QR,simprocAttr,(cells_of_heap g2).1,(cells_of_heap g3).1]
 refine ⟨gE w0 e h2 h3,_,_,rfl,?_⟩
 rw [hn]
 exact ⟨rfl,ValAt.zero _⟩
theorem Parse_ret (w0:World) (s:ByteArray) (hE:EnvOK w0) (hs:s.size≤100000000):Ret Pg 18 #[.string s] w0 (ParK w0 s):=by
 have hsz:s.data.toList.length=s.size:=Array.length_toList
 refine n57s (R:=retR _) ?_;unfold n57
 show opV _ _ _ _ _
 rw [op_alloc ty26]
 have o2:=heap_new w0 (Value.cells (.agg #[.string ByteArray.empty,.int .i64 0,.slice none 0 0,.slice none 0 0,.slice none 0 0])) 26
 have e2:Ext w0 (w0.alloc (.cells (Value.cells (.agg #[.string ByteArray.empty,.int .i64 0,.slice none 0 0,.slice none 0 0,.slice none 0 0])) 26)):=(Ext.refl _).alloc _
 generalize w0.alloc _=W2 at o2 e2 ⊢
 change _=some (Obj.cells #[Value.string ByteArray.empty,.int .i64 0,.slice none 0 0,.slice none 0 0,.slice none 0 0] 26 (0,0)) at o2
 have hl2:w0.heap.size≤w0.heap.size:=Nat.le_refl _
 generalize hp2:w0.heap.size=p2 at o2 ⊢
 rw [op_alloc ty33]
 have o3:=heap_new W2 (Value.cells (.int .i64 0)) 33
 have e3:Ext W2 (W2.alloc (.cells (Value.cells (.int .i64 0)) 33)):=(Ext.refl _).alloc _
 generalize W2.alloc _=W3 at o3 e3 ⊢
 change _=some (Obj.cells #[Value.int .i64 0] 33 (0,0)) at o3
 have hz2:=(Array.getElem?_eq_some_iff.1 o2).1
 generalize hp3:W2.heap.size=p3 at o3 hz2 ⊢
 have o2:=e3.obj o2
 simp (disch:=try exact DI) only [↓PR,QR,simprocAttr]
 refine ⟨catchP p2 p3,W3,rfl,?_⟩
 show callK _ _ #[.pointer (some ⟨W3.heap.size,0,none⟩)] _ (W3.alloc (.cells #[.string s,.int .i64 0,.int .i64 0] 85)) _
 have E3:=e2.trans e3
 have o4:=heap_new W3 #[.string s,.int .i64 0,.int .i64 0] 85
 have e4:Ext W3 (W3.alloc (.cells #[.string s,.int .i64 0,.int .i64 0] 85)):=ee
 generalize (W3.alloc (.cells #[.string s,.int .i64 0,.int .i64 0] 85))=W4 at o4 e4 ⊢
 have hz3:=(Array.getElem?_eq_some_iff.1 o3).1
 have hz4:=(Array.getElem?_eq_some_iff.1 o4).1
 have s3:=e3.size
 generalize hb:W3.heap.size=b at o4 hz3 hz4 ⊢
 have o2:=e4.obj o2
 have o3:=e4.obj o3
 have E4:=E3.trans e4
 have hs3:=E3.size
 have H:St b s.data.toList 0 s.data.toList W4:=by
  refine ⟨?_,⟨[],rfl⟩,by omega⟩
  rw [Nat.sub_self,mkB_to]
  exact o4
 have hpan:∀ w,Kp b W4 w→∀ x0 x1 x2 x3 x4 y,w.heap[p2]?=some (.cells #[x0,x1,x2,x3,x4] 26 (0,0))→w.heap[p3]?=some (.cells #[y] 33 (0,0))→parseR RP s.data.toList=none→outQ Pg [catchP p2 p3] (resP p2 p3) (retR (ParK w0 s)) errF w:=fun w hk x0 x1 x2 x3 x4 y h2 h3 hn=>par_none (hk.from E4 (by omega)) (by omega) (by omega) h2 h3 hn
 have V:=value_ret 40 w0 W4 b s.data.toList 0 s.data.toList hE E4 (by omega) H rfl
 have hB:∀ t l',readV RP 40 s.data.toList=some (t,l')→_:=fun t l' h=>readV_bound 40 s.data.toList t l' h
 have hpar:parseR RP s.data.toList=match readV RP 40 s.data.toList with
  | some (t,_)=>if validT t=true∧textT t=s.data.toList then some t else none
  | none=>none:=by unfold parseR;rfl
 generalize readV RP 40 s.data.toList=o at V hB hpar
 refine callK_calls V ?_ ?_ ?_
 · rintro v w1 ⟨k1,h1⟩
   cases o with
   | none=>cases h1
   | some q =>
    obtain ⟨t,l'⟩:=q
    obtain ⟨cs,hv,h2,h3⟩:=h1
    injection hv with hv
    subst hv
    simp only at hpar
    obtain ⟨b1,b2⟩:=hB t l' rfl
    obtain ⟨bv,hv,pv,rfl,c1,c2,c3,d1,d2,d3⟩:=(h2.all).op
    have q2:=k1.obj o2 (by omega)
    have q3:=k1.obj o3 (by omega)
    unfold n57c3
    simp (disch:=try exact DI) only [↓PR,QR,simprocAttr,(cells_of_heap q2).1,(cells_of_heap q2).2]
    have u5:=setCells_heap [.string t.nd.name,.int .i64 t.nd.int,bv,hv,pv] 0 q2
    rw [setA_all (vs:=[.string t.nd.name,.int .i64 t.nd.int,bv,hv,pv]) (cs := #[.string ByteArray.empty,.int .i64 0,.slice none 0 0,.slice none 0 0,.slice none 0 0]) rfl] at u5
    have uU:Only p2 w1 (setCells w1 p2 0 [.string t.nd.name,.int .i64 t.nd.int,bv,hv,pv]):=setCells_only [.string t.nd.name,.int .i64 t.nd.int,bv,hv,pv] w1 0
    have uE:Ext w0 (setCells w1 p2 0 [.string t.nd.name,.int .i64 t.nd.int,bv,hv,pv]):=setCells_ext [.string t.nd.name,.int .i64 t.nd.int,bv,hv,pv] w1 0 w0 (k1.from E4 (by omega)) (by omega)
    change callK _ _ _ _ (setCells w1 p2 0 [.string t.nd.name,.int .i64 t.nd.int,bv,hv,pv]) _
    have sz5:w1.heap.size≤(setCells w1 p2 0 [.string t.nd.name,.int .i64 t.nd.int,bv,hv,pv]).heap.size:=Nat.le_of_eq (setCells_size _ _ _).symm
    generalize setCells w1 p2 0 [.string t.nd.name,.int .i64 t.nd.int,bv,hv,pv]=W5 at u5 uU uE sz5 ⊢
    have u3:=(uU p3 (by omega)).trans q3
    have hV:ValAt W5 (.agg (trCells t.nd bv hv pv).toArray) t:=by
     have:=(h2.keep (w':=W5) (Nat.le_refl _) (Nat.le_refl _) fun k h1 _ _=>uU k (by omega)).all
     obtain ⟨x1,x2,x3,hx,y1,y2,y3⟩:=ETr_of.1 this
     unfold trCells at hx
     injection hx with _ hx
     injection hx with _ hx
     injection hx with g1 hx
     injection hx with g2 hx
     injection hx with g3 _
     subst g1 g2 g3
     exact ⟨_,_,_,rfl,y1,y2,y3⟩
    refine zcr (Text_ret W5 _ t hV (hE.tab.ext uE) (by omega) (by omega)) fun w6 e6=>?_
    have v2:=e6.obj u5
    have v3:=e6.obj u3
    have hfin:validT t=true∧textT t=s.data.toList→n57c1 (.pointer (some ⟨p2,0,none⟩)) (.pointer (some ⟨p3,0,none⟩)) [catchP p2 p3] (retR (ParK w0 s)) w6:=by
     intro hvt
     rw [if_pos hvt] at hpar
     unfold n57c1
     have x5:=setCells_heap [.string t.nd.name,.int .i64 t.nd.int,bv,hv,pv] 0 v2
     rw [setA_all (vs:=[.string t.nd.name,.int .i64 t.nd.int,bv,hv,pv]) (cs:=[.string t.nd.name,.int .i64 t.nd.int,bv,hv,pv].toArray) rfl] at x5
     have xU:Only p2 w6 (setCells w6 p2 0 [.string t.nd.name,.int .i64 t.nd.int,bv,hv,pv]):=setCells_only [.string t.nd.name,.int .i64 t.nd.int,bv,hv,pv] w6 0
     have xE:Ext w0 (setCells w6 p2 0 [.string t.nd.name,.int .i64 t.nd.int,bv,hv,pv]):=setCells_ext [.string t.nd.name,.int .i64 t.nd.int,bv,hv,pv] w6 0 w0 (uE.trans e6) (by omega)
     have x3:=(xU p3 (by omega)).trans v3
     have hne:p3≠p2:=by omega
     simp (disch:=try exact DI) only [↓PR,QR,simprocAttr,(cells_of_heap v2).1,(cells_of_heap v2).2,(cells_of_heap v3).1,(cells_of_heap v3).2]
     change outX _ _ _ _ ((setCells w6 p2 0 [.string t.nd.name,.int .i64 t.nd.int,bv,hv,pv]).setCell ⟨p3,0,none⟩ (.int .i64 0))
     generalize setCells w6 p2 0 [.string t.nd.name,.int .i64 t.nd.int,bv,hv,pv]=W7 at x5 xU xE x3 ⊢
     have hV7:ValAt (W7.setCell ⟨p3,0,none⟩ (.int .i64 0)) (.agg (trCells t.nd bv hv pv).toArray) t:=by
      have:=(h2.keep (w':=W7.setCell ⟨p3,0,none⟩ (.int .i64 0)) (Nat.le_refl _) (Nat.le_refl _) fun k h1 h2 h3=>by
       have hs1:=k1.size
       have hz5:w1.heap.size≤W5.heap.size:=sz5
       rw [heap_setE (by omega),xU k (by omega),e6.block k (by omega),uU k (by omega)]).all
      obtain ⟨x1,x2,x3,hx,y1,y2,y3⟩:=ETr_of.1 this
      unfold trCells at hx
      injection hx with _ hx
      injection hx with _ hx
      injection hx with g1 hx
      injection hx with g2 hx
      injection hx with g3 _
      subst g1 g2 g3
      exact ⟨_,_,_,rfl,y1,y2,y3⟩
     have z2:=(heap_setE (w:=W7) (o:=0) (v := .int .i64 0) (fun e=>hne e.symm)).trans x5
     have z3:=heap_set (o:=0) x3 (.int .i64 0)
     have zE:=xE.setCell (p:=⟨p3,0,none⟩) (by show w0.heap.size≤p3;omega) (.int .i64 0)
     generalize W7.setCell ⟨p3,0,none⟩ (.int .i64 0)=W8 at hV7 z2 z3 zE ⊢
     unfold outX
     refine catchP_ret ?_
     unfold endM retV resOne
     simp only
     simp (disch:=try exact DI) only [↓PR,QR,simprocAttr,(cells_of_heap z2).1,(cells_of_heap z3).1]
     refine ⟨zE,_,_,rfl,?_⟩
     rw [hpar]
     exact ⟨rfl,hV7⟩
    have hbad:¬ (validT t=true∧textT t=s.data.toList)→outQ Pg [catchP p2 p3] (resP p2 p3) (retR (ParK w0 s)) errF w6:=by
     intro hvt
     rw [if_neg hvt] at hpar
     exact par_none (uE.trans e6) (by omega) (by omega) v2 v3 hpar
    unfold n57c2 joinK
    by_cases hv:validT t=true
    · rw [if_pos hv]
      have hmk:mkB (textT t)=s↔textT t=s.data.toList:=⟨fun h=>by rw [← h,mkB_data],fun h=>by rw [h];exact mkB_to s⟩
      simp (disch:=try exact DI) only [↓PR,QR,simprocAttr]
      refine must_call (fun ht v=>?_) (fun ht=>?_)
      · exact hfin ⟨hv,hmk.1 (of_decide_eq_true ht)⟩
      · exact hbad fun h=>of_decide_eq_false ht (hmk.2 h.2)
    · rw [if_neg hv]
      simp (disch:=try exact DI) only [↓PR,QR,simprocAttr]
      refine must_call (fun ht v=>by cases ht) (fun ht=>?_)
      exact hbad fun h=>hv h.1
 · rintro ch w1 ⟨k1,h1⟩
   cases o with
   | none =>
    injection h1 with h1
    rw [h1]
    exact hpan w1 k1 _ _ _ _ _ _ (k1.obj o2 (by omega)) (k1.obj o3 (by omega)) hpar
   | some q =>
    obtain ⟨cs,hv,_⟩:=h1
    cases hv
 · rintro w1 ⟨k1,h1⟩
   cases o with
   | none=>cases h1
   | some q =>
    obtain ⟨cs,hv,_⟩:=h1
    cases hv
structure RdB (R:Rd):Prop where
 nm:∀ l a l',R.nm l=some (a,l')→a.length+l'.length≤l.length
 num:∀ l n l',R.num l=some (n,l')→(intL n).length+l'.length≤l.length+22
 hx:∀ l a l',R.hx l=some (a,l')→(hexL a).length+l'.length≤l.length
 numl:∀ l n l',R.num l=some (n,l')→l'.length≤l.length
section
variable {R:Rd} (hB:RdB R)
include hB
end
structure Rw (w0:World) (q p:Nat) (nm:ByteArray) (i:Int) (bs:List UInt8) (hs:List (ByteArray×ByteArray)) (ts:List Tr) (bv hv pv:Value) (w:World):Prop where
 ex:Ext w0 w
 lo:w0.heap.size≤q
 qp:q < p
 res:w.heap[q]?=some (.cells #[.string ByteArray.empty,.int .i64 0,.slice none 0 0,.slice none 0 0,.slice none 0 0] 26 (0,0))
 box:w.heap[p]?=some (.cells #[.string nm,.int .i64 i,bv,hv,pv] 26 (0,0))
 ob:OwnB w (p+1) bv bs
 oh:OwnE w (p+1) 74 2 encH hv hs
 ov:∃ css:List (Cs 5),OwnE w (p+1) 26 5 (Subtype.val:Cs 5→List Value) pv css∧KidsOf w p pv css ts
theorem val_of_cells {w:World} {c0 c1 c2 c3 c4:Value} {t:Tr} (h:ETr w [c0,c1,c2,c3,c4] t):ValAt w (.agg #[c0,c1,c2,c3,c4]) t:=by
 obtain ⟨x1,x2,x3,hx,y1,y2,y3⟩:=ETr_of.1 h
 unfold trCells at hx
 injection hx with g0 hx
 injection hx with g1 hx
 injection hx with g2 hx
 injection hx with g3 hx
 injection hx with g4 _
 subst g0 g1 g2 g3 g4
 exact ⟨_,_,_,rfl,y1,y2,y3⟩
def n46 (t0 t1:Value) (R:RT) (w:World):Prop :=
 callK Pg 120 #[t0,t1,(.int .i64 0)] (panK R) w fun t7 w =>
 R (.returned t7) w
theorem n46s {t0 t1:Value} {R:RT} {w:World} (h:n46 t0 t1 R w):Calls Pg 106 #[t0,t1] w R:=by
 refine yD Tryz.func106 ?_
 exact zs<|zr<|zm<|zn<|zk<|zs<|zr<|zm<|zm<|yc h c120 fun _ w h=>zm<|zn<|zk<|sim_ret<|body_ret1 rfl rfl h
def n47c1 (t0 t1:Value) (C3:World→Prop) (R:RT) (w:World):Prop :=
 qV Pg C3 (Instr.index 9 t1 (.int .i64 0)) fun t24 =>
 qV Pg C3 (Instr.index 9 t1 (.int .i64 0)) fun t27 =>
 callK Pg 123 #[t0,t24] (panK R) w fun t25 w =>
 C3 w∧(
 callK Pg 122 #[t25,t27] (panK R) w fun t28 w =>
 C3 w∧(
 R (.returned t28) w))
def n47c2 (t0 t1 t31:Value) (R:RT) (w:World):Prop :=
 opV Pg (Instr.extract t31 0) (panK R) w fun t32 w =>
 opV Pg (Instr.extract t31 1) (panK R) w fun t33 w =>
 opV Pg (Instr.alloc 157 true (.tuple #[])) (panK R) w fun t5 w =>
 opU Pg (Instr.storeAt 157 t5 t32) (panK R) w fun w =>
 condP t33 (
 callK Pg 126 #[t0,t5] (panK R) w fun t36 w =>
 callK Pg 125 #[t36,t5] (panK R) w fun t37 w =>
 R (.returned t37) w) (
 callK Pg 128 #[t0,t1] (panK R) w fun t40 w =>
 callK Pg 127 #[t40,t1] (panK R) w fun t42 w =>
 R (.returned t42) w)
def n47c3 (t0 t1 t16 t20:Value) (R:RT) (w:World):Prop :=
 pickK t16 t20 (.bool false) fun t21 =>
 condP t21 (
 drawK w fun C3 w =>
 n47c1 t0 t1 C3 R w) (
 callK Pg 124 #[t1] (panK R) w fun t31 w =>
 n47c2 t0 t1 t31 R w)
def n47c4 (t0 t1:Value) (R:RT) (w:World):Prop :=
 opV Pg (Builtin.len_ #[9] 3 #[t1]) (panK R) w fun t15 w =>
 opV Pg (binS .eql 3 true t15 (.int .i64 1)) (panK R) w fun t16 w =>
 joinK (fun (t20:Value) (w:World) =>
 n47c3 t0 t1 t16 t20 R w) fun K2 =>
 guardP t16 true (
 opV Pg (Instr.index 9 t1 (.int .i64 0)) (panK R) w fun t19 w =>
 opV Pg (binS .lss 5 true t19 (.int .u8 128)) (panK R) w fun t20 w =>
 K2 t20 w) (
 K2 undef w)
def n47 (t0 t1:Value) (R:RT) (w:World):Prop :=
 opV Pg (binS .eql 9 true t0 (.string { data := #[] })) (panK R) w fun t8 w =>
 joinK (fun (t11:Value) (w:World) =>
 pickK t8 (.bool true) t11 fun t12 =>
 condP t12 (
 R (.returned t0) w) (
 n47c4 t0 t1 R w)) fun K1 =>
 guardP t8 false (
 opV Pg (binS .eql 9 true t1 (.string { data := #[] })) (panK R) w fun t11 w =>
 K1 t11 w) (
 K1 undef w)
theorem n47s {t0 t1:Value} {R:RT} {w:World} (h:n47 t0 t1 R w):Calls Pg 108 #[t0,t1] w R:=by
 refine yD Tryz.func108 ?_
 refine zs<|zr<|zm<|zn<|zk<|zs<|zs<|sim_regionG<|yG 3<|zm<|yb h fun _ w h=>zm<|zn<|yg1 2 2 false [10,11] 11 h (fun _ T hT h=>?_) fun σ w h=>?_
 · refine zm<|yb h fun _ w h=>zn ?_
   exact zt hT h
 refine yG 1<|yp h fun _ h=>zn<|sim_end<|zk<|yC h (fun h=>zs<|zr<|zm<|zm<|zn<|zk<|sim_ret<|sim_then_ret<|body_ret1 rfl rfl h) fun h=>sim_skip<|zk<|zs<|zs<|sim_regionG<|yG 4<|zm<|yx h fun _ w h=>?_
 refine yb h fun _ w h=>zm<|zn<|yg1 3 3 true [18,19,20] 20 h (fun _ T hT h=>?_) fun σ w h=>?_
 · refine zm<|yv h fun _ w h=>yb h fun _ w h=>zn ?_
   exact zt hT h
 refine yG 1<|yp h fun _ h=>zn<|sim_end<|zk<|yC h (fun h=>?_) fun h=>?_
 · refine zs<|yh [4,22,23,24,25,26,27,28] h fun C hC h=>yw 0 hC ?_
   refine yw 1 hC ?_
   refine ye 2 hC h fun _ h=>?_
   refine yw 4 hC ?_
   refine ye 5 hC h fun _ h=>?_
   refine yo 3 ?_
   refine yc h c123 fun _ w h=>zn ?_
   obtain ⟨hC,h⟩:=h
   refine ⟨hC,?_⟩
   refine yo 6 ?_
   refine yc h c122 fun _ w h=>zn ?_
   obtain ⟨hC,h⟩:=h
   refine ⟨hC,?_⟩
   refine yw 7 hC ?_
   exact yz<|zk<|sim_ret<|sim_then_ret<|body_ret1 rfl rfl h
 refine sim_skip<|zk<|zs<|zs<|zr<|zm<|yc h c124 fun _ w h=>zm<|yv h fun _ w h=>yv h fun _ w h=>yv h fun _ w h=>yu h fun w h=>zm<|zn<|zk ?_
 refine zs<|zr<|zm<|zn<|zk<|yC h (fun h=>zs<|zr<|zm<|yc h c126 fun _ w h=>yc h c125 fun _ w h=>zm<|zn<|zk<|sim_ret<|sim_then_ret<|body_ret1 rfl rfl h) fun h=>sim_skip<|zk<|zs<|zr<|zm<|zm<|yc h c128 fun _ w h=>zm ?_
 exact yc h c127 fun _ w h=>zm<|zn<|zk<|sim_ret<|body_ret1 rfl rfl h
def n48 (t0 t1 t2:Value) (R:RT) (w:World):Prop :=
 opV Pg (Instr.box 9 t0) (panK R) w fun t3 w =>
 opV Pg (Instr.box 9 t1) (panK R) w fun t4 w =>
 opV Pg (Instr.box 3 t2) (panK R) w fun t5 w =>
 opV Pg (Instr.makeFunc (.func 136) #[] #[t4,t3,t5]) (panK R) w fun t7 w =>
 R (.returned t7) w
theorem n48s {t0 t1 t2:Value} {R:RT} {w:World} (h:n48 t0 t1 t2 R w):Calls Pg 120 #[t0,t1,t2] w R:=by
 refine yD Tryz.func120 ?_
 refine zs<|zr<|yv h fun _ w h=>yv h fun _ w h=>yv h fun _ w h=>zm<|zn<|zk<|zs<|zr<|yF h fun _ w h=>zm<|zn<|zk<|sim_ret ?_
 exact body_ret1 rfl rfl h
def n50c1 (t0 t1:Value) (K1:KV) (next2:KV) (R:RT) (w:World):Prop :=
 opV Pg (Instr.index 9 t0 (.int .i64 0)) (panK R) w fun t10 w =>
 callK Pg 140 #[t1,t10] (panK R) w fun t11 w =>
 opV Pg (Op.unary .not t11) (panK R) w fun t12 w =>
 condP t12 (
 K1 t0 w) (
 opV Pg (Instr.sliceAt 9 t0 (some (.int .i64 1)) none none) (panK R) w fun t14 w =>
 next2 t14 w)
def n50c2 (t0 t1:Value) (K1:KV) (next2:KV) (R:RT) (w:World):Prop :=
 opV Pg (Builtin.len_ #[9] 3 #[t0]) (panK R) w fun t6 w =>
 opV Pg (binS .gtr 3 true t6 (.int .i64 0)) (panK R) w fun t7 w =>
 condP t7 (
 n50c1 t0 t1 K1 next2 R w) (
 K1 t0 w)
def n50 (t0 t1:Value) (R:RT) (w:World):Prop :=
 joinK (fun (t0:Value) (w:World) =>
 R (.returned t0) w) fun K1 =>
 loop1 (fun t0 w next2 =>
 n50c2 t0 t1 K1 next2 R w) t0 w
theorem n50s {t0 t1:Value} {R:RT} {w:World} (h:n50 t0 t1 R w):Calls Pg 125 #[t0,t1] w R:=by
 refine yD Tryz.func125 ?_
 refine zs<|zr<|zm<|zn<|zk<|zs<|yJ1 [0,5,6,7,8,9,10,11,12,13,14] 0 h (fun _ _ hkK1 h=>?_) fun σ w h=>?_
 · refine sim_block<|yl1 [0,5,6,7,8,9,10,11,12,13,14] 0 h fun σ w next h=>zs<|zs<|zr<|zm<|yx h fun _ w h=>yb h fun _ w h=>zn<|zk<|yC h (fun h=>?_) fun h=>?_
   · refine sim_skip<|zk<|sim_block<|zs<|zs<|zr<|zm<|zm<|yv h fun _ w h=>yc h c140 fun _ w h=>yv h fun _ w h=>zn<|zk<|yC h (fun h=>?_) fun h=>?_
     · refine sim_exit<|sim_then_exit<|sim_block_miss rfl<|sim_then_exit<|sim_block_hit<|zk ?_
       exact zt hkK1 h
     exact sim_skip<|zk<|zr<|zm<|yv h fun _ w h=>zm<|zn<|sim_block_normal<|zk<|⟨rfl,h⟩
   refine sim_exit<|sim_then_exit<|sim_then_exit<|sim_block_hit<|zk ?_
   exact zt hkK1 h
 exact zk<|zs<|zr<|zm<|zm<|zn<|zk<|sim_ret<|body_ret1 rfl rfl h
def n51c1 (t0:Value) (next2:KV) (R:RT) (w:World):Prop :=
 opV Pg (Builtin.len_ #[9] 3 #[t0]) (panK R) w fun t18 w =>
 opV Pg (binS .sub 3 true t18 (.int .i64 1)) (panK R) w fun t19 w =>
 opV Pg (Instr.sliceAt 9 t0 none (some t19) none) (panK R) w fun t20 w =>
 next2 t20 w
def n51c2 (t0 t1:Value) (K1:KV) (next2:KV) (R:RT) (w:World):Prop :=
 opV Pg (Builtin.len_ #[9] 3 #[t0]) (panK R) w fun t11 w =>
 opV Pg (binS .sub 3 true t11 (.int .i64 1)) (panK R) w fun t12 w =>
 opV Pg (Instr.index 9 t0 t12) (panK R) w fun t13 w =>
 callK Pg 140 #[t1,t13] (panK R) w fun t14 w =>
 opV Pg (Op.unary .not t14) (panK R) w fun t15 w =>
 condP t15 (
 K1 t0 w) (
 n51c1 t0 next2 R w)
def n51c3 (t0 t1:Value) (K1:KV) (next2:KV) (R:RT) (w:World):Prop :=
 opV Pg (Builtin.len_ #[9] 3 #[t0]) (panK R) w fun t6 w =>
 opV Pg (binS .gtr 3 true t6 (.int .i64 0)) (panK R) w fun t7 w =>
 condP t7 (
 n51c2 t0 t1 K1 next2 R w) (
 K1 t0 w)
def n51 (t0 t1:Value) (R:RT) (w:World):Prop :=
 joinK (fun (t0:Value) (w:World) =>
 R (.returned t0) w) fun K1 =>
 loop1 (fun t0 w next2 =>
 n51c3 t0 t1 K1 next2 R w) t0 w
theorem n51s {t0 t1:Value} {R:RT} {w:World} (h:n51 t0 t1 R w):Calls Pg 126 #[t0,t1] w R:=by
 refine yD Tryz.func126 ?_
 refine zs<|zr<|zm<|zn<|zk<|zs<|yJ1 [0,5,6,7,8,9,10,11,12,13,14,15,16,17,18,19,20] 0 h (fun _ _ hkK1 h=>?_) fun σ w h=>?_
 · refine sim_block<|yl1 [0,5,6,7,8,9,10,11,12,13,14,15,16,17,18,19,20] 0 h fun σ w next h=>zs<|zs<|zr<|zm<|yx h fun _ w h=>yb h fun _ w h=>zn<|zk<|yC h (fun h=>?_) fun h=>?_
   · refine sim_skip<|zk<|sim_block<|zs<|zs<|zr<|zm<|zm<|zm<|yx h fun _ w h=>yb h fun _ w h=>yv h fun _ w h=>yc h c140 fun _ w h=>yv h fun _ w h=>zn ?_
     refine zk<|yC h (fun h=>?_) fun h=>?_
     · refine sim_exit<|sim_then_exit<|sim_block_miss rfl<|sim_then_exit<|sim_block_hit<|zk ?_
       exact zt hkK1 h
     exact sim_skip<|zk<|zr<|zm<|zm<|yx h fun _ w h=>yb h fun _ w h=>yv h fun _ w h=>zm<|zn<|sim_block_normal<|zk<|⟨rfl,h⟩
   refine sim_exit<|sim_then_exit<|sim_then_exit<|sim_block_hit<|zk ?_
   exact zt hkK1 h
 exact zk<|zs<|zr<|zm<|zm<|zn<|zk<|sim_ret<|body_ret1 rfl rfl h
def n49c1 (t2 t19:Value) (next1:World→Prop) (R:RT) (w:World):Prop :=
 opV Pg (Instr.loadAt 9 t2) (panK R) w fun t26 w =>
 opV Pg (Instr.sliceAt 9 t26 (some t19) none none) (panK R) w fun t28 w =>
 opU Pg (Instr.storeAt 9 t2 t28) (panK R) w fun w =>
 next1 w
def n49c2 (t0 t2 t17:Value) (next1:World→Prop) (R:RT) (w:World):Prop :=
 opV Pg (Instr.extract t17 0) (panK R) w fun t18 w =>
 opV Pg (Instr.extract t17 1) (panK R) w fun t19 w =>
 opV Pg (Instr.loadAt 9 t2) (panK R) w fun t21 w =>
 opV Pg (Instr.sliceAt 9 t21 none (some t19) none) (panK R) w fun t23 w =>
 callV Pg t0 #[t23] (panK R) w fun t24 w =>
 opV Pg (Op.unary .not t24) (panK R) w fun t25 w =>
 condP t25 (
 R (.returned (.tuple #[])) w) (
 n49c1 t2 t19 next1 R w)
def n49c3 (t0 t2:Value) (next1:World→Prop) (R:RT) (w:World):Prop :=
 opV Pg (Instr.loadAt 9 t2) (panK R) w fun t12 w =>
 opV Pg (Builtin.len_ #[9] 3 #[t12]) (panK R) w fun t13 w =>
 opV Pg (binS .gtr 3 true t13 (.int .i64 0)) (panK R) w fun t14 w =>
 condP t14 (
 opV Pg (Instr.loadAt 9 t2) (panK R) w fun t16 w =>
 callK Pg 137 #[t16] (panK R) w fun t17 w =>
 n49c2 t0 t2 t17 next1 R w) (
 R (.returned (.tuple #[])) w)
def n49c4 (t1 t2 t31:Value) (next2:World→Prop) (R:RT) (w:World):Prop :=
 opV Pg (Instr.loadAt 9 t2) (panK R) w fun t43 w =>
 opV Pg (Instr.loadAt 9 t1) (panK R) w fun t45 w =>
 opV Pg (Builtin.len_ #[9] 3 #[t45]) (panK R) w fun t46 w =>
 opV Pg (binS .add 3 false t31 t46) (panK R) w fun t47 w =>
 opV Pg (Instr.sliceAt 9 t43 (some t47) none none) (panK R) w fun t48 w =>
 opU Pg (Instr.storeAt 9 t2 t48) (panK R) w fun w =>
 next2 w
def n49c5 (t0 t1 t2 t3 t31:Value) (next2:World→Prop) (R:RT) (w:World):Prop :=
 opV Pg (Instr.loadAt 9 t2) (panK R) w fun t34 w =>
 opV Pg (Instr.loadAt 3 t3) (panK R) w fun t36 w =>
 opV Pg (binS .add 3 false t31 t36) (panK R) w fun t37 w =>
 opV Pg (Instr.sliceAt 9 t34 none (some t37) none) (panK R) w fun t38 w =>
 callV Pg t0 #[t38] (panK R) w fun t41 w =>
 opV Pg (Op.unary .not t41) (panK R) w fun t42 w =>
 condP t42 (
 R (.returned (.tuple #[])) w) (
 n49c4 t1 t2 t31 next2 R w)
def n49c6 (t0 t1 t2 t3 t31:Value) (next2:World→Prop) (R:RT) (w:World):Prop :=
 opV Pg (binS .lss 3 true t31 (.int .i64 0)) (panK R) w fun t33 w =>
 condP t33 (
 opV Pg (Instr.loadAt 9 t2) (panK R) w fun t50 w =>
 callV Pg t0 #[t50] (panK R) w fun t51 w =>
 R (.returned (.tuple #[])) w) (
 n49c5 t0 t1 t2 t3 t31 next2 R w)
def n49c7 (t0 t1 t2 t3:Value) (next2:World→Prop) (R:RT) (w:World):Prop :=
 opV Pg (Instr.loadAt 9 t2) (panK R) w fun t29 w =>
 opV Pg (Instr.loadAt 9 t1) (panK R) w fun t30 w =>
 callK Pg 138 #[t29,t30] (panK R) w fun t31 w =>
 n49c6 t0 t1 t2 t3 t31 next2 R w
def n49 (t0 t1 t2 t3:Value) (R:RT) (w:World):Prop :=
 opV Pg (Instr.loadAt 9 t1) (panK R) w fun t9 w =>
 opV Pg (Builtin.len_ #[9] 3 #[t9]) (panK R) w fun t10 w =>
 opV Pg (binS .eql 3 true t10 (.int .i64 0)) (panK R) w fun t11 w =>
 condP t11 (
 loop0 (fun w next1 =>
 n49c3 t0 t2 next1 R w) w) (
 loop0 (fun w next2 =>
 n49c7 t0 t1 t2 t3 next2 R w) w)
theorem n49s {t0 t1 t2 t3:Value} {R:RT} {w:World} (h:n49 t0 t1 t2 t3 R w):Calls Pg 136 #[t0,t1,t2,t3] w R:=by
 refine yD Tryz.func136 ?_
 refine zs<|zs<|zr<|yv h fun _ w h=>yx h fun _ w h=>yb h fun _ w h=>zn<|zk<|yC h (fun h=>?_) fun h=>?_
 · refine zs<|sim_block<|yl0 [5,6,12,13,14,15,16,17,18,19,20,21,22,23,24,25,26,27,28] h fun σ w next h=>zs<|zs<|zr<|yv h fun _ w h=>yx h fun _ w h=>yb h fun _ w h=>zn<|zk<|yC h (fun h=>?_) fun h=>?_
   · refine sim_skip<|zk<|sim_block<|zs<|zr<|yv h fun _ w h=>yc h c137 fun _ w h=>zm<|yv h fun _ w h=>yv h fun _ w h=>zm<|zm<|zn<|zk<|zs ?_
     refine zs<|zr<|zm<|yv h fun _ w h=>zm<|yv h fun _ w h=>yV h fun _ w h=>yv h fun _ w h=>zn<|zk<|yC h (fun h=>sim_ret<|sim_then_ret<|sim_block_ret<|sim_then_ret<|sim_block_ret<|sim_then_ret<|sim_then_ret<|body_ret0 rfl h) fun h=>sim_skip<|zk<|zr ?_
     exact yv h fun _ w h=>zm<|yv h fun _ w h=>yu h fun w h=>zn<|sim_block_normal<|zk<|⟨rfl,h⟩
   exact sim_exit<|sim_then_exit<|sim_then_exit<|sim_block_hit<|zk<|sim_ret<|sim_then_ret<|body_ret0 rfl h
 refine sim_skip<|zk<|zs<|sim_block<|yl0 [7,8,29,30,31,32,33,34,35,36,37,38,39,40,41,42,43,44,45,46,47,48] h fun σ w next h=>sim_block<|zs<|zr<|yv h fun _ w h=>yv h fun _ w h=>yc h c138 fun _ w h=>zm<|zn<|zk<|zs ?_
 refine zs<|zr<|zm<|yb h fun _ w h=>zn<|zk<|yC h (fun h=>sim_exit<|sim_then_exit<|sim_block_miss rfl<|sim_then_exit<|sim_block_hit<|zk<|zr<|zm<|yv h fun _ w h=>yV h fun _ w h=>zn<|body_normal<|body_ret0 rfl h) fun h=>sim_skip<|zk<|zs<|zr<|yv h fun _ w h=>zm<|yv h fun _ w h=>?_
 refine yb h fun _ w h=>yv h fun _ w h=>zm<|zn<|zk<|zs<|zs<|zr<|zm<|zm<|yV h fun _ w h=>yv h fun _ w h=>zn<|zk<|yC h (fun h=>sim_ret<|sim_then_ret<|sim_block_ret<|sim_then_ret<|sim_block_ret<|sim_then_ret<|body_ret0 rfl h) fun h=>?_
 exact sim_skip<|zk<|zr<|yv h fun _ w h=>zm<|yv h fun _ w h=>yx h fun _ w h=>yb h fun _ w h=>yv h fun _ w h=>yu h fun w h=>zn<|sim_block_normal<|zk<|⟨rfl,h⟩
end Go.Proofs.YtcffhmapmaahnaaGreatDoor
