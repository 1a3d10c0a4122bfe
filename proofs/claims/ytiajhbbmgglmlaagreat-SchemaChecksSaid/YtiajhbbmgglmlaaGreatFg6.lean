/-
  Lemmas for the claim.
-/
import Derived.Test.YtiajhbbmgglmlaaGreatFg5
set_option linter.all false
set_option maxHeartbeats 4000000
set_option maxRecDepth 100000
namespace Go.Proofs.YtiajhbbmgglmlaaGreat
open Sw
open Go.RowKit (intOf Below)
theorem rSameField_ret (w0:World) (v u:Value) (f g:FieldD) (hf:FieldVal w0 v f) (hg:FieldVal w0 u g):Ret Pg 34 #[v,u] w0 fun r w'=>r = .bool (decide (f=g))∧Ext w0 w':=by
 obtain ⟨tv,cv,rfl,hT,hC,ht1,hc1⟩:=hf.op
 obtain ⟨tv',cv',rfl,hT',hC',ht1',hc1'⟩:=hg.op
 refine n24s (R:=retR _) ?_;unfold n24
 have no:∀ w',Ext w0 w'→f≠g→retR (fun r w'=>r = .bool (decide (f=g))∧Ext w0 w') (.returned (.bool false)) w':=fun w' e h=>by rw [retR_ret];exact ⟨by rw [decide_eq_false h],e⟩
 have yes:∀ w' b,Ext w0 w'→b=decide (f=g)→retR (fun r w'=>r = .bool (decide (f=g))∧Ext w0 w') (.returned (.bool b)) w':=fun w' b e h=>by rw [retR_ret];exact ⟨by rw [h],e⟩
 generalize (retR fun r w'=>r = .bool (decide (f=g))∧Ext w0 w')=R at no yes ⊢
 simp (disch:=try exact DI) only [↓PR,QR,Int.reduceBEq,Int.reduceBNe,Int.reduceLT,Int.reduceLE,Int.reduceGT,Int.reduceGE,Int.reduceNeg]
 have e0:Ext w0 ((w0.alloc (Obj.cells (fieldCells f tv cv).toArray 52)).alloc (Obj.cells (fieldCells g tv' cv').toArray 52)):=ee
 have o3:=heap_new (w0.alloc (Obj.cells (fieldCells f tv cv).toArray 52)) (fieldCells g tv' cv').toArray 52
 have o2:=((Ext.refl (w0.alloc (Obj.cells (fieldCells f tv cv).toArray 52))).alloc (Obj.cells (fieldCells g tv' cv').toArray 52)).obj (heap_new w0 (fieldCells f tv cv).toArray 52)
 rw [World.size_alloc] at o3
 generalize hp3:w0.heap.size+1=p3 at o3 ⊢
 generalize hp2:w0.heap.size=p2 at o2 ⊢
 generalize ((w0.alloc (Obj.cells (fieldCells f tv cv).toArray 52)).alloc (Obj.cells (fieldCells g tv' cv').toArray 52))=W at e0 o2 o3 ⊢
 by_cases h1:f.name=g.name
 case neg =>
  have d:decide (f.name=g.name)=false:=by simpa using h1
  simp (disch:=try exact DI) only [↓PR,QR,Int.reduceBEq,Int.reduceBNe,Int.reduceLT,Int.reduceLE,Int.reduceGT,Int.reduceGE,Int.reduceNeg,d,↓n24c1,↓n24c2,↓n24c3,↓n24c4,↓n24c5,↓n24c6,↓n24c7,↓n24c8,↓n24c9,↓n24c10,↓n24c11,↓n24c12]
  exact no _ e0 (fun e=>h1 (by rw [e]))
 have d10:decide (f.name=g.name)=true:=by simpa using h1
 simp (disch:=try exact DI) only [↓PR,QR,Int.reduceBEq,Int.reduceBNe,Int.reduceLT,Int.reduceLE,Int.reduceGT,Int.reduceGE,Int.reduceNeg,d10,(cells_of_heap o2).1,(cells_of_heap o3).1]
 by_cases h2:f.kind=g.kind
 case neg =>
  have d:(f.kind == g.kind)=false:=by simpa using h2
  simp (disch:=try exact DI) only [↓PR,QR,Int.reduceBEq,Int.reduceBNe,Int.reduceLT,Int.reduceLE,Int.reduceGT,Int.reduceGE,Int.reduceNeg,d,d10,↓n24c1,↓n24c2,↓n24c3,↓n24c4,↓n24c5,↓n24c6,↓n24c7,↓n24c8,↓n24c9,↓n24c10,↓n24c11,↓n24c12]
  exact no _ e0 (fun e=>h2 (by rw [e]))
 have d11:(f.kind == g.kind)=true:=by simpa using h2
 simp (disch:=try exact DI) only [↓PR,QR,Int.reduceBEq,Int.reduceBNe,Int.reduceLT,Int.reduceLE,Int.reduceGT,Int.reduceGE,Int.reduceNeg,d11,d10,(cells_of_heap o2).1,(cells_of_heap o3).1,n24c12]
 by_cases h3:f.bits=g.bits
 case neg =>
  have d:(f.bits == g.bits)=false:=by simpa using h3
  simp (disch:=try exact DI) only [↓PR,QR,Int.reduceBEq,Int.reduceBNe,Int.reduceLT,Int.reduceLE,Int.reduceGT,Int.reduceGE,Int.reduceNeg,d,d11,↓n24c1,↓n24c2,↓n24c3,↓n24c4,↓n24c5,↓n24c6,↓n24c7,↓n24c8,↓n24c9,↓n24c10,↓n24c11,↓n24c12]
  exact no _ e0 (fun e=>h3 (by rw [e]))
 have d12:(f.bits == g.bits)=true:=by simpa using h3
 simp (disch:=try exact DI) only [↓PR,QR,Int.reduceBEq,Int.reduceBNe,Int.reduceLT,Int.reduceLE,Int.reduceGT,Int.reduceGE,Int.reduceNeg,d12,d11,(cells_of_heap o2).1,(cells_of_heap o3).1,n24c11]
 by_cases h4:f.little=g.little
 case neg =>
  have d:(f.little == g.little)=false:=by simpa using h4
  simp (disch:=try exact DI) only [↓PR,QR,Int.reduceBEq,Int.reduceBNe,Int.reduceLT,Int.reduceLE,Int.reduceGT,Int.reduceGE,Int.reduceNeg,d,d12,↓n24c1,↓n24c2,↓n24c3,↓n24c4,↓n24c5,↓n24c6,↓n24c7,↓n24c8,↓n24c9,↓n24c10,↓n24c11,↓n24c12]
  exact no _ e0 (fun e=>h4 (by rw [e]))
 have d13:(f.little == g.little)=true:=by simpa using h4
 simp (disch:=try exact DI) only [↓PR,QR,Int.reduceBEq,Int.reduceBNe,Int.reduceLT,Int.reduceLE,Int.reduceGT,Int.reduceGE,Int.reduceNeg,d13,d12,(cells_of_heap o2).1,(cells_of_heap o3).1,n24c10]
 by_cases h5:f.loose=g.loose
 case neg =>
  have d:(f.loose == g.loose)=false:=by simpa using h5
  simp (disch:=try exact DI) only [↓PR,QR,Int.reduceBEq,Int.reduceBNe,Int.reduceLT,Int.reduceLE,Int.reduceGT,Int.reduceGE,Int.reduceNeg,d,d13,↓n24c1,↓n24c2,↓n24c3,↓n24c4,↓n24c5,↓n24c6,↓n24c7,↓n24c8,↓n24c9,↓n24c10,↓n24c11,↓n24c12]
  exact no _ e0 (fun e=>h5 (by rw [e]))
 have d14:(f.loose == g.loose)=true:=by simpa using h5
 simp (disch:=try exact DI) only [↓PR,QR,Int.reduceBEq,Int.reduceBNe,Int.reduceLT,Int.reduceLE,Int.reduceGT,Int.reduceGE,Int.reduceNeg,d14,d13,(cells_of_heap o2).1,(cells_of_heap o3).1,n24c9]
 by_cases h6:f.low=g.low
 case neg =>
  have d:(f.low == g.low)=false:=by simpa using h6
  simp (disch:=try exact DI) only [↓PR,QR,Int.reduceBEq,Int.reduceBNe,Int.reduceLT,Int.reduceLE,Int.reduceGT,Int.reduceGE,Int.reduceNeg,d,d14,↓n24c1,↓n24c2,↓n24c3,↓n24c4,↓n24c5,↓n24c6,↓n24c7,↓n24c8,↓n24c9,↓n24c10,↓n24c11,↓n24c12]
  exact no _ e0 (fun e=>h6 (by rw [e]))
 have d15:(f.low == g.low)=true:=by simpa using h6
 simp (disch:=try exact DI) only [↓PR,QR,Int.reduceBEq,Int.reduceBNe,Int.reduceLT,Int.reduceLE,Int.reduceGT,Int.reduceGE,Int.reduceNeg,d15,d14,(cells_of_heap o2).1,(cells_of_heap o3).1,n24c8]
 by_cases h7:f.high=g.high
 case neg =>
  have d:(f.high == g.high)=false:=by simpa using h7
  simp (disch:=try exact DI) only [↓PR,QR,Int.reduceBEq,Int.reduceBNe,Int.reduceLT,Int.reduceLE,Int.reduceGT,Int.reduceGE,Int.reduceNeg,d,d15,↓n24c1,↓n24c2,↓n24c3,↓n24c4,↓n24c5,↓n24c6,↓n24c7,↓n24c8,↓n24c9,↓n24c10,↓n24c11,↓n24c12]
  exact no _ e0 (fun e=>h7 (by rw [e]))
 have d16:(f.high == g.high)=true:=by simpa using h7
 simp (disch:=try exact DI) only [↓PR,QR,Int.reduceBEq,Int.reduceBNe,Int.reduceLT,Int.reduceLE,Int.reduceGT,Int.reduceGE,Int.reduceNeg,d16,d15,(cells_of_heap o2).1,(cells_of_heap o3).1,n24c7]
 refine zcr (rSame_ret _ _ _ f.base g.base f.terms g.terms ⟨_,rfl,TermsOf.ext hT e0⟩ ⟨_,rfl,TermsOf.ext hT' e0⟩) fun w1 d1=>?_
 have x2:=d1.obj o2
 have x3:=d1.obj o3
 have e1:=e0.trans d1
 by_cases h8:f.base=g.base∧f.terms=g.terms
 case neg =>
  have d:decide (f.base=g.base∧f.terms=g.terms)=false:=by simpa using h8
  simp (disch:=try exact DI) only [↓PR,QR,Int.reduceBEq,Int.reduceBNe,Int.reduceLT,Int.reduceLE,Int.reduceGT,Int.reduceGE,Int.reduceNeg,d,d16,↓n24c1,↓n24c2,↓n24c3,↓n24c4,↓n24c5,↓n24c6,↓n24c7,↓n24c8,↓n24c9,↓n24c10,↓n24c11,↓n24c12]
  exact no _ e1 (fun e=>h8 ⟨by rw [e],by rw [e]⟩)
 have d17:decide (f.base=g.base∧f.terms=g.terms)=true:=by simpa using h8
 simp (disch:=try exact DI) only [↓PR,QR,Int.reduceBEq,Int.reduceBNe,Int.reduceLT,Int.reduceLE,Int.reduceGT,Int.reduceGE,Int.reduceNeg,d17,d16,(cells_of_heap x2).1,(cells_of_heap x3).1,n24c6]
 by_cases h9:f.of=g.of
 case neg =>
  have d:decide (f.of=g.of)=false:=by simpa using h9
  simp (disch:=try exact DI) only [↓PR,QR,Int.reduceBEq,Int.reduceBNe,Int.reduceLT,Int.reduceLE,Int.reduceGT,Int.reduceGE,Int.reduceNeg,d,d17,↓n24c1,↓n24c2,↓n24c3,↓n24c4,↓n24c5,↓n24c6,↓n24c7,↓n24c8,↓n24c9,↓n24c10,↓n24c11,↓n24c12]
  exact no _ e1 (fun e=>h9 (by rw [e]))
 have d18:decide (f.of=g.of)=true:=by simpa using h9
 simp (disch:=try exact DI) only [↓PR,QR,Int.reduceBEq,Int.reduceBNe,Int.reduceLT,Int.reduceLE,Int.reduceGT,Int.reduceGE,Int.reduceNeg,d18,d17,(cells_of_heap x2).1,(cells_of_heap x3).1,n24c5]
 by_cases h10:f.tag=g.tag
 case neg =>
  have d:decide (f.tag=g.tag)=false:=by simpa using h10
  simp (disch:=try exact DI) only [↓PR,QR,Int.reduceBEq,Int.reduceBNe,Int.reduceLT,Int.reduceLE,Int.reduceGT,Int.reduceGE,Int.reduceNeg,d,d18,↓n24c1,↓n24c2,↓n24c3,↓n24c4,↓n24c5,↓n24c6,↓n24c7,↓n24c8,↓n24c9,↓n24c10,↓n24c11,↓n24c12]
  exact no _ e1 (fun e=>h10 (by rw [e]))
 have d19:decide (f.tag=g.tag)=true:=by simpa using h10
 simp (disch:=try exact DI) only [↓PR,QR,Int.reduceBEq,Int.reduceBNe,Int.reduceLT,Int.reduceLE,Int.reduceGT,Int.reduceGE,Int.reduceNeg,d19,d18,(cells_of_heap x2).1,(cells_of_heap x3).1,n24c4]
 by_cases h11:f.fr=g.fr
 case neg =>
  have d:decide (f.fr=g.fr)=false:=by simpa using h11
  simp (disch:=try exact DI) only [↓PR,QR,Int.reduceBEq,Int.reduceBNe,Int.reduceLT,Int.reduceLE,Int.reduceGT,Int.reduceGE,Int.reduceNeg,d,d19,↓n24c1,↓n24c2,↓n24c3,↓n24c4,↓n24c5,↓n24c6,↓n24c7,↓n24c8,↓n24c9,↓n24c10,↓n24c11,↓n24c12]
  exact no _ e1 (fun e=>h11 (by rw [e]))
 have d20:decide (f.fr=g.fr)=true:=by simpa using h11
 simp (disch:=try exact DI) only [↓PR,QR,Int.reduceBEq,Int.reduceBNe,Int.reduceLT,Int.reduceLE,Int.reduceGT,Int.reduceGE,Int.reduceNeg,d20,d19,(cells_of_heap x2).1,(cells_of_heap x3).1,n24c3]
 refine zcr (rsameCases_ret _ _ _ f.cases g.cases (CasesOf.ext hC e1) (CasesOf.ext hC' e1)) fun w2 d2=>?_
 have y2:=d2.obj x2
 have y3:=d2.obj x3
 have e2:=e1.trans d2
 by_cases h12:f.cases=g.cases
 case neg =>
  have d:decide (f.cases=g.cases)=false:=by simpa using h12
  simp (disch:=try exact DI) only [↓PR,QR,Int.reduceBEq,Int.reduceBNe,Int.reduceLT,Int.reduceLE,Int.reduceGT,Int.reduceGE,Int.reduceNeg,d,d20,↓n24c1,↓n24c2,↓n24c3,↓n24c4,↓n24c5,↓n24c6,↓n24c7,↓n24c8,↓n24c9,↓n24c10,↓n24c11,↓n24c12]
  exact no _ e2 (fun e=>h12 (by rw [e]))
 have d21:decide (f.cases=g.cases)=true:=by simpa using h12
 simp (disch:=try exact DI) only [↓PR,QR,Int.reduceBEq,Int.reduceBNe,Int.reduceLT,Int.reduceLE,Int.reduceGT,Int.reduceGE,Int.reduceNeg,d21,d20,(cells_of_heap y2).1,(cells_of_heap y3).1,n24c2]
 by_cases h13:f.check=g.check
 case neg =>
  have d:(f.check == g.check)=false:=by simpa using h13
  simp (disch:=try exact DI) only [↓PR,QR,Int.reduceBEq,Int.reduceBNe,Int.reduceLT,Int.reduceLE,Int.reduceGT,Int.reduceGE,Int.reduceNeg,d,d21,↓n24c1,↓n24c2,↓n24c3,↓n24c4,↓n24c5,↓n24c6,↓n24c7,↓n24c8,↓n24c9,↓n24c10,↓n24c11,↓n24c12]
  exact no _ e2 (fun e=>h13 (by rw [e]))
 have d22:(f.check == g.check)=true:=by simpa using h13
 simp (disch:=try exact DI) only [↓PR,QR,Int.reduceBEq,Int.reduceBNe,Int.reduceLT,Int.reduceLE,Int.reduceGT,Int.reduceGE,Int.reduceNeg,d22,d21,(cells_of_heap y2).1,(cells_of_heap y3).1,n24c1]
 have dl:(f.key == g.key)=decide (f=g):=by
  rw [Bool.eq_iff_iff]
  simp only [beq_iff_eq,decide_eq_true_eq]
  refine ⟨fun h14=>?_,fun h=>by rw [h]⟩
  obtain ⟨a0,a1,a2,a3,a4,a5,a6,a7,a8,a9,a10,a11,a12,a13,a14⟩:=f
  obtain ⟨b0,b1,b2,b3,b4,b5,b6,b7,b8,b9,b10,b11,b12,b13,b14⟩:=g
  obtain ⟨h8a,h8b⟩:=h8
  simp only at h1 h2 h3 h4 h5 h6 h7 h8a h8b h9 h10 h11 h12 h13 h14
  subst h1 h2 h3 h4 h5 h6 h7 h8a h8b h9 h10 h11 h12 h13 h14
  rfl
 exact yes _ _ e2 dl
theorem rEqual_ret (w0:World) (v u:Value) (x y:DefD) (hx:DefVal w0 v x) (hy:DefVal w0 u y):Ret Pg 16 #[v,u] w0 fun r w'=>r = .bool (decide (x=y))∧Ext w0 w':=by
 obtain ⟨mv,rfl,hM⟩:=hx
 obtain ⟨mv',rfl,hM'⟩:=hy
 obtain ⟨A,c,rfl,hlc,hcm,hlm,hel⟩:=SliceOf.open hM
 obtain ⟨A',c',rfl,hlc',hcm',hlm',hel'⟩:=SliceOf.open hM'
 refine n18s (R:=retR _) ?_;unfold n18
 have no:∀ w',Ext w0 w'→x≠y→retR (fun r w'=>r = .bool (decide (x=y))∧Ext w0 w') (.returned (.bool false)) w':=fun w' e h=>by rw [retR_ret];exact ⟨by rw [decide_eq_false h],e⟩
 have yes:∀ w',Ext w0 w'→x=y→retR (fun r w'=>r = .bool (decide (x=y))∧Ext w0 w') (.returned (.bool true)) w':=fun w' e h=>by rw [retR_ret];exact ⟨by rw [decide_eq_true h],e⟩
 generalize (retR fun r w'=>r = .bool (decide (x=y))∧Ext w0 w')=R at no yes ⊢
 simp (disch:=try exact DI) only [↓PR,QR,Int.reduceBEq,Int.reduceBNe,Int.reduceLT,Int.reduceLE,Int.reduceGT,Int.reduceGE,Int.reduceNeg]
 have e0:Ext w0 ((w0.alloc (Obj.cells (defCells x (.slice A x.msgs.length c)).toArray 24)).alloc (Obj.cells (defCells y (.slice A' y.msgs.length c')).toArray 24)):=ee
 have o3:=heap_new (w0.alloc (Obj.cells (defCells x (.slice A x.msgs.length c)).toArray 24)) (defCells y (.slice A' y.msgs.length c')).toArray 24
 have o2:=((Ext.refl (w0.alloc (Obj.cells (defCells x (.slice A x.msgs.length c)).toArray 24))).alloc (Obj.cells (defCells y (.slice A' y.msgs.length c')).toArray 24)).obj (heap_new w0 (defCells x (.slice A x.msgs.length c)).toArray 24)
 rw [World.size_alloc] at o3
 generalize hp3:w0.heap.size+1=p3 at o3 ⊢
 generalize hp2:w0.heap.size=p2 at o2 ⊢
 generalize ((w0.alloc (Obj.cells (defCells x (.slice A x.msgs.length c)).toArray 24)).alloc (Obj.cells (defCells y (.slice A' y.msgs.length c')).toArray 24))=W at e0 o2 o3 ⊢
 by_cases h1:x.name=y.name
 case neg =>
  have d:(!decide (x.name=y.name))=true:=by simpa using h1
  simp (disch:=try exact DI) only [↓PR,QR,Int.reduceBEq,Int.reduceBNe,Int.reduceLT,Int.reduceLE,Int.reduceGT,Int.reduceGE,Int.reduceNeg,d,↓n18c1,↓n18c2,↓n18c3,↓n18c4,↓n18c5,↓n18c6,↓n18c7,↓n18c8,↓n18c9]
  exact no _ e0 (fun e=>h1 (by rw [e]))
 have d1:(!decide (x.name=y.name))=false:=by simpa using h1
 by_cases h2:x.start=y.start
 case neg =>
  have d:(!decide (x.start=y.start))=true:=by simpa using h2
  simp (disch:=try exact DI) only [↓PR,QR,Int.reduceBEq,Int.reduceBNe,Int.reduceLT,Int.reduceLE,Int.reduceGT,Int.reduceGE,Int.reduceNeg,d1,d,(cells_of_heap o2).1,(cells_of_heap o3).1,↓n18c1,↓n18c2,↓n18c3,↓n18c4,↓n18c5,↓n18c6,↓n18c7,↓n18c8,↓n18c9]
  exact no _ e0 (fun e=>h2 (by rw [e]))
 have d2:(!decide (x.start=y.start))=false:=by simpa using h2
 by_cases h3:x.msgs.length=y.msgs.length
 case neg =>
  have d:((x.msgs.length:Int) != (y.msgs.length:Int))=true:=by simp;omega
  simp (disch:=try exact DI) only [↓PR,QR,Int.reduceBEq,Int.reduceBNe,Int.reduceLT,Int.reduceLE,Int.reduceGT,Int.reduceGE,Int.reduceNeg,d1,d2,d,(cells_of_heap o2).1,(cells_of_heap o3).1,n18c9]
  exact no _ e0 (fun e=>h3 (by rw [e]))
 have d3:((x.msgs.length:Int) != (y.msgs.length:Int))=false:=by simp;omega
 simp (disch:=try exact DI) only [↓PR,QR,Int.reduceBEq,Int.reduceBNe,Int.reduceLT,Int.reduceLE,Int.reduceGT,Int.reduceGE,Int.reduceNeg,d1,d2,d3,(cells_of_heap o2).1,(cells_of_heap o3).1,n18c9]
 refine loop1_intro (fun i w'=>∃ k:Nat,i = .int .i64 k∧k≤x.msgs.length∧Ext W w'∧∀ j,j < k→x.msgs[j]?=y.msgs[j]?) (fun i _=>x.msgs.length - (intOf i).toNat) ⟨0,rfl,by omega,Ext.refl _,fun j h=>by omega⟩ ?_
 rintro _ w1 ⟨k,rfl,hk,e1,hpre⟩
 have E1:=e0.trans e1
 have x2:=e1.obj o2
 have x3:=e1.obj o3
 unfold n18c8
 rcases drop_cases hk with ⟨a,ha,hd,hlt,hdec⟩ | ⟨hk,hd,hdec⟩
 case inr =>
  simp (disch:=try exact DI) only [↓PR,QR,Int.reduceBEq,Int.reduceBNe,Int.reduceLT,Int.reduceLE,Int.reduceGT,Int.reduceGE,Int.reduceNeg,(cells_of_heap x2).1,hdec]
  refine yes _ E1 ?_
  have hl:x.msgs=y.msgs:=by
   apply List.ext_getElem?
   intro j
   by_cases hj:j < k
   · exact hpre j hj
   · rw [List.getElem?_eq_none (by omega),List.getElem?_eq_none (by omega)]
  obtain ⟨a1,a2,a3⟩:=x
  obtain ⟨b1,b2,b3⟩:=y
  simp only at h1 h2 hl
  subst h1 h2 hl
  rfl
 obtain ⟨b,hb⟩:=getElem?_lt (l:=y.msgs) (k:=k) (by omega)
 obtain ⟨g,o,cs,rfl,hl,hA,fv,rfl,hF⟩:=hel k a ha
 obtain ⟨g',o',cs',rfl,hl',hA',fv',rfl,hF'⟩:=hel' k b hb
 have hlt':k < y.msgs.length:=by omega
 have hf1:=SliceOf.oneCell hF
 have hf1':=SliceOf.oneCell hF'
 simp (disch:=try exact DI) only [↓PR,QR,Int.reduceBEq,Int.reduceBNe,Int.reduceLT,Int.reduceLE,Int.reduceGT,Int.reduceGE,Int.reduceNeg,(cells_of_heap x2).1,hdec]
 have hD:a≠b→x≠y:=fun hne e=>hne (by rw [e] at ha;rw [ha] at hb;exact Option.some.inj hb)
 have main:∀ (w4:World) (p6 p7:Nat),Ext w1 w4→w4.heap[p6]?=some (.cells (msgCells a fv).toArray 45 (0,0))→w4.heap[p7]?=some (.cells (msgCells b fv').toArray 45 (0,0)) →
  n18c4 (.int .i64 (k:Int)) (.pointer (some ⟨p6,0,none⟩)) (.pointer (some ⟨p7,0,none⟩)) (fun a0' w'=>(∃ k:Nat,a0' = .int .i64 k∧k≤x.msgs.length∧Ext W w'∧∀ j,j < k→x.msgs[j]?=y.msgs[j]?)∧x.msgs.length - (intOf a0').toNat < x.msgs.length - (intOf (Value.int .i64 (k:Int))).toNat) R w4:=by
  intro w4 p6 p7 e4 q6 q7
  have E4:=E1.trans e4
  unfold n18c4
  obtain ⟨A2,c2,rfl,hlc2,hcm2,hlm2,hel2⟩:=SliceOf.open hF
  obtain ⟨A3,c3,rfl,hlc3,hcm3,hlm3,hel3⟩:=SliceOf.open hF'
  by_cases m1:a.name=b.name
  case neg =>
   have d:(!decide (a.name=b.name))=true:=by simpa using m1
   simp (disch:=try exact DI) only [↓PR,QR,Int.reduceBEq,Int.reduceBNe,Int.reduceLT,Int.reduceLE,Int.reduceGT,Int.reduceGE,Int.reduceNeg,(cells_of_heap q6).1,(cells_of_heap q7).1,d]
   exact no _ E4 (hD fun e=>m1 (by rw [e]))
  have f1:(!decide (a.name=b.name))=false:=by simpa using m1
  by_cases m2:a.fields.length=b.fields.length
  case neg =>
   have d:((a.fields.length:Int) != (b.fields.length:Int))=true:=by simp;omega
   simp (disch:=try exact DI) only [↓PR,QR,Int.reduceBEq,Int.reduceBNe,Int.reduceLT,Int.reduceLE,Int.reduceGT,Int.reduceGE,Int.reduceNeg,(cells_of_heap q6).1,(cells_of_heap q7).1,f1,d]
   exact no _ E4 (hD fun e=>m2 (by rw [e]))
  have f2:((a.fields.length:Int) != (b.fields.length:Int))=false:=by simp;omega
  simp (disch:=try exact DI) only [↓PR,QR,Int.reduceBEq,Int.reduceBNe,Int.reduceLT,Int.reduceLE,Int.reduceGT,Int.reduceGE,Int.reduceNeg,(cells_of_heap q6).1,(cells_of_heap q7).1,f1,f2]
  refine loop1_intro (fun i w'=>∃ n:Nat,i = .int .i64 n∧n≤a.fields.length∧Ext w4 w'∧∀ j,j < n→a.fields[j]?=b.fields[j]?) (fun i _=>a.fields.length - (intOf i).toNat) ⟨0,rfl,by omega,Ext.refl _,fun j h=>by omega⟩ ?_
  rintro _ w5 ⟨n,rfl,hn,e5,hpre'⟩
  have E5:=E4.trans e5
  have r6:=e5.obj q6
  have r7:=e5.obj q7
  unfold n18c3
  rcases drop_cases hn with ⟨f,hf,hd',hltn,hdecn⟩ | ⟨hn,hd',hdecn⟩
  case inr =>
   simp (disch:=try exact DI) only [↓PR,QR,Int.reduceBEq,Int.reduceBNe,Int.reduceLT,Int.reduceLE,Int.reduceGT,Int.reduceGE,Int.reduceNeg,(cells_of_heap r6).1,hdecn]
   have hl:a.fields=b.fields:=by
    apply List.ext_getElem?
    intro j
    by_cases hj:j < n
    · exact hpre' j hj
    · rw [List.getElem?_eq_none (by omega),List.getElem?_eq_none (by omega)]
   have hab:a=b:=by
    obtain ⟨a1,a2⟩:=a
    obtain ⟨b1,b2⟩:=b
    simp only at m1 hl
    subst m1 hl
    rfl
   refine ⟨⟨k+1,rfl,by omega,e1.trans (e4.trans e5),fun j hj=>?_⟩,meas_lt hlt⟩
   by_cases hjk:j < k
   · exact hpre j hjk
   · have:j=k:=by omega
     subst this
     rw [ha,hb,hab]
  obtain ⟨f',hf'⟩:=getElem?_lt (l:=b.fields) (k:=n) (by omega)
  obtain ⟨g5,o5,cs5,rfl,hl5,hA5,tv,cv,rfl,hT5,hC5⟩:=hel2 n f hf
  obtain ⟨g6,o6,cs6,rfl,hl6,hA6,tv6,cv6,rfl,hT6,hC6⟩:=hel3 n f' hf'
  have hltn':n < b.fields.length:=by omega
  simp (disch:=try exact DI) only [↓PR,QR,Int.reduceBEq,Int.reduceBNe,Int.reduceLT,Int.reduceLE,Int.reduceGT,Int.reduceGE,Int.reduceNeg,(cells_of_heap r6).1,hdecn]
  refine drawK_intro ?_
  unfold n18c2
  simp (disch:=try exact DI) only [↓PR,QR,Int.reduceBEq,Int.reduceBNe,Int.reduceLT,Int.reduceLE,Int.reduceGT,Int.reduceGE,Int.reduceNeg,(cells_of_heap r6).1,(cells_of_heap r7).1,hA5.c15 E5,hA6.c15 E5]
  have eD:Ext w5 w5.drew:=(Ext.refl w5).wdrew
  have ED:=E5.trans eD
  refine zcr (rSameField_ret _ _ _ f f' ⟨tv,cv,rfl,TermsOf.ext hT5 ED,CasesOf.ext hC5 ED⟩ ⟨tv6,cv6,rfl,TermsOf.ext hT6 ED,CasesOf.ext hC6 ED⟩) fun w6 e6=>?_
  unfold n18c1
  refine ⟨e6,?_⟩
  by_cases hff:f=f'
  · rw [decide_eq_true hff]
    simp (disch:=try exact DI) only [↓PR,QR,Int.reduceBEq,Int.reduceBNe,Int.reduceLT,Int.reduceLE,Int.reduceGT,Int.reduceGE,Int.reduceNeg]
    refine ⟨⟨n+1,rfl,by omega,e5.trans (eD.trans e6),fun j hj=>?_⟩,meas_lt hltn⟩
    by_cases hjn:j < n
    · exact hpre' j hjn
    · have:j=n:=by omega
      subst this
      rw [hf,hf',hff]
  · rw [decide_eq_false hff]
    simp (disch:=try exact DI) only [↓PR,QR,Int.reduceBEq,Int.reduceBNe,Int.reduceLT,Int.reduceLE,Int.reduceGT,Int.reduceGE,Int.reduceNeg]
    refine no _ (ED.trans e6) (hD fun e=>hff ?_)
    rw [e,hf'] at hf
    exact (Option.some.inj hf).symm
 refine drawK_intro ?_
 unfold n18c7
 simp (disch:=try exact DI) only [↓PR,QR,Int.reduceBEq,Int.reduceBNe,Int.reduceLT,Int.reduceLE,Int.reduceGT,Int.reduceGE,Int.reduceNeg,(cells_of_heap x2).1,(cells_of_heap x3).1,(hA.c2 E1).1,(hA.c2 E1).2,(hA'.c2 E1).1,(hA'.c2 E1).2]
 refine ⟨?_,?_⟩
 · refine ⟨ee,?_⟩
   unfold n18c5
   simp (disch:=try exact DI) only [↓PR,QR,Int.reduceBEq,Int.reduceBNe,Int.reduceLT,Int.reduceLE,Int.reduceGT,Int.reduceGE,Int.reduceNeg]
   refine ⟨ee,ee,turnK_intro ?_⟩
   simp only [World.size_alloc,World.size_drew]
   have q6:=((Ext.refl (w1.drew.alloc (Obj.cells (msgCells a fv).toArray 45))).alloc (Obj.cells (msgCells b fv').toArray 45)).obj (heap_new w1.drew _ _)
   have q7:=heap_new (w1.drew.alloc (Obj.cells (msgCells a fv).toArray 45)) (msgCells b fv').toArray 45
   rw [World.size_alloc,World.size_drew] at q7
   exact main _ _ _ ee q6 q7
 · refine ⟨ee,?_⟩
   unfold n18c6
   simp (disch:=try exact DI) only [↓PR,QR,Int.reduceBEq,Int.reduceBNe,Int.reduceLT,Int.reduceLE,Int.reduceGT,Int.reduceGE,Int.reduceNeg]
   refine ⟨ee,ee,turnK_intro ?_⟩
   simp only [World.size_alloc,World.size_drew]
   have q7:=((Ext.refl (w1.drew.alloc (Obj.cells (msgCells b fv').toArray 45))).alloc (Obj.cells (msgCells a fv).toArray 45)).obj (heap_new w1.drew _ _)
   have q6:=heap_new (w1.drew.alloc (Obj.cells (msgCells b fv').toArray 45)) (msgCells a fv).toArray 45
   rw [World.size_alloc,World.size_drew] at q6
   exact main _ _ _ ee q6 q7
end Go.Proofs.YtiajhbbmgglmlaaGreat
namespace Go.Proofs.YtiajhbbmgglmlaaGreat
open Sw
open Go.RowKit (intOf Below)
theorem rName_ret (w0:World) (s:ByteArray):Ret Pg 32 #[.string s] w0 fun r w'=>r = .bool (nameB s)∧Ext w0 w':=by
 have hsz:s.data.toList.length=s.size:=by rw [Array.length_toList];rfl
 refine n11s (R:=retR _) ?_;unfold n11
 by_cases h1:1≤s.size
 · have d1:decide ((s.size:Int) < 1)=false:=by simp;omega
   by_cases h2:s.size≤32
   · have d2:decide ((s.size:Int) > 32)=false:=by simp;omega
     simp (disch:=try exact DI) only [↓PR,QR,Int.reduceBEq,Int.reduceBNe,Int.reduceLT,Int.reduceLE,Int.reduceGT,Int.reduceGE,Int.reduceNeg,d1,d2]
     unfold n11c4
     have hd:nameB s=((match s.data.toList with | []=>false | c::_=>letterB c)&&s.data.toList.all wordB):=by
      unfold nameB
      rw [show decide (1≤(s.size:Int))=true by simp;omega,show decide ((s.size:Int)≤32)=true by simp;omega]
      rfl
     rw [hd]
     clear hd
     obtain ⟨c,cs,hcs⟩:∃ c cs,s.data.toList=c::cs:=by
      cases hd:s.data.toList with
      | nil=>rw [hd] at hsz;simp at hsz;omega
      | cons c cs=>exact ⟨c,cs,rfl⟩
     simp (disch:=try exact DI) only [↓PR,QR,Int.reduceBEq,Int.reduceBNe,Int.reduceLT,Int.reduceLE,Int.reduceGT,Int.reduceGE,Int.reduceNeg]
     rw [op_indexS0 Tryz.underlying9 s .i64 (b:=c) (by rw [hcs];rfl)]
     refine callK_ret (rletter_ret _ c) ?_
     rintro r w1 ⟨rfl,e⟩
     rw [show (match s.data.toList with | []=>false | c::_=>letterB c)=letterB c by rw [hcs]]
     cases hl:letterB c with
     | false =>
      simp (disch:=try exact DI) only [↓PR,QR,Int.reduceBEq,Int.reduceBNe,Int.reduceLT,Int.reduceLE,Int.reduceGT,Int.reduceGE,Int.reduceNeg]
      exact ⟨by trivial,e⟩
     | true =>
      simp (disch:=try exact DI) only [↓PR,QR,Int.reduceBEq,Int.reduceBNe,Int.reduceLT,Int.reduceLE,Int.reduceGT,Int.reduceGE,Int.reduceNeg]
      clear hl hcs
      refine loop1_intro (fun i w'=>∃ k:Nat,i = .int .i64 k∧k≤s.data.toList.length∧Ext w0 w'∧(s.data.toList.drop k).all wordB=s.data.toList.all wordB) (fun i _=>s.data.toList.length - (intOf i).toNat) ⟨0,rfl,by omega,e,rfl⟩ ?_
      rintro _ w2 ⟨k,rfl,hk,e2,hI⟩
      rcases drop_cases hk with ⟨x,hx,hd,hlt,hdec⟩ | ⟨hk,hd,hdec⟩
      · rw [hsz] at hdec
        have hidx:∀ (R:List PanicEntry→World→Prop) (w:World) (K:Value→World→Prop),opV Pg (Instr.index 9 (.string s) (.int .i64 (k:Int))) R w K=K (.int .u8 (x.toNat:Int)) w:=fun R w K=>op_indexS Tryz.underlying9 s .i64 k hx
        have hnext:wordB x=true→∀ w',Ext w0 w'→(∃ k':Nat,Value.int .i64 ((k+1:Nat):Int) = .int .i64 k'∧k'≤s.data.toList.length∧Ext w0 w'∧(s.data.toList.drop k').all wordB=s.data.toList.all wordB)∧s.data.toList.length - (intOf (Value.int .i64 ((k+1:Nat):Int))).toNat < s.data.toList.length - (intOf (Value.int .i64 (k:Int))).toNat:=by
         intro hx1 w' e'
         refine ⟨⟨k+1,rfl,hlt,e',?_⟩,?_⟩
         · rw [← hI,hd];simp [hx1]
         · show s.data.toList.length - (((k+1:Nat):Int)).toNat < s.data.toList.length - ((k:Int)).toNat
           omega
        have hstop:wordB x=false→s.data.toList.all wordB=false:=by
         intro hx1
         rw [← hI,hd];simp [hx1]
        unfold n11c3
        simp (disch:=try exact DI) only [↓PR,QR,Int.reduceBEq,Int.reduceBNe,Int.reduceLT,Int.reduceLE,Int.reduceGT,Int.reduceGE,Int.reduceNeg,hdec]
        rw [hidx]
        refine callK_ret (rletter_ret _ x) ?_
        rintro r w3 ⟨rfl,e3⟩
        have e4:=e2.trans e3
        unfold n11c2
        cases hl:letterB x with
        | true =>
         simp (disch:=try exact DI) only [↓PR,QR,Int.reduceBEq,Int.reduceBNe,Int.reduceLT,Int.reduceLE,Int.reduceGT,Int.reduceGE,Int.reduceNeg,n11c1]
         exact hnext (by unfold wordB;rw [hl];rfl) _ e4
        | false =>
         simp (disch:=try exact DI) only [↓PR,QR,Int.reduceBEq,Int.reduceBNe,Int.reduceLT,Int.reduceLE,Int.reduceGT,Int.reduceGE,Int.reduceNeg]
         rw [hidx]
         refine callK_ret (rdigit_ret _ x) ?_
         rintro r w5 ⟨rfl,e5⟩
         have e6:=e4.trans e5
         unfold n11c1
         cases hg:digitB x with
         | true =>
          simp (disch:=try exact DI) only [↓PR,QR,Int.reduceBEq,Int.reduceBNe,Int.reduceLT,Int.reduceLE,Int.reduceGT,Int.reduceGE,Int.reduceNeg]
          exact hnext (by unfold wordB;rw [hl,hg];rfl) _ e6
         | false =>
          simp (disch:=try exact DI) only [↓PR,QR,Int.reduceBEq,Int.reduceBNe,Int.reduceLT,Int.reduceLE,Int.reduceGT,Int.reduceGE,Int.reduceNeg]
          rw [hidx]
          cases hu:((x.toNat:Int) == 95) with
          | true =>
           have hu':((x.toNat:Int) != 95)=false:=by rw [bne,hu];rfl
           simp (disch:=try exact DI) only [↓PR,QR,Int.reduceBEq,Int.reduceBNe,Int.reduceLT,Int.reduceLE,Int.reduceGT,Int.reduceGE,Int.reduceNeg,hu']
           exact hnext (by unfold wordB;rw [hl,hg,hu];rfl) _ e6
          | false =>
           have hu':((x.toNat:Int) != 95)=true:=by rw [bne,hu];rfl
           simp (disch:=try exact DI) only [↓PR,QR,Int.reduceBEq,Int.reduceBNe,Int.reduceLT,Int.reduceLE,Int.reduceGT,Int.reduceGE,Int.reduceNeg,hu']
           exact ⟨by rw [hstop (by unfold wordB;rw [hl,hg,hu];rfl)],e6⟩
      · rw [hsz] at hdec hk
        unfold n11c3
        simp (disch:=try exact DI) only [↓PR,QR,Int.reduceBEq,Int.reduceBNe,Int.reduceLT,Int.reduceLE,Int.reduceGT,Int.reduceGE,Int.reduceNeg,hdec]
        refine ⟨?_,e2⟩
        rw [← hI,hd]
        rfl
   · have d2:decide ((s.size:Int) > 32)=true:=by simp;omega
     simp (disch:=try exact DI) only [↓PR,QR,Int.reduceBEq,Int.reduceBNe,Int.reduceLT,Int.reduceLE,Int.reduceGT,Int.reduceGE,Int.reduceNeg,d1,d2]
     unfold n11c4
     simp (disch:=try exact DI) only [↓PR,QR,Int.reduceBEq,Int.reduceBNe,Int.reduceLT,Int.reduceLE,Int.reduceGT,Int.reduceGE,Int.reduceNeg]
     refine ⟨?_,Ext.refl _⟩
     unfold nameB
     rw [show decide ((s.size:Int)≤32)=false by simp;omega]
     simp
 · have d1:decide ((s.size:Int) < 1)=true:=by simp;omega
   simp (disch:=try exact DI) only [↓PR,QR,Int.reduceBEq,Int.reduceBNe,Int.reduceLT,Int.reduceLE,Int.reduceGT,Int.reduceGE,Int.reduceNeg,d1]
   unfold n11c4
   simp (disch:=try exact DI) only [↓PR,QR,Int.reduceBEq,Int.reduceBNe,Int.reduceLT,Int.reduceLE,Int.reduceGT,Int.reduceGE,Int.reduceNeg]
   refine ⟨?_,Ext.refl _⟩
   unfold nameB
   rw [show decide (1≤(s.size:Int))=false by simp;omega]
   simp
end Go.Proofs.YtiajhbbmgglmlaaGreat
namespace Go.Proofs.YtiajhbbmgglmlaaGreat
open Sw
open Go.RowKit (intOf Below)
theorem rsmall_ret (w0:World) (v:Int):Ret Pg 109 #[.int .i64 v] w0 fun r w'=>r = .bool (smallB v)∧Ext w0 w':=by
 refine n16s (R:=retR _) ?_;unfold n16
 unfold smallB
 by_cases h : -1048576≤v
 · have d1:decide (v ≥ -1048576)=true:=by simpa using h
   simp (disch:=try exact DI) only [↓PR,QR,Int.reduceBEq,Int.reduceBNe,Int.reduceLT,Int.reduceLE,Int.reduceGT,Int.reduceGE,Int.reduceNeg,d1]
   exact ⟨by simp [h],Ext.refl _⟩
 · have d1:decide (v ≥ -1048576)=false:=by simpa using h
   simp (disch:=try exact DI) only [↓PR,QR,Int.reduceBEq,Int.reduceBNe,Int.reduceLT,Int.reduceLE,Int.reduceGT,Int.reduceGE,Int.reduceNeg,d1]
   exact ⟨by simp [h],Ext.refl _⟩
theorem rSizeValid_ret (w0:World) (v:Value) (base:Int) (ts:List TermD) (hs:SizeVal w0 v base ts):Ret Pg 73 #[v] w0 fun r w'=>r = .bool (sizeB base ts)∧Ext w0 w':=by
 obtain ⟨tv,rfl,hT⟩:=hs
 obtain ⟨A,c,rfl,hlc,hcm,hlm,hel⟩:=SliceOf.open hT
 refine n13s (R:=retR _) ?_;unfold n13
 simp (disch:=try exact DI) only [↓PR,QR,Int.reduceBEq,Int.reduceBNe,Int.reduceLT,Int.reduceLE,Int.reduceGT,Int.reduceGE,Int.reduceNeg]
 have hBW:=ElemAt.new (w:=w0) ([.int .i64 base,.slice A ts.length c]) (49)
 have eW:Ext w0 (w0.alloc (Obj.cells (List.toArray ([.int .i64 base,.slice A ts.length c])) (49))):=(Ext.refl _).alloc _
 generalize (w0.alloc (Obj.cells (List.toArray ([.int .i64 base,.slice A ts.length c])) (49)))=W at hBW eW ⊢
 refine zcr (rsmall_ret _ base) fun w1 e1=>?_
 have E1:=eW.trans e1
 unfold n13c7
 cases hb:smallB base with
 | false =>
  simp (disch:=try exact DI) only [↓PR,QR,Int.reduceBEq,Int.reduceBNe,Int.reduceLT,Int.reduceLE,Int.reduceGT,Int.reduceGE,Int.reduceNeg]
  exact ⟨by unfold sizeB;rw [hb];rfl,E1⟩
 | true =>
 by_cases h4:ts.length≤4
 · have d4:decide ((ts.length:Int) > 4)=false:=by simp;omega
   simp (disch:=try exact DI) only [↓PR,QR,Int.reduceBEq,Int.reduceBNe,Int.reduceLT,Int.reduceLE,Int.reduceGT,Int.reduceGE,Int.reduceNeg,hBW.c2,d4]
   have hsz:sizeB base ts=termsB [] ts:=by unfold sizeB;rw [hb];simp [h4]
   rw [hsz]
   have hbad:∀ {k x},ts[k]?=some x→(memB ((ts.take k).map (·.field)) x.field||!termB x)=true→termsB [] ts=false:=by
    intro k x hx hm
    cases ht:termsB [] ts with
    | false=>rfl
    | true=>have:=(termsB_iff ts []).1 ht k x hx;rw [List.nil_append,hm] at this;cases this
   refine loop1_intro (fun a0 w=>∃ (k:Nat) , a0 = .int .i64 (k:Int)∧k≤ts.length∧Ext w1 w∧∀ j x,j < k→ts[j]?=some x→(memB ((ts.take j).map (·.field)) x.field||!termB x)=false) (fun a0 _=>ts.length - (intOf a0).toNat) ⟨0,rfl,Nat.zero_le _,ee,by intro j x h;omega⟩ ?_
   rintro _ w ⟨k,rfl,hk,e,hI⟩
   have se:=e.size
   rcases drop_cases hk with ⟨x,hx,hd,hlt,hdec⟩ | ⟨hk,hd,hdec⟩
   · obtain ⟨b,o,cs,rfl,hl,hA,rfl⟩:=hel k x hx
     have E:=E1.trans e
     have f:=e1.trans e
     unfold n13c6
     simp (disch:=try exact DI) only [↓PR,QR,Int.reduceBEq,Int.reduceBNe,Int.reduceLT,Int.reduceLE,Int.reduceGT,Int.reduceGE,Int.reduceNeg,hBW.c2,hdec]
     unfold n13c5
     simp (disch:=try exact DI) only [↓PR,QR,Int.reduceBEq,Int.reduceBNe,Int.reduceLT,Int.reduceLE,Int.reduceGT,Int.reduceGE,Int.reduceNeg,hBW.c2,(hA.c2 E).1]
     refine zcr (rName_ret _ x.field) fun w2 e2=>?_
     have E2:=E.trans e2
     have f2:=f.trans e2
     unfold n13c4
     cases hn:nameB x.field with
     | false =>
      simp (disch:=try exact DI) only [↓PR,QR,Int.reduceBEq,Int.reduceBNe,Int.reduceLT,Int.reduceLE,Int.reduceGT,Int.reduceGE,Int.reduceNeg]
      unfold n13c3
      simp (disch:=try exact DI) only [↓PR,QR,Int.reduceBEq,Int.reduceBNe,Int.reduceLT,Int.reduceLE,Int.reduceGT,Int.reduceGE,Int.reduceNeg]
      exact ⟨by rw [hbad hx (by unfold termB;rw [hn];simp)],E2⟩
     | true =>
     by_cases hf:x.factor=0
     · have d1:(x.factor == 0)=true:=by simpa using hf
       simp (disch:=try exact DI) only [↓PR,QR,Int.reduceBEq,Int.reduceBNe,Int.reduceLT,Int.reduceLE,Int.reduceGT,Int.reduceGE,Int.reduceNeg,hBW.c2,(hA.c2 E2).2,d1]
       unfold n13c3
       simp (disch:=try exact DI) only [↓PR,QR,Int.reduceBEq,Int.reduceBNe,Int.reduceLT,Int.reduceLE,Int.reduceGT,Int.reduceGE,Int.reduceNeg]
       exact ⟨by rw [hbad hx (by unfold termB;rw [hf];simp)],E2⟩
     have d1:(x.factor == 0)=false:=by simpa using hf
     simp (disch:=try exact DI) only [↓PR,QR,Int.reduceBEq,Int.reduceBNe,Int.reduceLT,Int.reduceLE,Int.reduceGT,Int.reduceGE,Int.reduceNeg,hBW.c2,(hA.c2 E2).2,d1]
     unfold n13c3
     simp (disch:=try exact DI) only [↓PR,QR,Int.reduceBEq,Int.reduceBNe,Int.reduceLT,Int.reduceLE,Int.reduceGT,Int.reduceGE,Int.reduceNeg,hBW.c2,(hA.c2 E2).2]
     refine zcr (rsmall_ret _ x.factor) fun w3 e3=>?_
     have E3:=E2.trans e3
     have f3:=f2.trans e3
     cases hsm:smallB x.factor with
     | false =>
      simp (disch:=try exact DI) only [↓PR,QR,Int.reduceBEq,Int.reduceBNe,Int.reduceLT,Int.reduceLE,Int.reduceGT,Int.reduceGE,Int.reduceNeg]
      exact ⟨by rw [hbad hx (by unfold termB;rw [hsm];simp)],E3⟩
     | true =>
     have hterm:termB x=true:=by unfold termB;rw [hn,hsm,bne,d1];rfl
     simp (disch:=try exact DI) only [↓PR,QR,Int.reduceBEq,Int.reduceBNe,Int.reduceLT,Int.reduceLE,Int.reduceGT,Int.reduceGE,Int.reduceNeg]
     refine loop1_intro (fun i w'=>∃ j:Nat,i = .int .i64 j∧j≤k∧Ext w3 w'∧∀ i y,i < j→ts[i]?=some y→y.field≠x.field) (fun i _=>k - (intOf i).toNat) ⟨0,rfl,by omega,Ext.refl _,by intro i y h;omega⟩ ?_
     rintro _ w4 ⟨j,rfl,hj,e4,hI4⟩
     have E4:=E3.trans e4
     have f4:=f3.trans e4
     unfold n13c2
     by_cases hjk:j < k
     · have d2:decide ((j:Int) < (k:Int))=true:=by simp;omega
       obtain ⟨y,hy⟩:=getElem?_lt (l:=ts) (k:=j) (by omega)
       obtain ⟨b',o',cs',hA',_,hB,rfl⟩:=hel j y hy
       injection hA' with hA'
       injection hA' with hb1 ho1 _
       subst hb1 ho1
       have hjl:(j:Int) < (ts.length:Int):=by omega
       have hkl:(k:Int) < (ts.length:Int):=by omega
       simp (disch:=try exact DI) only [↓PR,QR,Int.reduceBEq,Int.reduceBNe,Int.reduceLT,Int.reduceLE,Int.reduceGT,Int.reduceGE,Int.reduceNeg,d2]
       refine drawK_intro ?_
       unfold n13c1
       simp (disch:=try exact DI) only [↓PR,QR,Int.reduceBEq,Int.reduceBNe,Int.reduceLT,Int.reduceLE,Int.reduceGT,Int.reduceGE,Int.reduceNeg,hBW.c2,(hA.c2 E4).1,(hB.c2 E4).1]
       by_cases hxy:y.field=x.field
       · rw [show decide (y.field=x.field)=true by simp [hxy]]
         simp (disch:=try exact DI) only [↓PR,QR,Int.reduceBEq,Int.reduceBNe,Int.reduceLT,Int.reduceLE,Int.reduceGT,Int.reduceGE,Int.reduceNeg]
         refine ⟨?_,ee⟩
         rw [hbad hx]
         rw [show memB ((ts.take k).map (·.field)) x.field=true from ?_]
         · rfl
         unfold memB
         rw [List.any_eq_true]
         exact ⟨y.field,List.mem_map.2 ⟨y,List.mem_of_getElem? (i:=j) (by rw [List.getElem?_take,if_pos hjk];exact hy),rfl⟩,by simp [hxy]⟩
       · rw [show decide (y.field=x.field)=false by simp [hxy]]
         simp (disch:=try exact DI) only [↓PR,QR,Int.reduceBEq,Int.reduceBNe,Int.reduceLT,Int.reduceLE,Int.reduceGT,Int.reduceGE,Int.reduceNeg]
         refine ⟨⟨j+1,rfl,by omega,ee,fun i z hi hz=>?_⟩,meas_lt hjk⟩
         by_cases hij:i=j
         · subst hij;rw [hy] at hz;injection hz with hz;subst hz;exact hxy
         · exact hI4 i z (by omega) hz
     · have d2:decide ((j:Int) < (k:Int))=false:=by simp;omega
       have hjk':j=k:=by omega
       subst hjk'
       simp (disch:=try exact DI) only [↓PR,QR,Int.reduceBEq,Int.reduceBNe,Int.reduceLT,Int.reduceLE,Int.reduceGT,Int.reduceGE,Int.reduceNeg,d2]
       have hmem:memB ((ts.take j).map (·.field)) x.field=false:=by
        unfold memB
        rw [List.any_eq_false]
        intro s hs
        obtain ⟨y,hy,rfl⟩:=List.mem_map.1 hs
        obtain ⟨i,hi⟩:=List.getElem?_of_mem hy
        rw [List.getElem?_take] at hi
        split at hi
        · simpa using hI4 i y (by assumption) hi
        · cases hi
       refine ⟨⟨j+1,rfl,by omega,e.trans (e2.trans (e3.trans e4)),fun i z hi hz=>?_⟩,meas_lt hlt⟩
       by_cases hij:i=j
       · subst hij;rw [hx] at hz;injection hz with hz;subst hz;rw [hmem,hterm];rfl
       · exact hI i z (by omega) hz
   · subst hk
     have f:=e1.trans e
     unfold n13c6
     simp (disch:=try exact DI) only [↓PR,QR,Int.reduceBEq,Int.reduceBNe,Int.reduceLT,Int.reduceLE,Int.reduceGT,Int.reduceGE,Int.reduceNeg,hBW.c2,hdec]
     refine ⟨?_,E1.trans e⟩
     rw [(termsB_iff ts []).2 (fun j x hx=>by rw [List.nil_append];exact hI j x (List.getElem?_eq_some_iff.1 hx).1 hx)]
 · have d4:decide ((ts.length:Int) > 4)=true:=by simp;omega
   simp (disch:=try exact DI) only [↓PR,QR,Int.reduceBEq,Int.reduceBNe,Int.reduceLT,Int.reduceLE,Int.reduceGT,Int.reduceGE,Int.reduceNeg,hBW.c2,d4]
   refine ⟨?_,E1⟩
   unfold sizeB
   simp [h4]
end Go.Proofs.YtiajhbbmgglmlaaGreat
namespace Go.Proofs.YtiajhbbmgglmlaaGreat
open Sw
open Go.RowKit (intOf Below)
def sumT (f:TermD→Int):List TermD→Int
 | []=>0
 | t::ts=>t.factor*f t+sumT f ts
def rngT (rp:List (ByteArray×Int×Int)) (t:TermD):Int×Int:=(lastR rp t.field).getD (0,0)
def mixT (rp:List (ByteArray×Int×Int)) (mix i:Nat) (t:TermD):Int:=if mix / 2 ^ i % 2=1 then (rngT rp t).2 else (rngT rp t).1
def mixS (rp:List (ByteArray×Int×Int)) (mix:Nat):Nat→List TermD→Int
 | _,[]=>0
 | i,t::ts=>t.factor*mixT rp mix i t+mixS rp mix (i+1) ts
section
variable {rp:List (ByteArray×Int×Int)}
theorem mixS_choice (b:TermD→Bool):∀ ts:List TermD,∃ mix:Nat,mix < 2 ^ ts.length∧∀ i r:Nat,r < 2 ^ i→mixS rp (mix*2 ^ i+r) i ts=sumT (fun t=>if b t then (rngT rp t).2 else (rngT rp t).1) ts
 | []=>⟨0,by simp,fun i r _=>rfl⟩
 | t::ts=>by
  obtain ⟨mix,h1,h2⟩:=mixS_choice b ts
  refine ⟨mix*2+(if b t then 1 else 0),?_,fun i r hr=>?_⟩
  · rw [List.length_cons,Nat.pow_succ]
    split<;>omega
  · have hd:((mix*2+(if b t then 1 else 0))*2 ^ i+r) / 2 ^ i=mix*2+(if b t then 1 else 0):=by
     rw [Nat.mul_comm _ (2 ^ i),Nat.mul_add_div (Nat.two_pow_pos i),Nat.div_eq_of_lt hr,Nat.add_zero]
    have hm:(mix*2+(if b t then 1 else 0)) % 2=if b t then 1 else 0:=by split<;>omega
    have he:(mix*2+(if b t then 1 else 0))*2 ^ i+r=mix*2 ^ (i+1)+((if b t then 1 else 0)*2 ^ i+r):=by
     rw [Nat.add_mul,Nat.pow_succ,Nat.mul_assoc,Nat.mul_comm 2 (2 ^ i)];omega
    have hr':(if b t then 1 else 0)*2 ^ i+r < 2 ^ (i+1):=by
     rw [Nat.pow_succ];split<;>omega
    simp only [mixS,sumT]
    have h3:=h2 (i+1) _ hr'
    rw [← he] at h3
    rw [h3]
    unfold mixT
    rw [hd,hm]
    cases b t<;>rfl
theorem mixS_le {ts:List TermD} {f g:TermD→Int} (hf:∀ t∈ts,t.factor*f t≤t.factor*(rngT rp t).1∧t.factor*f t≤t.factor*(rngT rp t).2) (hg:∀ t∈ts,t.factor*(rngT rp t).1≤t.factor*g t∧t.factor*(rngT rp t).2≤t.factor*g t) (mix:Nat):∀ i,sumT f ts≤mixS rp mix i ts∧mixS rp mix i ts≤sumT g ts:=by
 induction ts with
 | nil=>intro i;exact ⟨Int.le_refl _,Int.le_refl _⟩
 | cons t ts ih =>
  intro i
  have h1:=hf t List.mem_cons_self
  have h2:=hg t List.mem_cons_self
  have h3:=ih (fun t ht=>hf t (List.mem_cons_of_mem _ ht)) (fun t ht=>hg t (List.mem_cons_of_mem _ ht)) (i+1)
  simp only [sumT,mixS]
  unfold mixT
  split<;>omega
theorem sumT_congr {ts:List TermD} {f g:TermD→Int} (h:∀ t∈ts,f t=g t):sumT f ts=sumT g ts:=by
 induction ts with
 | nil=>rfl
 | cons t ts ih =>
  simp only [sumT]
  rw [h t List.mem_cons_self,ih (fun t ht=>h t (List.mem_cons_of_mem _ ht))]
theorem mul_bound {a b:Int} (h1 : -1048576≤a) (h2:a≤1048576) (h3:0≤b) (h4:b≤34359738368) : -36028797018963968≤a*b∧a*b≤36028797018963968:=by
 have a1:a*b≤1048576*b:=Int.mul_le_mul_of_nonneg_right h2 h3
 have a2 : -1048576*b≤a*b:=Int.mul_le_mul_of_nonneg_right h1 h3
 omega
def Small4 (rp:List (ByteArray×Int×Int)) (t:TermD):Prop := -1048576≤t.factor∧t.factor≤1048576∧0≤(rngT rp t).1∧(rngT rp t).1≤(rngT rp t).2∧(rngT rp t).2≤34359738368
theorem numW_sum {f:TermD→Int}:∀ (ts:List TermD) (n:Int),(∀ t∈ts,-36028797018963968≤t.factor*f t∧t.factor*f t≤36028797018963968) → -4611686018427387904≤n - ts.length*36028797018963968→n+ts.length*36028797018963968≤4611686018427387904→numW n f ts=n+sumT f ts
 | [],n,_,_,_=>by simp [numW,sumT]
 | t::ts,n,h,h1,h2=>by
  have h3:=h t List.mem_cons_self
  simp only [List.length_cons] at h1 h2
  have e1:IntKind.i64.wrap (t.factor*f t)=t.factor*f t:=wrap_ok (by omega) (by omega)
  have e2:IntKind.i64.wrap (n+t.factor*f t)=n+t.factor*f t:=wrap_ok (by omega) (by omega)
  have ih:=numW_sum (f:=f) ts (n+t.factor*f t) (fun t ht=>h t (List.mem_cons_of_mem _ ht)) (by omega) (by omega)
  simp only [numW,List.foldl_cons,sumT] at ih ⊢
  rw [e1,e2,ih]
  omega
theorem endF_rng {t:TermD} (h:(lastR rp t.field).isSome=true) (least:Bool):endF rp least t=if least == decide (t.factor > 0) then (rngT rp t).1 else (rngT rp t).2:=by
 unfold endF rngT
 obtain ⟨q,hq⟩:=Option.isSome_iff_exists.1 h
 rw [hq]
 rfl
theorem end_le {t:TermD} (h:(lastR rp t.field).isSome=true) (hs:Small4 rp t):t.factor*endF rp true t≤t.factor*(rngT rp t).1∧t.factor*endF rp true t≤t.factor*(rngT rp t).2:=by
 rw [endF_rng h]
 by_cases hp:t.factor > 0
 · have:t.factor*(rngT rp t).1≤t.factor*(rngT rp t).2:=Int.mul_le_mul_of_nonneg_left hs.2.2.2.1 (by omega)
   simp only [hp,decide_true,BEq.rfl,if_true]
   omega
 · have:t.factor*(rngT rp t).2≤t.factor*(rngT rp t).1:=Int.mul_le_mul_of_nonpos_left (by omega) hs.2.2.2.1
   rw [show (true == decide (t.factor > 0))=false by simp [hp],if_neg (by decide)]
   omega
theorem end_ge {t:TermD} (h:(lastR rp t.field).isSome=true) (hs:Small4 rp t):t.factor*(rngT rp t).1≤t.factor*endF rp false t∧t.factor*(rngT rp t).2≤t.factor*endF rp false t:=by
 rw [endF_rng h]
 by_cases hp:t.factor > 0
 · have:t.factor*(rngT rp t).1≤t.factor*(rngT rp t).2:=Int.mul_le_mul_of_nonneg_left hs.2.2.2.1 (by omega)
   rw [show (false == decide (t.factor > 0))=false by simp [hp],if_neg (by decide)]
   omega
 · have:t.factor*(rngT rp t).2≤t.factor*(rngT rp t).1:=Int.mul_le_mul_of_nonpos_left (by omega) hs.2.2.2.1
   rw [show (false == decide (t.factor > 0))=true by simp [hp],if_pos rfl]
   omega
theorem end_in {t:TermD} (h:(lastR rp t.field).isSome=true) (hs:Small4 rp t) (least:Bool) : -36028797018963968≤t.factor*endF rp least t∧t.factor*endF rp least t≤36028797018963968:=by
 obtain ⟨h1,h2,h3,h4,h5⟩:=hs
 rw [endF_rng h]
 split
 · exact mul_bound h1 h2 h3 (by omega)
 · exact mul_bound h1 h2 (by omega) h5
theorem mix_least {ts:List TermD} (h:∀ t∈ts,(lastR rp t.field).isSome=true∧Small4 rp t):(∀ mix,sumT (endF rp true) ts≤mixS rp mix 0 ts∧mixS rp mix 0 ts≤sumT (endF rp false) ts)∧(∃ mix,mix < 2 ^ ts.length∧mixS rp mix 0 ts=sumT (endF rp true) ts)∧(∃ mix,mix < 2 ^ ts.length∧mixS rp mix 0 ts=sumT (endF rp false) ts):=by
 refine ⟨fun mix=>mixS_le (fun t ht=>end_le (h t ht).1 (h t ht).2) (fun t ht=>end_ge (h t ht).1 (h t ht).2) mix 0,?_,?_⟩
 · obtain ⟨mix,h1,h2⟩:=mixS_choice (rp:=rp) (fun t=>!(true == decide (t.factor > 0))) ts
   refine ⟨mix,h1,?_⟩
   have:=h2 0 0 (by decide)
   rw [Nat.pow_zero,Nat.mul_one,Nat.add_zero] at this
   rw [this]
   refine sumT_congr fun t ht=>?_
   rw [endF_rng (h t ht).1]
   cases (true == decide (t.factor > 0))<;>rfl
 · obtain ⟨mix,h1,h2⟩:=mixS_choice (rp:=rp) (fun t=>!(false == decide (t.factor > 0))) ts
   refine ⟨mix,h1,?_⟩
   have:=h2 0 0 (by decide)
   rw [Nat.pow_zero,Nat.mul_one,Nat.add_zero] at this
   rw [this]
   refine sumT_congr fun t ht=>?_
   rw [endF_rng (h t ht).1]
   cases (false == decide (t.factor > 0))<;>rfl
end
theorem op_shr {P:Program} {QP:List PanicEntry→World→Prop} {w:World} {k:Value→World→Prop} (t:TypeId) (c:Bool) (x:Nat) (yk:IntKind) (y:Nat) (h1:y≤64):opV P (binS .shr t c (.int .i64 (x:Int)) (.int yk (y:Int))) QP w k=k (.int .i64 ((x / 2 ^ y:Nat):Int)) w:=opV_ok (by
 have h0:(0:Int)≤(y:Int):=by omega
 have h2:(y:Int)≤64:=by omega
 have h3:(x:Int).fdiv (2 ^ y)=((x / 2 ^ y:Nat):Int):=by
  rw [Int.fdiv_eq_ediv_of_nonneg _ (by exact Int.le_of_lt (Int.pow_pos (by decide)))]
  simp
 simp [binS,go_sem,h0,h2,h3])
abbrev ranCells (p:ByteArray×Int×Int):List Value:=[.string p.1,.int .i64 p.2.1,.int .i64 p.2.2]
def ERan (_:World) (cs:List Value) (p:ByteArray×Int×Int):Prop:=cs=ranCells p
theorem keptRan:Kept ERan:=fun _ _ _ _ _ h=>h
def RansOf (w:World) (v:Value) (l:List (ByteArray×Int×Int)):Prop:=SliceOf w 3 ERan v l
theorem RansOf.ext {w w':World} {v:Value} {l:List (ByteArray×Int×Int)} (h:RansOf w v l) (e:Ext w w'):RansOf w' v l:=SliceOf.ext keptRan h e
def LastAt (rp:List (ByteArray×Int×Int)) (s:ByteArray) (a:Int):Prop:=(a = -1∧lastR rp s=none)∨∃ (j:Nat) (q:Int×Int),a=j∧rp[j]?=some (s,q)∧lastR rp s=some q
theorem lastR_snoc (ps:List (ByteArray×Int×Int)) (p:ByteArray×Int×Int) (s:ByteArray):lastR (ps++[p]) s=if p.1=s then some p.2 else lastR ps s:=lastP_snoc ps p s
theorem LastAt.step {rp:List (ByteArray×Int×Int)} {s:ByteArray} {a:Int} {k:Nat} {p:ByteArray×Int×Int} (h:LastAt (rp.take k) s a) (hk:rp[k]?=some p):LastAt (rp.take (k+1)) s (if p.1=s then (k:Int) else a):=by
 have hlt:=(List.getElem?_eq_some_iff.1 hk).1
 by_cases he:p.1=s
 · rw [if_pos he]
   refine .inr ⟨k,p.2,rfl,?_,?_⟩
   · rw [List.getElem?_take,if_pos (by omega),hk,← he]
   · rw [take_snoc hk,lastR_snoc,if_pos he]
 · rw [if_neg he]
   rcases h with ⟨h1,h2⟩ | ⟨j,q,h1,h2,h3⟩
   · exact .inl ⟨h1,by rw [take_snoc hk,lastR_snoc,if_neg he];exact h2⟩
   · refine .inr ⟨j,q,h1,?_,by rw [take_snoc hk,lastR_snoc,if_neg he];exact h3⟩
     rw [List.getElem?_take] at h2 ⊢
     split at h2
     · rw [if_pos (by omega)];exact h2
     · cases h2
theorem rFindRange_ret (w0:World) (v:Value) (rp:List (ByteArray×Int×Int)) (s:ByteArray) (hs:RansOf w0 v rp):Ret Pg 110 #[v,.string s] w0 fun r w'=>(∃ a,r = .int .i64 a∧LastAt rp s a)∧Ext w0 w':=by
 obtain ⟨A,c,rfl,hlc,hcm,hlm,hel⟩:=SliceOf.open hs
 refine n9s (R:=retR _) ?_;unfold n9
 refine loop2_intro (fun a0 a1 w=>∃ (k:Nat) (a:Int),a0 = .int .i64 a∧a1 = .int .i64 (k:Int)∧k≤rp.length∧Ext w0 w∧LastAt (rp.take k) s a) (fun a0 a1 _=>rp.length - (intOf a1).toNat) ⟨0,-1,rfl,rfl,Nat.zero_le _,ee,.inl ⟨rfl,rfl⟩⟩ ?_
 rintro _ _ w ⟨k,a,rfl,rfl,hk,e,hI⟩
 have se:=e.size
 rcases drop_cases hk with ⟨x,hx,hd,hlt,hdec⟩ | ⟨hk,hd,hdec⟩
 · obtain ⟨b,o,cs,rfl,hl,hA,rfl⟩:=hel k x hx
   have hst:=hI.step hx
   unfold n9c2
   simp (disch:=try exact DI) only [↓PR,QR,Int.reduceBEq,Int.reduceBNe,Int.reduceLT,Int.reduceLE,Int.reduceGT,Int.reduceGE,Int.reduceNeg,hdec]
   unfold n9c1
   by_cases he:x.1=s
   · rw [if_pos he] at hst
     simp (disch:=try exact DI) only [↓PR,QR,Int.reduceBEq,Int.reduceBNe,Int.reduceLT,Int.reduceLE,Int.reduceGT,Int.reduceGE,Int.reduceNeg,(hA.c3 e).1,show decide (x.1=s)=true by simp [he]]
     exact ⟨⟨k+1,(k:Int),rfl,rfl,by omega,ee,hst⟩,meas_lt hlt⟩
   · rw [if_neg he] at hst
     simp (disch:=try exact DI) only [↓PR,QR,Int.reduceBEq,Int.reduceBNe,Int.reduceLT,Int.reduceLE,Int.reduceGT,Int.reduceGE,Int.reduceNeg,(hA.c3 e).1,show decide (x.1=s)=false by simp [he]]
     exact ⟨⟨k+1,a,rfl,rfl,by omega,ee,hst⟩,meas_lt hlt⟩
 · subst hk
   rw [List.take_length] at hI
   unfold n9c2
   simp (disch:=try exact DI) only [↓PR,QR,Int.reduceBEq,Int.reduceBNe,Int.reduceLT,Int.reduceLE,Int.reduceGT,Int.reduceGE,Int.reduceNeg,hdec]
   exact ⟨⟨_,rfl,hI⟩,e⟩
theorem name_ne {s:ByteArray} (h:nameB s=true):s≠ByteArray.empty:=by
 rintro rfl
 exact absurd h (by decide)
theorem checked_all {rp:List (ByteArray×Int×Int)}:∀ (ts:List TermD) (no:Bool),(∀ t∈ts,t.field≠ByteArray.empty∧(lastR rp t.field).isSome=true)→checkedF ByteArray.empty (RP rp) wideV ts no=if ts.all (fun t=>wideB (rngT rp t).1 (rngT rp t).2) then (if no then 9 else 0) else 2
 | [],no,_=>rfl
 | t::ts,no,h=>by
  obtain ⟨h1,h2⟩:=h t List.mem_cons_self
  have ih:=checked_all (rp:=rp) ts no (fun t ht=>h t (List.mem_cons_of_mem _ ht))
  obtain ⟨q,hq⟩:=Option.isSome_iff_exists.1 h2
  have hr:rngT rp t=q:=by unfold rngT;rw [hq];rfl
  simp only [checkedF,if_neg h1,lastOf_RP,hq,Option.map_some,List.all_cons,hr]
  have hw:wideV (rangeVal q.1 q.2)=wideB q.1 q.2:=rfl
  rw [hw]
  cases wideB q.1 q.2 with
  | false=>rfl
  | true=>simpa using ih
theorem terms_names {base:Int} {ts:List TermD} (h:sizeB base ts=true):smallB base=true∧ts.length≤4∧∀ t∈ts,termB t=true:=by
 unfold sizeB at h
 simp only [Bool.and_eq_true,decide_eq_true_eq] at h
 refine ⟨h.1.1,h.1.2,fun t ht=>?_⟩
 obtain ⟨k,hk⟩:=List.getElem?_of_mem ht
 have:=(termsB_iff ts []).1 h.2 k t hk
 simp only [Bool.or_eq_false_iff,Bool.not_eq_false'] at this
 exact this.2
def ivOf (base:Int) (ts:List TermD) (rp:List (ByteArray×Int×Int)):Value := .tuple #[.int .i64 (intervalL base ts rp),.int .i64 (intervalH base ts rp),.int .i64 (intervalE base ts rp)]
theorem iv_bad {base:Int} {ts:List TermD} {rp:List (ByteArray×Int×Int)} (h:intervalE base ts rp=2):ivOf base ts rp = .tuple #[.int .i64 0,.int .i64 0,.int .i64 2]:=by
 unfold ivOf intervalL intervalH
 rw [h]
 rfl
theorem iv_fine {base:Int} {ts:List TermD} {rp:List (ByteArray×Int×Int)} (hs:sizeB base ts=true) (hin:∀ t∈ts,(lastR rp t.field).isSome=true) (hw:∀ t∈ts,wideB (rngT rp t).1 (rngT rp t).2=true):(∀ t∈ts,Small4 rp t)∧ivOf base ts rp = .tuple #[.int .i64 (base+sumT (endF rp true) ts),.int .i64 (base+sumT (endF rp false) ts),.int .i64 0]:=by
 obtain ⟨h1,h2,h3⟩:=terms_names hs
 have h4:∀ t∈ts,Small4 rp t:=fun t ht=>by
  have a:=h3 t ht
  have b:=hw t ht
  unfold termB smallB at a
  unfold wideB at b
  simp only [Bool.and_eq_true,decide_eq_true_eq] at a b
  exact ⟨a.2.1,a.2.2,b.1.1,b.1.2,by omega⟩
 have hb : -1048576≤base∧base≤1048576:=by unfold smallB at h1;simpa using h1
 have hE:intervalE base ts rp=0:=by
  unfold intervalE
  rw [if_pos hs,checked_all ts false (fun t ht=>⟨name_ne (by have:=h3 t ht;unfold termB at this;simp only [Bool.and_eq_true] at this;exact this.1.1),hin t ht⟩),if_pos (by rw [List.all_eq_true];exact hw)]
  rfl
 refine ⟨h4,?_⟩
 unfold ivOf intervalL intervalH
 rw [hE,if_pos rfl,if_pos rfl,numW_sum ts base (fun t ht=>end_in (hin t ht) (h4 t ht) true) (by omega) (by omega),numW_sum ts base (fun t ht=>end_in (hin t ht) (h4 t ht) false) (by omega) (by omega)]
theorem iv_wide {base:Int} {ts:List TermD} {rp:List (ByteArray×Int×Int)} (hs:sizeB base ts=true) (hin:∀ t∈ts,(lastR rp t.field).isSome=true) {t:TermD} (ht:t∈ts) (hw:wideB (rngT rp t).1 (rngT rp t).2=false):ivOf base ts rp = .tuple #[.int .i64 0,.int .i64 0,.int .i64 2]:=by
 obtain ⟨h1,h2,h3⟩:=terms_names hs
 refine iv_bad ?_
 unfold intervalE
 rw [if_pos hs,checked_all ts false (fun t ht=>⟨name_ne (by have:=h3 t ht;unfold termB at this;simp only [Bool.and_eq_true] at this;exact this.1.1),hin t ht⟩),if_neg (by rw [List.all_eq_true];intro h;rw [h t ht] at hw;cases hw)]
end Go.Proofs.YtiajhbbmgglmlaaGreat
namespace Go.Proofs.YtiajhbbmgglmlaaGreat
open Sw
open Go.RowKit (intOf Below)
theorem rng_some {rp:List (ByteArray×Int×Int)} {t:TermD} {q:Int×Int} (h:lastR rp t.field=some q):rngT rp t=q:=by unfold rngT;rw [h];rfl
theorem rInterval_ret (w0:World) (v rv:Value) (base:Int) (ts:List TermD) (rp:List (ByteArray×Int×Int)) (hs:SizeVal w0 v base ts) (hR:RansOf w0 rv rp) (hin:∀ t∈ts,(lastR rp t.field).isSome=true):Ret Pg 74 #[v,rv] w0 fun r w'=>r=ivOf base ts rp∧Ext w0 w':=by
 obtain ⟨tv,rfl,hT⟩:=hs
 have hS1:=hT
 obtain ⟨A,c,rfl,hlc,hcm,hlm,hel⟩:=SliceOf.open hT
 obtain ⟨A2,c2,rfl,hlc2,hcm2,hlm2,hel2⟩:=SliceOf.open hR
 refine n10s (R:=retR _) ?_;unfold n10
 simp (disch:=try exact DI) only [↓PR,QR,Int.reduceBEq,Int.reduceBNe,Int.reduceLT,Int.reduceLE,Int.reduceGT,Int.reduceGE,Int.reduceNeg]
 have hBW:=ElemAt.new (w:=w0) ([.int .i64 base,.slice A ts.length c]) (49)
 have eW:Ext w0 (w0.alloc (Obj.cells (List.toArray ([.int .i64 base,.slice A ts.length c])) (49))):=(Ext.refl _).alloc _
 generalize (w0.alloc (Obj.cells (List.toArray ([.int .i64 base,.slice A ts.length c])) (49)))=W at hBW eW ⊢
 refine zcr (rSizeValid_ret _ _ base ts ⟨_,rfl,hS1.ext eW⟩) fun w1 e1=>?_
 have E1:=eW.trans e1
 unfold n10c15
 cases hsz:sizeB base ts with
 | false =>
  simp (disch:=try exact DI) only [↓PR,QR,Int.reduceBEq,Int.reduceBNe,Int.reduceLT,Int.reduceLE,Int.reduceGT,Int.reduceGE,Int.reduceNeg]
  refine ⟨?_,E1⟩
  rw [iv_bad (by unfold intervalE;rw [hsz];rfl)]
 | true =>
 obtain ⟨hb,h4,hterm⟩:=terms_names hsz
 simp (disch:=try exact DI) only [↓PR,QR,Int.reduceBEq,Int.reduceBNe,Int.reduceLT,Int.reduceLE,Int.reduceGT,Int.reduceGE,Int.reduceNeg]
 refine loop2_intro (fun a0 a1 w=>∃ (k:Nat) , a0 = .bool false∧a1 = .int .i64 (k:Int)∧k≤ts.length∧Ext w1 w∧∀ j t,j < k→ts[j]?=some t→wideB (rngT rp t).1 (rngT rp t).2=true) (fun a0 a1 _=>ts.length - (intOf a1).toNat) ⟨0,rfl,rfl,Nat.zero_le _,ee,by intro j x h;omega⟩ ?_
 rintro _ _ w ⟨k,rfl,rfl,hk,e,hI⟩
 have se:=e.size
 rcases drop_cases hk with ⟨x,hx,hd,hlt,hdec⟩ | ⟨hk,hd,hdec⟩
 · obtain ⟨b,o,cs,rfl,hl,hA,rfl⟩:=hel k x hx
   have E:=E1.trans e
   have f:=e1.trans e
   unfold n10c14
   simp (disch:=try exact DI) only [↓PR,QR,Int.reduceBEq,Int.reduceBNe,Int.reduceLT,Int.reduceLE,Int.reduceGT,Int.reduceGE,Int.reduceNeg,hBW.c2,hdec]
   unfold n10c13
   simp (disch:=try exact DI) only [↓PR,QR,Int.reduceBEq,Int.reduceBNe,Int.reduceLT,Int.reduceLE,Int.reduceGT,Int.reduceGE,Int.reduceNeg,hBW.c2,(hA.c2 E).1]
   refine callK_ret (rFindRange_ret _ _ rp x.field (hR.ext E)) ?_
   rintro _ w2 ⟨⟨a,rfl,ha⟩,e2⟩
   have hxm:=List.mem_of_getElem? hx
   rcases ha with ⟨rfl,hno⟩ | ⟨j,q,rfl,hj,hq⟩
   · have:=hin x hxm
     rw [hno] at this;cases this
   obtain ⟨b',o',cs',rfl,_,hB,rfl⟩:=hel2 j _ hj
   have hjl:(j:Int) < (rp.length:Int):=by have:=(List.getElem?_eq_some_iff.1 hj).1;omega
   have E2:=E.trans e2
   have hq':=rng_some hq
   have d0:decide ((j:Int) < 0)=false:=by simp
   have stop:wideB q.1 q.2=false→(Value.tuple #[.int .i64 0,.int .i64 0,.int .i64 2])=ivOf base ts rp:=fun h=>(iv_wide hsz hin hxm (by rw [hq'];exact h)).symm
   simp (disch:=try exact DI) only [↓PR,QR,Int.reduceBEq,Int.reduceBNe,Int.reduceLT,Int.reduceLE,Int.reduceGT,Int.reduceGE,Int.reduceNeg,d0]
   refine drawK_intro ?_
   unfold n10c2
   by_cases h1:q.1 < 0
   · have d1:decide (q.1 < 0)=true:=by simpa using h1
     simp (disch:=try exact DI) only [↓PR,QR,Int.reduceBEq,Int.reduceBNe,Int.reduceLT,Int.reduceLE,Int.reduceGT,Int.reduceGE,Int.reduceNeg,(hB.c3 E2).1,(hB.c3 E2).2,d1]
     unfold n10c1
     simp (disch:=try exact DI) only [↓PR,QR,Int.reduceBEq,Int.reduceBNe,Int.reduceLT,Int.reduceLE,Int.reduceGT,Int.reduceGE,Int.reduceNeg]
     exact ⟨stop (by unfold wideB;simp;omega),ee⟩
   have d1:decide (q.1 < 0)=false:=by simpa using h1
   by_cases h2:q.1 > q.2
   · have d2:decide (q.1 > q.2)=true:=by simpa using h2
     simp (disch:=try exact DI) only [↓PR,QR,Int.reduceBEq,Int.reduceBNe,Int.reduceLT,Int.reduceLE,Int.reduceGT,Int.reduceGE,Int.reduceNeg,(hB.c3 E2).1,(hB.c3 E2).2,d1,d2]
     unfold n10c1
     simp (disch:=try exact DI) only [↓PR,QR,Int.reduceBEq,Int.reduceBNe,Int.reduceLT,Int.reduceLE,Int.reduceGT,Int.reduceGE,Int.reduceNeg]
     exact ⟨stop (by unfold wideB;simp;omega),ee⟩
   have d2:decide (q.1 > q.2)=false:=by simpa using h2
   by_cases h3:q.2≥34359738368
   · have d3:decide (q.2≥34359738368)=true:=by simpa using h3
     simp (disch:=try exact DI) only [↓PR,QR,Int.reduceBEq,Int.reduceBNe,Int.reduceLT,Int.reduceLE,Int.reduceGT,Int.reduceGE,Int.reduceNeg,(hB.c3 E2).1,(hB.c3 E2).2,d1,d2,d3]
     unfold n10c1
     simp (disch:=try exact DI) only [↓PR,QR,Int.reduceBEq,Int.reduceBNe,Int.reduceLT,Int.reduceLE,Int.reduceGT,Int.reduceGE,Int.reduceNeg,(hB.c3 E2).1,(hB.c3 E2).2,d3]
     exact ⟨stop (by unfold wideB;simp;omega),ee⟩
   have d3:decide (q.2≥34359738368)=false:=by simpa using h3
   simp (disch:=try exact DI) only [↓PR,QR,Int.reduceBEq,Int.reduceBNe,Int.reduceLT,Int.reduceLE,Int.reduceGT,Int.reduceGE,Int.reduceNeg,(hB.c3 E2).1,(hB.c3 E2).2,d1,d2,d3]
   unfold n10c1
   simp (disch:=try exact DI) only [↓PR,QR,Int.reduceBEq,Int.reduceBNe,Int.reduceLT,Int.reduceLE,Int.reduceGT,Int.reduceGE,Int.reduceNeg,(hB.c3 E2).1,(hB.c3 E2).2,d3]
   refine ⟨⟨k+1,by first | trivial | rfl,by first | trivial | rfl,by omega,e.trans e2.wdrew,fun i z hi hz=>?_⟩,meas_lt hlt⟩
   by_cases hij:i=k
   · subst hij;rw [hx] at hz;injection hz with hz;subst hz;rw [hq'];unfold wideB;simp;omega
   · exact hI i z (by omega) hz
 · subst hk
   have E:=E1.trans e
   have f:=e1.trans e
   obtain ⟨hsm,hiv⟩:=iv_fine hsz hin (fun t ht=>by obtain ⟨j,hj⟩:=List.getElem?_of_mem ht;exact hI j t (List.getElem?_eq_some_iff.1 hj).1 hj)
   rw [hiv]
   clear hiv hI
   unfold n10c14
   simp (disch:=try exact DI) only [↓PR,QR,Int.reduceBEq,Int.reduceBNe,Int.reduceLT,Int.reduceLE,Int.reduceGT,Int.reduceGE,Int.reduceNeg,hBW.c2,hdec]
   unfold n10c12
   simp (disch:=try exact DI) only [↓PR,QR,Int.reduceBEq,Int.reduceBNe,Int.reduceLT,Int.reduceLE,Int.reduceGT,Int.reduceGE,Int.reduceNeg]
   obtain ⟨hall,⟨mL,hmL,hvL⟩,⟨mH,hmH,hvH⟩⟩:=mix_least (rp:=rp) (ts:=ts) (fun t ht=>⟨hin t ht,hsm t ht⟩)
   have hp16:2 ^ ts.length≤16:=by
    have:(2:Nat) ^ ts.length≤2 ^ 4:=Nat.pow_le_pow_right (by decide) h4
    exact this
   have hpow:IntKind.i64.wrap (1*2 ^ ((ts.length:Int)).toNat)=((2 ^ ts.length:Nat):Int):=by
    rw [Int.toNat_natCast,Int.one_mul]
    rw [show ((2:Int) ^ ts.length)=((2 ^ ts.length:Nat):Int) by simp]
    exact wrap_ok (by omega) (by omega)
   have hbase : -1048576≤base∧base≤1048576:=by unfold smallB at hb;simpa using hb
   refine loop3_intro (fun x y i w'=>∃ (lo hi:Int) (mix:Nat),x = .int .i64 lo∧y = .int .i64 hi∧i = .int .i64 mix∧mix≤2 ^ ts.length∧Ext w0 w'∧Ext W w'∧(mix≠0→base+sumT (endF rp true) ts≤lo∧hi≤base+sumT (endF rp false) ts)∧∀ j,j < mix→lo≤base+mixS rp j 0 ts∧base+mixS rp j 0 ts≤hi) (fun _ _ i _=>2 ^ ts.length - (intOf i).toNat) ⟨0,0,0,rfl,rfl,rfl,Nat.zero_le _,E,f,by simp,by intro j h;omega⟩ ?_
   rintro _ _ _ w3 ⟨lo,hi,mix,rfl,rfl,rfl,hmix,E3,f3,hLH,hall3⟩
   unfold n10c11
   by_cases hm:mix < 2 ^ ts.length
   · have d1:decide ((mix:Int) < ((2 ^ ts.length:Nat):Int))=true:=by simp only [decide_eq_true_eq];exact Int.ofNat_lt.2 hm
     simp (disch:=try exact DI) only [↓PR,QR,Int.reduceBEq,Int.reduceBNe,Int.reduceLT,Int.reduceLE,Int.reduceGT,Int.reduceGE,Int.reduceNeg,hBW.c2,hpow,d1]
     unfold n10c10
     simp (disch:=try exact DI) only [↓PR,QR,Int.reduceBEq,Int.reduceBNe,Int.reduceLT,Int.reduceLE,Int.reduceGT,Int.reduceGE,Int.reduceNeg,hBW.c2]
     have hnext:∀ (n:Int) (w':World),n=base+mixS rp mix 0 ts→Ext w3 w'→n10c7 (.int .i64 lo) (.int .i64 hi) (.int .i64 (mix:Int)) (.int .i64 n) (fun t10 t11 t12 w'=>(∃ (lo hi:Int) (mix:Nat),t10 = .int .i64 lo∧t11 = .int .i64 hi∧t12 = .int .i64 mix∧mix≤2 ^ ts.length∧Ext w0 w'∧Ext W w'∧(mix≠0→base+sumT (endF rp true) ts≤lo∧hi≤base+sumT (endF rp false) ts)∧∀ j,j < mix→lo≤base+mixS rp j 0 ts∧base+mixS rp j 0 ts≤hi)∧2 ^ ts.length - (intOf t12).toNat < 2 ^ ts.length - (intOf (.int .i64 (mix:Int))).toNat) (retR fun r w'=>r=Value.tuple #[.int .i64 (base+sumT (endF rp true) ts),.int .i64 (base+sumT (endF rp false) ts),.int .i64 0]∧Ext w0 w') w':=by
      intro n w' hn e'
      have hv:=hall mix
      have hw:IntKind.i64.wrap ((mix:Int)+1)=((mix+1:Nat):Int):=by rw [wrap_ok (by omega) (by omega)];omega
      have hgo:∀ lo' hi':Int,(base+sumT (endF rp true) ts≤lo'∧hi'≤base+sumT (endF rp false) ts)→(lo'≤n∧n≤hi')→(∀ j,j < mix→lo'≤base+mixS rp j 0 ts∧base+mixS rp j 0 ts≤hi')→(∃ (lo hi:Int) (mix_1:Nat),Value.int .i64 lo' = .int .i64 lo∧Value.int .i64 hi' = .int .i64 hi∧Value.int .i64 ((mix+1:Nat):Int) = .int .i64 mix_1∧mix_1≤2 ^ ts.length∧Ext w0 w'∧Ext W w'∧(mix_1≠0→base+sumT (endF rp true) ts≤lo∧hi≤base+sumT (endF rp false) ts)∧∀ j,j < mix_1→lo≤base+mixS rp j 0 ts∧base+mixS rp j 0 ts≤hi)∧2 ^ ts.length - (intOf (Value.int .i64 ((mix+1:Nat):Int))).toNat < 2 ^ ts.length - (intOf (.int .i64 (mix:Int))).toNat:=by
       intro lo' hi' h1 h2 h3
       refine ⟨⟨lo',hi',mix+1,rfl,rfl,rfl,hm,E3.trans e',f3.trans e',fun _=>h1,fun j hj=>?_⟩,meas_lt hm⟩
       by_cases hjm:j=mix
       · subst hjm;rw [← hn];exact h2
       · exact h3 j (by omega)
      unfold n10c7
      by_cases hz:mix=0
      · subst hz
        simp (disch:=try exact DI) only [↓PR,QR,Int.reduceBEq,Int.reduceBNe,Int.reduceLT,Int.reduceLE,Int.reduceGT,Int.reduceGE,Int.reduceNeg]
        unfold n10c6
        simp (disch:=try exact DI) only [↓PR,QR,Int.reduceBEq,Int.reduceBNe,Int.reduceLT,Int.reduceLE,Int.reduceGT,Int.reduceGE,Int.reduceNeg]
        unfold n10c5
        simp (disch:=try exact DI) only [↓PR,QR,Int.reduceBEq,Int.reduceBNe,Int.reduceLT,Int.reduceLE,Int.reduceGT,Int.reduceGE,Int.reduceNeg]
        exact hgo n n (by omega) (by omega) (by intro j hj;omega)
      · have d2:((mix:Int) == 0)=false:=by simp;omega
        have hl:=hLH hz
        by_cases hlo:n < lo
        · have d3:decide (n < lo)=true:=by simpa using hlo
          simp (disch:=try exact DI) only [↓PR,QR,Int.reduceBEq,Int.reduceBNe,Int.reduceLT,Int.reduceLE,Int.reduceGT,Int.reduceGE,Int.reduceNeg,d2,d3]
          unfold n10c6
          by_cases hhi:n > hi
          · have d4:decide (n > hi)=true:=by simpa using hhi
            simp (disch:=try exact DI) only [↓PR,QR,Int.reduceBEq,Int.reduceBNe,Int.reduceLT,Int.reduceLE,Int.reduceGT,Int.reduceGE,Int.reduceNeg,d2,d4]
            unfold n10c5
            simp (disch:=try exact DI) only [↓PR,QR,Int.reduceBEq,Int.reduceBNe,Int.reduceLT,Int.reduceLE,Int.reduceGT,Int.reduceGE,Int.reduceNeg]
            exact hgo n n (by omega) (by omega) (fun j hj=>by have:=hall3 j hj;omega)
          · have d4:decide (n > hi)=false:=by simpa using hhi
            simp (disch:=try exact DI) only [↓PR,QR,Int.reduceBEq,Int.reduceBNe,Int.reduceLT,Int.reduceLE,Int.reduceGT,Int.reduceGE,Int.reduceNeg,d2,d4]
            unfold n10c5
            simp (disch:=try exact DI) only [↓PR,QR,Int.reduceBEq,Int.reduceBNe,Int.reduceLT,Int.reduceLE,Int.reduceGT,Int.reduceGE,Int.reduceNeg]
            exact hgo n hi (by omega) (by omega) (fun j hj=>by have:=hall3 j hj;omega)
        · have d3:decide (n < lo)=false:=by simpa using hlo
          simp (disch:=try exact DI) only [↓PR,QR,Int.reduceBEq,Int.reduceBNe,Int.reduceLT,Int.reduceLE,Int.reduceGT,Int.reduceGE,Int.reduceNeg,d2,d3]
          unfold n10c6
          by_cases hhi:n > hi
          · have d4:decide (n > hi)=true:=by simpa using hhi
            simp (disch:=try exact DI) only [↓PR,QR,Int.reduceBEq,Int.reduceBNe,Int.reduceLT,Int.reduceLE,Int.reduceGT,Int.reduceGE,Int.reduceNeg,d2,d4]
            unfold n10c5
            simp (disch:=try exact DI) only [↓PR,QR,Int.reduceBEq,Int.reduceBNe,Int.reduceLT,Int.reduceLE,Int.reduceGT,Int.reduceGE,Int.reduceNeg]
            exact hgo lo n (by omega) (by omega) (fun j hj=>by have:=hall3 j hj;omega)
          · have d4:decide (n > hi)=false:=by simpa using hhi
            simp (disch:=try exact DI) only [↓PR,QR,Int.reduceBEq,Int.reduceBNe,Int.reduceLT,Int.reduceLE,Int.reduceGT,Int.reduceGE,Int.reduceNeg,d2,d4]
            unfold n10c5
            simp (disch:=try exact DI) only [↓PR,QR,Int.reduceBEq,Int.reduceBNe,Int.reduceLT,Int.reduceLE,Int.reduceGT,Int.reduceGE,Int.reduceNeg]
            exact hgo lo hi (by omega) (by omega) (fun j hj=>by have:=hall3 j hj;omega)
     refine loop2_intro (fun a0 a1 wb=>∃ (kb:Nat) (n:Int),a0 = .int .i64 n∧a1 = .int .i64 (kb:Int)∧kb≤ts.length∧Ext w3 wb∧n+mixS rp mix kb (ts.drop kb)=base+mixS rp mix 0 ts ∧ -1048576 - kb*36028797018963968≤n∧n≤1048576+kb*36028797018963968) (fun a0 a1 _=>ts.length - (intOf a1).toNat) ⟨0,base,rfl,rfl,Nat.zero_le _,ee,⟨rfl,by omega,by omega⟩⟩ ?_
     rintro _ _ wb ⟨kb,n,rfl,rfl,hkb,eb,hIb⟩
     have seb:=eb.size
     rcases drop_cases hkb with ⟨xb,hxb,hdb,hltb,hdecb⟩ | ⟨hkb,hdb,hdecb⟩
     · obtain ⟨hsum,hn1,hn2⟩:=hIb
       obtain ⟨b,o,cs,rfl,hl,hA,rfl⟩:=hel kb xb hxb
       have Eb:=E3.trans eb
       have fb:=f3.trans eb
       unfold n10c9
       simp (disch:=try exact DI) only [↓PR,QR,Int.reduceBEq,Int.reduceBNe,Int.reduceLT,Int.reduceLE,Int.reduceGT,Int.reduceGE,Int.reduceNeg,hBW.c2,hdecb]
       unfold n10c8
       simp (disch:=try exact DI) only [↓PR,QR,Int.reduceBEq,Int.reduceBNe,Int.reduceLT,Int.reduceLE,Int.reduceGT,Int.reduceGE,Int.reduceNeg,hBW.c2,(hA.c2 Eb).1]
       refine callK_ret (rFindRange_ret _ _ rp xb.field (hR.ext Eb)) ?_
       rintro _ w5 ⟨⟨a,rfl,ha⟩,e5⟩
       have hxm:=List.mem_of_getElem? hxb
       rcases ha with ⟨rfl,hno⟩ | ⟨j,q,rfl,hj,hq⟩
       · have:=hin xb hxm
         rw [hno] at this;cases this
       obtain ⟨b',o',cs',rfl,_,hB,rfl⟩:=hel2 j _ hj
       have hjl:(j:Int) < (rp.length:Int):=by have:=(List.getElem?_eq_some_iff.1 hj).1;omega
       have E5:=Eb.trans e5
       have f5:=fb.trans e5
       have hq':=rng_some hq
       obtain ⟨s1,s2,s3,s4,s5⟩:=hsm xb hxm
       rw [hq'] at s3 s4 s5
       unfold n10c4
       have hmod:(((mix / 2 ^ kb:Nat):Int)).tmod 2=((mix / 2 ^ kb % 2:Nat):Int):=(Int.ofNat_tmod _ 2).symm
       have hstep:∀ u:Int,u=mixT rp mix kb xb→(∃ (kb_1:Nat) (n3:Int),Value.int .i64 (n+xb.factor*u) = .int .i64 n3∧Value.int .i64 ((kb+1:Nat):Int) = .int .i64 kb_1∧kb_1≤ts.length∧n3+mixS rp mix kb_1 (ts.drop kb_1)=base+mixS rp mix 0 ts ∧ -1048576 - kb_1*36028797018963968≤n3∧n3≤1048576+kb_1*36028797018963968):=by
        intro u hu
        have hmb : -36028797018963968≤xb.factor*u∧xb.factor*u≤36028797018963968:=by
         rw [hu]
         unfold mixT
         rw [hq']
         split
         · exact mul_bound s1 s2 (by omega) s5
         · exact mul_bound s1 s2 s3 (by omega)
        refine ⟨kb+1,_,rfl,rfl,hltb,?_,by omega,by omega⟩
        rw [hdb] at hsum
        simp only [mixS] at hsum
        rw [hu]
        omega
       simp (disch:=try exact DI) only [↓PR,QR,Int.reduceBEq,Int.reduceBNe,Int.reduceLT,Int.reduceLE,Int.reduceGT,Int.reduceGE,Int.reduceNeg,hB.c3 E5]
       rw [op_shr _ _ mix .i64 kb (by omega)]
       have hmul:∀ u:Int,u=mixT rp mix kb xb→IntKind.i64.wrap (xb.factor*u)=xb.factor*u∧IntKind.i64.wrap (n+xb.factor*u)=n+xb.factor*u:=by
        intro u hu
        have hmb : -36028797018963968≤xb.factor*u∧xb.factor*u≤36028797018963968:=by
         rw [hu]
         unfold mixT
         rw [hq']
         split
         · exact mul_bound s1 s2 (by omega) s5
         · exact mul_bound s1 s2 s3 (by omega)
        exact ⟨wrap_ok (by omega) (by omega),wrap_ok (by omega) (by omega)⟩
       by_cases hbit:mix / 2 ^ kb % 2=1
       · have f6:Ext W (w5.alloc (Obj.cells #[.string xb.field,.int .i64 q.1,.int .i64 q.2] 129)):=f5.alloc _
         have E6:Ext w0 (w5.alloc (Obj.cells #[.string xb.field,.int .i64 q.1,.int .i64 q.2] 129)):=E5.alloc _
         have hu:q.2=mixT rp mix kb xb:=by unfold mixT;rw [if_pos hbit,hq']
         have d5:((((mix / 2 ^ kb % 2:Nat)):Int) == 1)=true:=by rw [hbit];rfl
         simp (disch:=try exact DI) only [↓PR,QR,Int.reduceBEq,Int.reduceBNe,Int.reduceLT,Int.reduceLE,Int.reduceGT,Int.reduceGE,Int.reduceNeg,hmod,d5]
         unfold n10c3
         simp (disch:=try exact DI) only [↓PR,QR,Int.reduceBEq,Int.reduceBNe,Int.reduceLT,Int.reduceLE,Int.reduceGT,Int.reduceGE,Int.reduceNeg,hBW.c2,(hA.c2 E6).2,(hmul _ hu).1,(hmul _ hu).2]
         obtain ⟨kk,nn,h1,h2,h3,h4,h5,h6⟩:=hstep _ hu
         exact ⟨⟨kk,nn,h1,h2,h3,eb.trans (e5.alloc _),h4,h5,h6⟩,meas_lt hltb⟩
       · have f6:Ext W (w5.alloc (Obj.cells #[.string xb.field,.int .i64 q.1,.int .i64 q.2] 129)):=f5.alloc _
         have E6:Ext w0 (w5.alloc (Obj.cells #[.string xb.field,.int .i64 q.1,.int .i64 q.2] 129)):=E5.alloc _
         have hu:q.1=mixT rp mix kb xb:=by unfold mixT;rw [if_neg hbit,hq']
         have d5:((((mix / 2 ^ kb % 2:Nat)):Int) == 1)=false:=by simp only [beq_eq_false_iff_ne,ne_eq];omega
         simp (disch:=try exact DI) only [↓PR,QR,Int.reduceBEq,Int.reduceBNe,Int.reduceLT,Int.reduceLE,Int.reduceGT,Int.reduceGE,Int.reduceNeg,hmod,d5]
         unfold n10c3
         simp (disch:=try exact DI) only [↓PR,QR,Int.reduceBEq,Int.reduceBNe,Int.reduceLT,Int.reduceLE,Int.reduceGT,Int.reduceGE,Int.reduceNeg,hBW.c2,(hA.c2 E6).2,(hmul _ hu).1,(hmul _ hu).2]
         obtain ⟨kk,nn,h1,h2,h3,h4,h5,h6⟩:=hstep _ hu
         exact ⟨⟨kk,nn,h1,h2,h3,eb.trans (e5.alloc _),h4,h5,h6⟩,meas_lt hltb⟩
     · subst hkb
       obtain ⟨hsum,_⟩:=hIb
       have fb:=f3.trans eb
       rw [hdb] at hsum
       simp only [mixS] at hsum
       unfold n10c9
       simp (disch:=try exact DI) only [↓PR,QR,Int.reduceBEq,Int.reduceBNe,Int.reduceLT,Int.reduceLE,Int.reduceGT,Int.reduceGE,Int.reduceNeg,hBW.c2,hdecb]
       exact hnext n wb (by omega) eb
   · have hme:mix=2 ^ ts.length:=by omega
     have d1:decide ((mix:Int) < ((2 ^ ts.length:Nat):Int))=false:=by simp only [decide_eq_false_iff_not];exact fun h=>hm (Int.ofNat_lt.1 h)
     simp (disch:=try exact DI) only [↓PR,QR,Int.reduceBEq,Int.reduceBNe,Int.reduceLT,Int.reduceLE,Int.reduceGT,Int.reduceGE,Int.reduceNeg,hBW.c2,hpow,d1]
     have hpos:0 < 2 ^ ts.length:=Nat.two_pow_pos _
     have h1:=hLH (by omega)
     have h2:=hall3 mL (by omega)
     have h3:=hall3 mH (by omega)
     rw [hvL] at h2
     rw [hvH] at h3
     have e1:lo=base+sumT (endF rp true) ts:=by omega
     have e2:hi=base+sumT (endF rp false) ts:=by omega
     subst e1 e2
     exact ⟨rfl,E3⟩
end Go.Proofs.YtiajhbbmgglmlaaGreat
namespace Go.Proofs.YtiajhbbmgglmlaaGreat
open Sw
open Go.RowKit (intOf Below)
def hasB (s:ByteArray) (c:Int):Bool:=s.data.toList.any (fun x=>(x.toNat:Int) == c)
theorem rhas_ret (w0:World) (s:ByteArray) (c:Int) (hl:s.size≤9223372036854775806):Ret Pg 56 #[.string s,.int .u8 c] w0 fun r w'=>r = .bool (hasB s c)∧w'=w0:=by
 have hsz:s.data.toList.length=s.size:=by rw [Array.length_toList];rfl
 refine n28s (R:=retR _) ?_;unfold n28
 refine loop1_intro (fun i w'=>∃ k:Nat,i = .int .i64 k∧k≤s.data.toList.length∧w'=w0∧(s.data.toList.drop k).any (fun x=>(x.toNat:Int) == c)=hasB s c) (fun i _=>s.data.toList.length - (intOf i).toNat) ⟨0,rfl,by omega,rfl,rfl⟩ ?_
 rintro _ w2 ⟨k,rfl,hk,rfl,hI⟩
 unfold n28c2
 rcases drop_cases hk with ⟨x,hx,hd,hlt,hdec⟩ | ⟨hk,hd,hdec⟩
 · rw [hsz] at hdec
   rw [hd,List.any_cons] at hI
   simp (disch:=try exact DI) only [↓PR,QR,Int.reduceBEq,Int.reduceBNe,Int.reduceLT,Int.reduceLE,Int.reduceGT,Int.reduceGE,Int.reduceNeg,hdec]
   unfold n28c1
   rw [op_indexS Tryz.underlying9 s .i64 k hx]
   cases hb:((x.toNat:Int) == c) with
   | true =>
    rw [hb] at hI
    simp (disch:=try exact DI) only [↓PR,QR,Int.reduceBEq,Int.reduceBNe,Int.reduceLT,Int.reduceLE,Int.reduceGT,Int.reduceGE,Int.reduceNeg,hb]
    exact ⟨by rw [← hI];rfl,by trivial⟩
   | false =>
    rw [hb] at hI
    simp (disch:=try exact DI) only [↓PR,QR,Int.reduceBEq,Int.reduceBNe,Int.reduceLT,Int.reduceLE,Int.reduceGT,Int.reduceGE,Int.reduceNeg,hb]
    exact ⟨⟨k+1,rfl,hlt,by trivial,by simpa using hI⟩,meas_lt hlt⟩
 · rw [hsz] at hdec
   rw [hd] at hI
   simp (disch:=try exact DI) only [↓PR,QR,Int.reduceBEq,Int.reduceBNe,Int.reduceLT,Int.reduceLE,Int.reduceGT,Int.reduceGE,Int.reduceNeg,hdec]
   exact ⟨by rw [← hI];rfl,by trivial⟩
theorem rwide_ret (w0:World) (lo hi:Int):Ret Pg 58 #[.int .i64 lo,.int .i64 hi] w0 fun r w'=>r = .bool (wideB lo hi)∧Ext w0 w':=by
 refine n35s (R:=retR _) ?_;unfold n35
 unfold wideB
 by_cases h1:0≤lo
 · have d1:decide (lo≥0)=true:=by simpa using h1
   by_cases h2:lo≤hi
   · have d2:decide (lo≤hi)=true:=by simpa using h2
     simp (disch:=try exact DI) only [↓PR,QR,Int.reduceBEq,Int.reduceBNe,Int.reduceLT,Int.reduceLE,Int.reduceGT,Int.reduceGE,Int.reduceNeg,d1,d2]
     unfold n35c1
     simp (disch:=try exact DI) only [↓PR,QR,Int.reduceBEq,Int.reduceBNe,Int.reduceLT,Int.reduceLE,Int.reduceGT,Int.reduceGE,Int.reduceNeg]
     exact ⟨by simp [h1,h2],Ext.refl _⟩
   · have d2:decide (lo≤hi)=false:=by simpa using h2
     simp (disch:=try exact DI) only [↓PR,QR,Int.reduceBEq,Int.reduceBNe,Int.reduceLT,Int.reduceLE,Int.reduceGT,Int.reduceGE,Int.reduceNeg,d1,d2]
     unfold n35c1
     simp (disch:=try exact DI) only [↓PR,QR,Int.reduceBEq,Int.reduceBNe,Int.reduceLT,Int.reduceLE,Int.reduceGT,Int.reduceGE,Int.reduceNeg]
     exact ⟨by simp [h2],Ext.refl _⟩
 · have d1:decide (lo≥0)=false:=by simpa using h1
   simp (disch:=try exact DI) only [↓PR,QR,Int.reduceBEq,Int.reduceBNe,Int.reduceLT,Int.reduceLE,Int.reduceGT,Int.reduceGE,Int.reduceNeg,d1]
   unfold n35c1
   simp (disch:=try exact DI) only [↓PR,QR,Int.reduceBEq,Int.reduceBNe,Int.reduceLT,Int.reduceLE,Int.reduceGT,Int.reduceGE,Int.reduceNeg]
   exact ⟨by simp [h1],Ext.refl _⟩
def usedS (k:Int):ByteArray:=if k=1 then ⟨#[98,108,120,104]⟩ else if k=2 then ⟨#[98,108,120]⟩ else if k=3 then ⟨#[111,120,104]⟩ else if k=4 then ⟨#[115]⟩ else if k=5 then ⟨#[120,104]⟩ else if k=6 then ⟨#[111,104]⟩ else if k=7 then ⟨#[102,115]⟩ else if k=8 then ⟨#[102]⟩ else if k=9 then ⟨#[116,99]⟩ else if k=10 then ⟨#[98]⟩ else if k=11 then ⟨#[114,107]⟩ else if k=12 then ⟨#[102,115,121]⟩ else ByteArray.empty
theorem rused_ret (w0:World) (k:Int) (h1:1≤k) (h2:k≤12):Ret Pg 55 #[.int .i64 k] w0 fun r w'=>r = .string (usedS k)∧Ext w0 w':=by
 refine n34s (R:=retR _) ?_;unfold n34
 obtain ⟨n,rfl⟩:∃ n:Nat,k=n:=⟨k.toNat,by omega⟩
 have:n=1∨n=2∨n=3∨n=4∨n=5∨n=6∨n=7∨n=8∨n=9∨n=10∨n=11∨n=12:=by omega
 have hn:(n:Int) < ((13:Nat):Int):=by omega
 have hget:[Value.string ⟨#[]⟩,.string ⟨#[98,108,120,104]⟩,.string ⟨#[98,108,120]⟩,.string ⟨#[111,120,104]⟩,.string ⟨#[115]⟩,.string ⟨#[120,104]⟩,.string ⟨#[111,104]⟩,.string ⟨#[102,115]⟩,.string ⟨#[102]⟩,.string ⟨#[116,99]⟩,.string ⟨#[98]⟩,.string ⟨#[114,107]⟩,.string ⟨#[102,115,121]⟩][n*1]?=some (.string (usedS (n:Int))):=by
  rcases this with rfl | rfl | rfl | rfl | rfl | rfl | rfl | rfl | rfl | rfl | rfl | rfl<;>rfl
 simp (disch:=try exact DI) only [↓PR,QR,Int.reduceBEq,Int.reduceBNe,Int.reduceLT,Int.reduceLE,Int.reduceGT,Int.reduceGE,Int.reduceNeg,hget]
 exact ⟨by first | trivial | rfl,ee⟩
end Go.Proofs.YtiajhbbmgglmlaaGreat
namespace Go.Proofs.YtiajhbbmgglmlaaGreat
open Sw
open Go.RowKit (intOf Below)
theorem rtagged_ret (w0:World) (v:Value) (m:MsgD) (s:ByteArray) (n:Nat) (hm:MsgVal w0 v m) (hn:n≤m.fields.length):Ret Pg 61 #[v,.string s,.int .i64 (n:Int)] w0 fun r w'=>r = .bool ((m.fields.take n).any (taggedP s))∧Ext w0 w':=by
 obtain ⟨fv,rfl,hF⟩:=hm
 obtain ⟨A,c,rfl,hlc,hcm,hlm,hel⟩:=SliceOf.open hF
 refine n33s (R:=retR _) ?_;unfold n33
 simp (disch:=try exact DI) only [↓PR,QR,Int.reduceBEq,Int.reduceBNe,Int.reduceLT,Int.reduceLE,Int.reduceGT,Int.reduceGE,Int.reduceNeg]
 have hBW:=ElemAt.new (w:=w0) (msgCells m (.slice A m.fields.length c)) (45)
 have eW:Ext w0 (w0.alloc (Obj.cells (List.toArray (msgCells m (.slice A m.fields.length c))) (45))):=(Ext.refl _).alloc _
 generalize (w0.alloc (Obj.cells (List.toArray (msgCells m (.slice A m.fields.length c))) (45)))=W at hBW eW ⊢
 have hlen:(m.fields.take n).length=n:=by rw [List.length_take];omega
 refine loop1_intro (fun i w'=>∃ k:Nat,i = .int .i64 k∧k≤n∧Ext W w'∧∀ j x,j < k→m.fields[j]?=some x→taggedP s x=false) (fun i _=>n - (intOf i).toNat) ⟨0,rfl,by omega,Ext.refl _,by intro j x h;omega⟩ ?_
 rintro _ w ⟨k,rfl,hk,e,hI⟩
 have E:=eW.trans e
 by_cases hkn:k < n
 · obtain ⟨x,hx⟩:=getElem?_lt (l:=m.fields) (k:=k) (by omega)
   obtain ⟨b,o,cs,rfl,hl,hA,hE⟩:=hel k x hx
   obtain ⟨tv,cv,rfl,hT,hC,ht1,hc1⟩:=hE.op
   have hcell:=hA.c15 E
   have d1:decide ((k:Int) < (n:Int))=true:=by simp;omega
   have hkl:(k:Int) < (m.fields.length:Int):=by omega
   have stop:taggedP s x=true→(m.fields.take n).any (taggedP s)=true:=fun h=>List.any_eq_true.2 ⟨x,List.mem_of_getElem? (i:=k) (by rw [List.getElem?_take,if_pos hkn];exact hx),h⟩
   have next:taggedP s x=false→∀ w',Ext W w'→(∃ k_1:Nat,Value.int .i64 ((k+1:Nat):Int) = .int .i64 k_1∧k_1≤n∧Ext W w'∧∀ j x,j < k_1→m.fields[j]?=some x→taggedP s x=false)∧n - (intOf (Value.int .i64 ((k+1:Nat):Int))).toNat < n - (intOf (Value.int .i64 (k:Int))).toNat:=by
    intro h w' e'
    refine ⟨⟨k+1,rfl,hkn,e',fun j y hj hy=>?_⟩,meas_lt hkn⟩
    by_cases hjk:j=k
    · subst hjk;rw [hx] at hy;injection hy with hy;subst hy;exact h
    · exact hI j y (by omega) hy
   simp (disch:=try exact DI) only [↓PR,QR,Int.reduceBEq,Int.reduceBNe,Int.reduceLT,Int.reduceLE,Int.reduceGT,Int.reduceGE,Int.reduceNeg,d1]
   unfold n33c1
   cases hk9:(x.kind == 9) with
   | false =>
    simp (disch:=try exact DI) only [↓PR,QR,Int.reduceBEq,Int.reduceBNe,Int.reduceLT,Int.reduceLE,Int.reduceGT,Int.reduceGE,Int.reduceNeg,hBW.c2,hcell,hk9]
    exact next (by unfold taggedP;rw [hk9];rfl) _ e
   | true =>
    by_cases hs:x.tag=s
    · simp (disch:=try exact DI) only [↓PR,QR,Int.reduceBEq,Int.reduceBNe,Int.reduceLT,Int.reduceLE,Int.reduceGT,Int.reduceGE,Int.reduceNeg,hBW.c2,hcell,hk9,show decide (x.tag=s)=true by simp [hs]]
      exact ⟨by rw [stop (by unfold taggedP;rw [hk9];simp [hs])],E⟩
    · simp (disch:=try exact DI) only [↓PR,QR,Int.reduceBEq,Int.reduceBNe,Int.reduceLT,Int.reduceLE,Int.reduceGT,Int.reduceGE,Int.reduceNeg,hBW.c2,hcell,hk9,show decide (x.tag=s)=false by simp [hs]]
      exact next (by unfold taggedP;simp [hs]) _ e
 · have hke:k=n:=by omega
   subst hke
   have d1:decide ((k:Int) < (k:Int))=false:=by simp
   simp (disch:=try exact DI) only [↓PR,QR,Int.reduceBEq,Int.reduceBNe,Int.reduceLT,Int.reduceLE,Int.reduceGT,Int.reduceGE,Int.reduceNeg,d1]
   refine ⟨?_,E⟩
   congr 1
   symm
   rw [List.any_eq_false]
   intro x hx
   obtain ⟨j,hj⟩:=List.getElem?_of_mem hx
   rw [List.getElem?_take] at hj
   split at hj
   · rw [hI j x (by assumption) hj];decide
   · cases hj
def numC (f:FieldD):Int:=if bitsB f then (if f.low < 0∨f.low > (if f.kind=2 then f.low else f.high)∨(if f.kind=2 then f.low else f.high)≥2 ^ f.bits.toNat then 7 else 0) else 6
theorem numC_one {f:FieldD} (h:f.kind=1):numC f=orC (needC (bitsB f) 6) (withinC (topF f) 0 [f.low,f.high]):=by
 unfold numC topF
 have h2:¬ f.kind=2:=by omega
 simp only [if_neg h2]
 clear h h2
 cases bitsB f with
 | false=>rfl
 | true =>
  have hp:(0:Int) < 2 ^ f.bits.toNat:=Int.pow_pos (by decide)
  generalize (2:Int) ^ f.bits.toNat=q at *
  simp only [needC,if_true,orC,withinC]
  split<;>simp only [Bool.and_eq_true,decide_eq_true_eq]<;>(repeat' split)<;>first | rfl | omega | (simp only [Bool.and_eq_true,decide_eq_true_eq] at *;omega)
theorem numC_two {f:FieldD} (h:f.kind=2):numC f=orC (needC (bitsB f) 6) (withinC (topF f) 0 [f.low]):=by
 unfold numC topF
 simp only [if_pos h]
 clear h
 cases bitsB f with
 | false=>rfl
 | true =>
  have hp:(0:Int) < 2 ^ f.bits.toNat:=Int.pow_pos (by decide)
  generalize (2:Int) ^ f.bits.toNat=q at *
  simp only [needC,if_true,orC,withinC]
  split<;>simp only [Bool.and_eq_true,decide_eq_true_eq]<;>(repeat' split)<;>first | rfl | omega | (simp only [Bool.and_eq_true,decide_eq_true_eq] at *;omega)
theorem rnumber_ret (w0:World) (v:Value) (f:FieldD) (hf:FieldVal w0 v f):Ret Pg 57 #[v] w0 fun r w'=>r = .int .i64 (numC f)∧Ext w0 w':=by
 obtain ⟨tv,cv,rfl,hT,hC,ht1,hc1⟩:=hf.op
 refine n30s (R:=retR _) ?_;unfold n30
 simp (disch:=try exact DI) only [↓PR,QR,Int.reduceBEq,Int.reduceBNe,Int.reduceLT,Int.reduceLE,Int.reduceGT,Int.reduceGE,Int.reduceNeg]
 have hBW:=ElemAt.new (w:=w0) (fieldCells f tv cv) (52)
 have eW:Ext w0 (w0.alloc (Obj.cells (List.toArray (fieldCells f tv cv)) (52))):=(Ext.refl _).alloc _
 generalize (w0.alloc (Obj.cells (List.toArray (fieldCells f tv cv)) (52)))=W at hBW eW ⊢
 have hcell:=hBW.c15 (Ext.refl W)
 have hbad:bitsB f=false→Value.int .i64 6 = .int .i64 (numC f):=fun h=>by unfold numC;rw [h];rfl
 by_cases h1:f.bits < 1
 · have d1:decide (f.bits < 1)=true:=by simpa using h1
   simp (disch:=try exact DI) only [↓PR,QR,Int.reduceBEq,Int.reduceBNe,Int.reduceLT,Int.reduceLE,Int.reduceGT,Int.reduceGE,Int.reduceNeg,hcell,d1,↓n30c1,↓n30c2,↓n30c3,↓n30c4,↓n30c5,↓n30c6,↓n30c7,↓n30c8]
   exact ⟨hbad (by unfold bitsB;simp;omega),eW⟩
 have d1:decide (f.bits < 1)=false:=by simpa using h1
 by_cases h2:f.bits > 32
 · have d2:decide (f.bits > 32)=true:=by simpa using h2
   simp (disch:=try exact DI) only [↓PR,QR,Int.reduceBEq,Int.reduceBNe,Int.reduceLT,Int.reduceLE,Int.reduceGT,Int.reduceGE,Int.reduceNeg,hcell,d1,d2,↓n30c1,↓n30c2,↓n30c3,↓n30c4,↓n30c5,↓n30c6,↓n30c7,↓n30c8]
   exact ⟨hbad (by unfold bitsB;simp;omega),eW⟩
 have d2:decide (f.bits > 32)=false:=by simpa using h2
 have hsh:IntKind.i64.wrap (1*2 ^ f.bits.toNat)=2 ^ f.bits.toNat:=by
  have hle:f.bits.toNat≤32:=by omega
  have hq:(2:Nat) ^ f.bits.toNat≤2 ^ 32:=Nat.pow_le_pow_right (by decide) hle
  have hc:(2:Int) ^ f.bits.toNat=((2 ^ f.bits.toNat:Nat):Int):=by simp
  rw [Int.one_mul,hc]
  generalize (2:Nat) ^ f.bits.toNat=q at *
  have:(2:Nat) ^ 32=4294967296:=rfl
  exact wrap_ok (by omega) (by omega)
 have hrest:bitsB f=true→n30c3 (.pointer (some ⟨w0.heap.size,0,none⟩)) (retR fun r w'=>r = .int .i64 (numC f)∧Ext w0 w') W:=by
  intro hb
  have hv:numC f=if f.low < 0∨f.low > (if f.kind=2 then f.low else f.high)∨(if f.kind=2 then f.low else f.high)≥2 ^ f.bits.toNat then 7 else 0:=by unfold numC;rw [if_pos hb]
  rw [hv]
  clear hv
  have tail:∀ top:Int,top=(if f.kind=2 then f.low else f.high)→n30c2 (.pointer (some ⟨w0.heap.size,0,none⟩)) (.int .i64 top) (retR fun r w'=>r = .int .i64 (if f.low < 0∨f.low > (if f.kind=2 then f.low else f.high)∨(if f.kind=2 then f.low else f.high)≥2 ^ f.bits.toNat then 7 else 0)∧Ext w0 w') W:=by
   intro top ht
   rw [← ht]
   have h0:(0:Int)≤f.bits:=by omega
   have h64:f.bits≤64:=by omega
   unfold n30c2
   by_cases a1:f.low < 0
   · simp (disch:=try exact DI) only [↓PR,QR,Int.reduceBEq,Int.reduceBNe,Int.reduceLT,Int.reduceLE,Int.reduceGT,Int.reduceGE,Int.reduceNeg,hcell,show decide (f.low < 0)=true by simpa using a1]
     unfold n30c1
     simp (disch:=try exact DI) only [↓PR,QR,Int.reduceBEq,Int.reduceBNe,Int.reduceLT,Int.reduceLE,Int.reduceGT,Int.reduceGE,Int.reduceNeg]
     exact ⟨by rw [if_pos (.inl a1)],eW⟩
   by_cases a2:f.low > top
   · simp (disch:=try exact DI) only [↓PR,QR,Int.reduceBEq,Int.reduceBNe,Int.reduceLT,Int.reduceLE,Int.reduceGT,Int.reduceGE,Int.reduceNeg,hcell,show decide (f.low < 0)=false by simpa using a1,show decide (f.low > top)=true by simpa using a2]
     unfold n30c1
     simp (disch:=try exact DI) only [↓PR,QR,Int.reduceBEq,Int.reduceBNe,Int.reduceLT,Int.reduceLE,Int.reduceGT,Int.reduceGE,Int.reduceNeg]
     exact ⟨by rw [if_pos (.inr (.inl a2))],eW⟩
   by_cases a3:top≥2 ^ f.bits.toNat
   · simp (disch:=try exact DI) only [↓PR,QR,Int.reduceBEq,Int.reduceBNe,Int.reduceLT,Int.reduceLE,Int.reduceGT,Int.reduceGE,Int.reduceNeg,hcell,show decide (f.low < 0)=false by simpa using a1,show decide (f.low > top)=false by simpa using a2]
     unfold n30c1
     simp (disch:=try exact DI) only [↓PR,QR,Int.reduceBEq,Int.reduceBNe,Int.reduceLT,Int.reduceLE,Int.reduceGT,Int.reduceGE,Int.reduceNeg,hcell,hsh,show decide (top≥2 ^ f.bits.toNat)=true by simpa using a3]
     exact ⟨by rw [if_pos (.inr (.inr a3))],eW⟩
   · simp (disch:=try exact DI) only [↓PR,QR,Int.reduceBEq,Int.reduceBNe,Int.reduceLT,Int.reduceLE,Int.reduceGT,Int.reduceGE,Int.reduceNeg,hcell,show decide (f.low < 0)=false by simpa using a1,show decide (f.low > top)=false by simpa using a2]
     unfold n30c1
     simp (disch:=try exact DI) only [↓PR,QR,Int.reduceBEq,Int.reduceBNe,Int.reduceLT,Int.reduceLE,Int.reduceGT,Int.reduceGE,Int.reduceNeg,hcell,hsh,show decide (top≥2 ^ f.bits.toNat)=false by simpa using a3]
     exact ⟨by rw [if_neg (by rintro (h | h | h)<;>contradiction)],eW⟩
  unfold n30c3
  by_cases hk:f.kind=2
  · simp (disch:=try exact DI) only [↓PR,QR,Int.reduceBEq,Int.reduceBNe,Int.reduceLT,Int.reduceLE,Int.reduceGT,Int.reduceGE,Int.reduceNeg,hcell,show (f.kind == 2)=true by simpa using hk]
    exact tail _ (by rw [if_pos hk])
  · simp (disch:=try exact DI) only [↓PR,QR,Int.reduceBEq,Int.reduceBNe,Int.reduceLT,Int.reduceLE,Int.reduceGT,Int.reduceGE,Int.reduceNeg,hcell,show (f.kind == 2)=false by simpa using hk]
    exact tail _ (by rw [if_neg hk])
 cases hli:f.little with
 | false =>
  simp (disch:=try exact DI) only [↓PR,QR,Int.reduceBEq,Int.reduceBNe,Int.reduceLT,Int.reduceLE,Int.reduceGT,Int.reduceGE,Int.reduceNeg,hcell,hli,d1,d2,↓n30c8,↓n30c7,↓n30c6,↓n30c5,↓n30c4]
  exact hrest (by unfold bitsB;rw [hli];simp;omega)
 | true =>
  by_cases h16:f.bits=16
  · simp (disch:=try exact DI) only [↓PR,QR,Int.reduceBEq,Int.reduceBNe,Int.reduceLT,Int.reduceLE,Int.reduceGT,Int.reduceGE,Int.reduceNeg,hcell,hli,d1,d2,show (f.bits != 16)=false by simp [h16],↓n30c8,↓n30c7,↓n30c6,↓n30c5,↓n30c4]
    exact hrest (by unfold bitsB;rw [hli,h16];rfl)
  by_cases h24:f.bits=24
  · simp (disch:=try exact DI) only [↓PR,QR,Int.reduceBEq,Int.reduceBNe,Int.reduceLT,Int.reduceLE,Int.reduceGT,Int.reduceGE,Int.reduceNeg,hcell,hli,d1,d2,show (f.bits != 16)=true by simp [h16],show (f.bits != 24)=false by simp [h24],↓n30c8,↓n30c7,↓n30c6,↓n30c5,↓n30c4]
    exact hrest (by unfold bitsB;rw [hli,h24];rfl)
  by_cases h32:f.bits=32
  · simp (disch:=try exact DI) only [↓PR,QR,Int.reduceBEq,Int.reduceBNe,Int.reduceLT,Int.reduceLE,Int.reduceGT,Int.reduceGE,Int.reduceNeg,hcell,hli,d1,d2,show (f.bits != 16)=true by simp [h16],show (f.bits != 24)=true by simp [h24],show (f.bits != 32)=false by simp [h32],↓n30c8,↓n30c7,↓n30c6,↓n30c5,↓n30c4]
    exact hrest (by unfold bitsB;rw [hli,h32];rfl)
  · simp (disch:=try exact DI) only [↓PR,QR,Int.reduceBEq,Int.reduceBNe,Int.reduceLT,Int.reduceLE,Int.reduceGT,Int.reduceGE,Int.reduceNeg,hcell,hli,d1,d2,show (f.bits != 16)=true by simp [h16],show (f.bits != 24)=true by simp [h24],show (f.bits != 32)=true by simp [h32],↓n30c8,↓n30c7,↓n30c6,↓n30c5,↓n30c4]
    refine ⟨hbad ?_,eW⟩
    unfold bitsB
    rw [hli]
    by_cases h8:8 < f.bits
    · have:f.bits.tmod 8≠0:=by
       rw [Int.tmod_eq_emod_of_nonneg (by omega)];omega
      simp [this]
    · simp [h8]
end Go.Proofs.YtiajhbbmgglmlaaGreat
namespace Go.Proofs.YtiajhbbmgglmlaaGreat
open Sw
open Go.RowKit (intOf Below)
def zeroB (f:FieldD):Bool :=
 (hasB (usedS f.kind) 98||!(f.bits != 0))&&((hasB (usedS f.kind) 108||!f.little)&&((hasB (usedS f.kind) 111||!f.loose)&&((hasB (usedS f.kind) 120||!(f.low != 0))&&((hasB (usedS f.kind) 104||!(f.high != 0)) &&
 ((hasB (usedS f.kind) 115||!(f.base != 0||(f.terms.length:Int) != 0))&&((hasB (usedS f.kind) 102||!!decide (f.of=⟨#[]⟩))&&((hasB (usedS f.kind) 116||!!decide (f.tag=⟨#[]⟩))&&((hasB (usedS f.kind) 114||!!decide (f.fr=⟨#[]⟩)) &&
 ((hasB (usedS f.kind) 99||(f.cases.length:Int) == 0)&&((hasB (usedS f.kind) 107||f.check == 0)&&(hasB (usedS f.kind) 121||f.key == 0)))))))))))
theorem zeroB_clear {f:FieldD} (h:1≤f.kind∧f.kind≤12):zeroB f=decide (clearK f=bareF f):=by
 have:f.kind=1∨f.kind=2∨f.kind=3∨f.kind=4∨f.kind=5∨f.kind=6∨f.kind=7∨f.kind=8∨f.kind=9∨f.kind=10∨f.kind=11∨f.kind=12:=by omega
 have e:(⟨#[]⟩:ByteArray)=ByteArray.empty:=rfl
 rw [Bool.eq_iff_iff]
 unfold zeroB
 rcases this with hk | hk | hk | hk | hk | hk | hk | hk | hk | hk | hk | hk
 all_goals
  simp [clearK,clear1,clear2,clear3,clear4,clear5,clear6,clear7,clear8,clear9,clear10,clear11,clear12,bareF,hk,usedS,hasB,FieldD.mk.injEq,and_assoc,e]
  try omega
theorem guard_cases {b want:Bool} {p q:Prop} (h1:b=true→guardP (.bool true) want p q) (h2:b=false→guardP (.bool false) want p q):guardP (.bool b) want p q:=by
 cases b
 · exact h2 rfl
 · exact h1 rfl
theorem cond_cases {b:Bool} {p q:Prop} (h1:b=true→p) (h2:b=false→q):condP (.bool b) p q:=by
 cases b
 · exact h2 rfl
 · exact h1 rfl
end Go.Proofs.YtiajhbbmgglmlaaGreat
namespace Go.Proofs.YtiajhbbmgglmlaaGreat
open Sw
def n36c1 (t115 t119 t122:Value) (R:RT) (w:World):Prop :=
 joinK (fun (t123:Value) (w:World) =>
 pickK t115 t123 (.bool false) fun t124 =>
 R (.returned t124) w) fun K32 =>
 guardP t115 true (
 pickK t119 (.bool true) t122 fun t123 =>
 K32 t123 w) (
 K32 undef w)
def n36c2 (t1 t115 t119:Value) (R:RT) (w:World):Prop :=
 joinK (fun (t122:Value) (w:World) =>
 n36c1 t115 t119 t122 R w) fun K31 =>
 guardP t119 false (
 F0 52 t1 13 R w fun t120 w =>
 L0 3 t120 R w fun t121 w =>
 B0 .eql 3 true t121 (.int .i64 0) R w fun t122 w =>
 K31 t122 w) (
 K31 undef w)
def n36c3 (t1 t6 t106 t114:Value) (R:RT) (w:World):Prop :=
 pickK t106 t114 (.bool false) fun t115 =>
 joinK (fun (t119:Value) (w:World) =>
 n36c2 t1 t115 t119 R w) fun K30 =>
 guardP t115 true (
 C0 56 #[t6,(.int .u8 121)] R w fun t118 w =>
 K30 t118 w) (
 K30 undef w)
def n36c4 (t1 t6 t106 t110:Value) (R:RT) (w:World):Prop :=
 joinK (fun (t113:Value) (w:World) =>
 joinK (fun (t114:Value) (w:World) =>
 n36c3 t1 t6 t106 t114 R w) fun K29 =>
 guardP t106 true (
 pickK t110 (.bool true) t113 fun t114 =>
 K29 t114 w) (
 K29 undef w)) fun K28 =>
 guardP t110 false (
 F0 52 t1 12 R w fun t111 w =>
 L0 3 t111 R w fun t112 w =>
 B0 .eql 3 true t112 (.int .i64 0) R w fun t113 w =>
 K28 t113 w) (
 K28 undef w)
def n36c5 (t1 t6 t100 t105:Value) (R:RT) (w:World):Prop :=
 pickK t100 (.bool true) t105 fun t106 =>
 joinK (fun (t110:Value) (w:World) =>
 n36c4 t1 t6 t106 t110 R w) fun K27 =>
 guardP t106 true (
 C0 56 #[t6,(.int .u8 107)] R w fun t109 w =>
 K27 t109 w) (
 K27 undef w)
def n36c6 (t1 t6 t100:Value) (R:RT) (w:World):Prop :=
 joinK (fun (t105:Value) (w:World) =>
 n36c5 t1 t6 t100 t105 R w) fun K26 =>
 guardP t100 false (
 F0 52 t1 11 R w fun t102 w =>
 L0 50 t102 R w fun t103 w =>
 opV Pg (Builtin.len_ #[50] 3 #[t103]) (panK R) w fun t104 w =>
 B0 .eql 3 true t104 (.int .i64 0) R w fun t105 w =>
 K26 t105 w) (
 K26 undef w)
def n36c7 (t1 t6 t88 t97:Value) (R:RT) (w:World):Prop :=
 pickK t88 (.bool true) t97 fun t98 =>
 condP t98 (
 R (.returned (.bool false)) w) (
 C0 56 #[t6,(.int .u8 99)] R w fun t100 w =>
 n36c6 t1 t6 t100 R w)
def n36c8 (t1 t6 t88 t93:Value) (R:RT) (w:World):Prop :=
 joinK (fun (t96:Value) (w:World) =>
 joinK (fun (t97:Value) (w:World) =>
 n36c7 t1 t6 t88 t97 R w) fun K25 =>
 guardP t88 false (
 pickK t93 t96 (.bool false) fun t97 =>
 K25 t97 w) (
 K25 undef w)) fun K24 =>
 guardP t93 true (
 F0 52 t1 10 R w fun t94 w =>
 L0 9 t94 R w fun t95 w =>
 opV Pg (binS .neq 9 true t95 (.string { data := #[] })) (panK R) w fun t96 w =>
 K24 t96 w) (
 K24 undef w)
def n36c9 (t1 t6 t78 t87:Value) (R:RT) (w:World):Prop :=
 pickK t78 (.bool true) t87 fun t88 =>
 joinK (fun (t93:Value) (w:World) =>
 n36c8 t1 t6 t88 t93 R w) fun K23 =>
 guardP t88 false (
 C0 56 #[t6,(.int .u8 114)] R w fun t91 w =>
 opV Pg (Op.unary .not t91) (panK R) w fun t92 w =>
 K23 t92 w) (
 K23 undef w)
def n36c10 (t1 t6 t78 t83:Value) (R:RT) (w:World):Prop :=
 joinK (fun (t86:Value) (w:World) =>
 joinK (fun (t87:Value) (w:World) =>
 n36c9 t1 t6 t78 t87 R w) fun K22 =>
 guardP t78 false (
 pickK t83 t86 (.bool false) fun t87 =>
 K22 t87 w) (
 K22 undef w)) fun K21 =>
 guardP t83 true (
 F0 52 t1 9 R w fun t84 w =>
 L0 9 t84 R w fun t85 w =>
 opV Pg (binS .neq 9 true t85 (.string { data := #[] })) (panK R) w fun t86 w =>
 K21 t86 w) (
 K21 undef w)
def n36c11 (t1 t6 t68 t77:Value) (R:RT) (w:World):Prop :=
 pickK t68 (.bool true) t77 fun t78 =>
 joinK (fun (t83:Value) (w:World) =>
 n36c10 t1 t6 t78 t83 R w) fun K20 =>
 guardP t78 false (
 C0 56 #[t6,(.int .u8 116)] R w fun t81 w =>
 opV Pg (Op.unary .not t81) (panK R) w fun t82 w =>
 K20 t82 w) (
 K20 undef w)
def n36c12 (t1 t6 t68 t73:Value) (R:RT) (w:World):Prop :=
 joinK (fun (t76:Value) (w:World) =>
 joinK (fun (t77:Value) (w:World) =>
 n36c11 t1 t6 t68 t77 R w) fun K19 =>
 guardP t68 false (
 pickK t73 t76 (.bool false) fun t77 =>
 K19 t77 w) (
 K19 undef w)) fun K18 =>
 guardP t73 true (
 F0 52 t1 8 R w fun t74 w =>
 L0 9 t74 R w fun t75 w =>
 opV Pg (binS .neq 9 true t75 (.string { data := #[] })) (panK R) w fun t76 w =>
 K18 t76 w) (
 K18 undef w)
def n36c13 (t1 t6 t55 t67:Value) (R:RT) (w:World):Prop :=
 pickK t55 t67 (.bool false) fun t68 =>
 joinK (fun (t73:Value) (w:World) =>
 n36c12 t1 t6 t68 t73 R w) fun K17 =>
 guardP t68 false (
 C0 56 #[t6,(.int .u8 102)] R w fun t71 w =>
 opV Pg (Op.unary .not t71) (panK R) w fun t72 w =>
 K17 t72 w) (
 K17 undef w)
def n36c14 (t1 t6 t55 t61:Value) (R:RT) (w:World):Prop :=
 joinK (fun (t66:Value) (w:World) =>
 joinK (fun (t67:Value) (w:World) =>
 n36c13 t1 t6 t55 t67 R w) fun K16 =>
 guardP t55 true (
 pickK t61 (.bool true) t66 fun t67 =>
 K16 t67 w) (
 K16 undef w)) fun K15 =>
 guardP t61 false (
 F0 52 t1 7 R w fun t62 w =>
 F0 49 t62 1 R w fun t63 w =>
 L0 47 t63 R w fun t64 w =>
 opV Pg (Builtin.len_ #[47] 3 #[t64]) (panK R) w fun t65 w =>
 B0 .neq 3 true t65 (.int .i64 0) R w fun t66 w =>
 K15 t66 w) (
 K15 undef w)
def n36c15 (t1 t6 t54:Value) (R:RT) (w:World):Prop :=
 opV Pg (Op.unary .not t54) (panK R) w fun t55 w =>
 joinK (fun (t61:Value) (w:World) =>
 n36c14 t1 t6 t55 t61 R w) fun K14 =>
 guardP t55 true (
 F0 52 t1 7 R w fun t57 w =>
 F0 49 t57 0 R w fun t58 w =>
 L0 3 t58 R w fun t59 w =>
 B0 .neq 3 true t59 (.int .i64 0) R w fun t60 w =>
 K14 t60 w) (
 K14 undef w)
def n36c16 (t1 t6 t42 t51:Value) (R:RT) (w:World):Prop :=
 pickK t42 (.bool true) t51 fun t52 =>
 condP t52 (
 R (.returned (.bool false)) w) (
 C0 56 #[t6,(.int .u8 115)] R w fun t54 w =>
 n36c15 t1 t6 t54 R w)
def n36c17 (t1 t6 t42 t47:Value) (R:RT) (w:World):Prop :=
 joinK (fun (t50:Value) (w:World) =>
 joinK (fun (t51:Value) (w:World) =>
 n36c16 t1 t6 t42 t51 R w) fun K13 =>
 guardP t42 false (
 pickK t47 t50 (.bool false) fun t51 =>
 K13 t51 w) (
 K13 undef w)) fun K12 =>
 guardP t47 true (
 F0 52 t1 6 R w fun t48 w =>
 L0 3 t48 R w fun t49 w =>
 B0 .neq 3 true t49 (.int .i64 0) R w fun t50 w =>
 K12 t50 w) (
 K12 undef w)
def n36c18 (t1 t6 t32 t41:Value) (R:RT) (w:World):Prop :=
 pickK t32 (.bool true) t41 fun t42 =>
 joinK (fun (t47:Value) (w:World) =>
 n36c17 t1 t6 t42 t47 R w) fun K11 =>
 guardP t42 false (
 C0 56 #[t6,(.int .u8 104)] R w fun t45 w =>
 opV Pg (Op.unary .not t45) (panK R) w fun t46 w =>
 K11 t46 w) (
 K11 undef w)
def n36c19 (t1 t6 t32 t37:Value) (R:RT) (w:World):Prop :=
 joinK (fun (t40:Value) (w:World) =>
 joinK (fun (t41:Value) (w:World) =>
 n36c18 t1 t6 t32 t41 R w) fun K10 =>
 guardP t32 false (
 pickK t37 t40 (.bool false) fun t41 =>
 K10 t41 w) (
 K10 undef w)) fun K9 =>
 guardP t37 true (
 F0 52 t1 5 R w fun t38 w =>
 L0 3 t38 R w fun t39 w =>
 B0 .neq 3 true t39 (.int .i64 0) R w fun t40 w =>
 K9 t40 w) (
 K9 undef w)
def n36c20 (t1 t6 t23 t31:Value) (R:RT) (w:World):Prop :=
 pickK t23 (.bool true) t31 fun t32 =>
 joinK (fun (t37:Value) (w:World) =>
 n36c19 t1 t6 t32 t37 R w) fun K8 =>
 guardP t32 false (
 C0 56 #[t6,(.int .u8 120)] R w fun t35 w =>
 opV Pg (Op.unary .not t35) (panK R) w fun t36 w =>
 K8 t36 w) (
 K8 undef w)
def n36c21 (t1 t6 t23 t28:Value) (R:RT) (w:World):Prop :=
 joinK (fun (t30:Value) (w:World) =>
 joinK (fun (t31:Value) (w:World) =>
 n36c20 t1 t6 t23 t31 R w) fun K7 =>
 guardP t23 false (
 pickK t28 t30 (.bool false) fun t31 =>
 K7 t31 w) (
 K7 undef w)) fun K6 =>
 guardP t28 true (
 F0 52 t1 4 R w fun t29 w =>
 L0 4 t29 R w fun t30 w =>
 K6 t30 w) (
 K6 undef w)
def n36c22 (t1 t6 t14 t22:Value) (R:RT) (w:World):Prop :=
 pickK t14 (.bool true) t22 fun t23 =>
 joinK (fun (t28:Value) (w:World) =>
 n36c21 t1 t6 t23 t28 R w) fun K5 =>
 guardP t23 false (
 C0 56 #[t6,(.int .u8 111)] R w fun t26 w =>
 opV Pg (Op.unary .not t26) (panK R) w fun t27 w =>
 K5 t27 w) (
 K5 undef w)
def n36c23 (t1 t6 t14 t19:Value) (R:RT) (w:World):Prop :=
 joinK (fun (t21:Value) (w:World) =>
 joinK (fun (t22:Value) (w:World) =>
 n36c22 t1 t6 t14 t22 R w) fun K4 =>
 guardP t14 false (
 pickK t19 t21 (.bool false) fun t22 =>
 K4 t22 w) (
 K4 undef w)) fun K3 =>
 guardP t19 true (
 F0 52 t1 3 R w fun t20 w =>
 L0 4 t20 R w fun t21 w =>
 K3 t21 w) (
 K3 undef w)
def n36c24 (t1 t6 t9 t13:Value) (R:RT) (w:World):Prop :=
 pickK t9 t13 (.bool false) fun t14 =>
 joinK (fun (t19:Value) (w:World) =>
 n36c23 t1 t6 t14 t19 R w) fun K2 =>
 guardP t14 false (
 C0 56 #[t6,(.int .u8 108)] R w fun t17 w =>
 opV Pg (Op.unary .not t17) (panK R) w fun t18 w =>
 K2 t18 w) (
 K2 undef w)
def n36c25 (t1 t6 t8:Value) (R:RT) (w:World):Prop :=
 opV Pg (Op.unary .not t8) (panK R) w fun t9 w =>
 joinK (fun (t13:Value) (w:World) =>
 n36c24 t1 t6 t9 t13 R w) fun K1 =>
 guardP t9 true (
 F0 52 t1 2 R w fun t11 w =>
 L0 3 t11 R w fun t12 w =>
 B0 .neq 3 true t12 (.int .i64 0) R w fun t13 w =>
 K1 t13 w) (
 K1 undef w)
def n36 (t0:Value) (R:RT) (w:World):Prop :=
 opV Pg (Instr.box 52 t0) (panK R) w fun t1 w =>
 F0 52 t1 1 R w fun t4 w =>
 L0 46 t4 R w fun t5 w =>
 C0 55 #[t5] R w fun t6 w =>
 C0 56 #[t6,(.int .u8 98)] R w fun t8 w =>
 n36c25 t1 t6 t8 R w
theorem n36s {t0:Value} {R:RT} {w:World} (h:n36 t0 R w):Calls Pg 43 #[t0] w R:=by
 refine calls_of_den (args:=[t0]) Tryz.func43 rfl (Nat.le_of_ble_eq_true rfl) ?_
 unfold n36 at h
 refine zs<|zr ?_
 refine zv h fun t1 w h=>?_
 refine zm<|zn<|zk<|zs<|zr ?_
 refine zv h fun t4 w h=>?_
 refine zv h fun t5 w h=>?_
 refine zc h c55 fun t6 w h=>?_
 refine zm<|zn<|zk<|zs<|zs<|sim_regionG ?_
 refine sim_seg 4 rfl ?_
 refine zm ?_
 refine zc h c56 fun t8 w h=>?_
 refine zv h fun t9 w h=>?_
 refine zm<|zn ?_
 refine joinK_elim h (fun K1 hK h=>?_)
 refine sim_groupJ 3 3 true [11,12,13] (fun ρ w=>K1 (ρ 13) w) rfl rfl (fun T hT=>guardP_mono h (fun h=>?_) (fun h=>?_)) (fun σ w h=>?_)
 · refine zv h fun t11 w h=>?_
   refine zv h fun t12 w h=>?_
   refine zb h fun t13 w h=>?_
   refine zn ?_
   exact zt hT h
 · exact zt hT h
 subst hK
 refine sim_seg 2 rfl ?_
 refine sim_pick h rfl rfl rfl ?_;intro t14 h
 refine zm<|zn ?_
 refine joinK_elim h (fun K2 hK h=>?_)
 refine sim_groupJ 4 8 false [16,17,18,19] (fun ρ w=>K2 (ρ 19) w) rfl rfl (fun T hT=>guardP_mono h (fun h=>?_) (fun h=>?_)) (fun σ w h=>?_)
 · refine zm ?_
   refine zc h c56 fun t17 w h=>?_
   refine zv h fun t18 w h=>?_
   refine zm<|zn ?_
   exact zt hT h
 · exact zt hT h
 subst hK
 refine joinK_elim h (fun K3 hK h=>?_)
 refine sim_groupJ 2 12 true [20,21] (fun ρ w=>K3 (ρ 21) w) rfl rfl (fun T hT=>guardP_mono h (fun h=>?_) (fun h=>?_)) (fun σ w h=>?_)
 · refine zv h fun t20 w h=>?_
   refine zv h fun t21 w h=>?_
   refine zn ?_
   exact zt hT h
 · exact zt hT h
 subst hK
 refine joinK_elim h (fun K4 hK h=>?_)
 refine sim_groupJ 1 8 false [22] (fun ρ w=>K4 (ρ 22) w) rfl rfl (fun T hT=>guardP_mono h (fun h=>?_) (fun h=>?_)) (fun σ w h=>?_)
 · refine sim_pick h rfl rfl rfl ?_;intro t22 h
   refine zn ?_
   exact zt hT h
 · exact zt hT h
 subst hK
 refine sim_seg 2 rfl ?_
 refine sim_pick h rfl rfl rfl ?_;intro t23 h
 refine zm<|zn ?_
 refine joinK_elim h (fun K5 hK h=>?_)
 refine sim_groupJ 4 17 false [25,26,27,28] (fun ρ w=>K5 (ρ 28) w) rfl rfl (fun T hT=>guardP_mono h (fun h=>?_) (fun h=>?_)) (fun σ w h=>?_)
 · refine zm ?_
   refine zc h c56 fun t26 w h=>?_
   refine zv h fun t27 w h=>?_
   refine zm<|zn ?_
   exact zt hT h
 · exact zt hT h
 subst hK
 refine joinK_elim h (fun K6 hK h=>?_)
 refine sim_groupJ 2 21 true [29,30] (fun ρ w=>K6 (ρ 30) w) rfl rfl (fun T hT=>guardP_mono h (fun h=>?_) (fun h=>?_)) (fun σ w h=>?_)
 · refine zv h fun t29 w h=>?_
   refine zv h fun t30 w h=>?_
   refine zn ?_
   exact zt hT h
 · exact zt hT h
 subst hK
 refine joinK_elim h (fun K7 hK h=>?_)
 refine sim_groupJ 1 17 false [31] (fun ρ w=>K7 (ρ 31) w) rfl rfl (fun T hT=>guardP_mono h (fun h=>?_) (fun h=>?_)) (fun σ w h=>?_)
 · refine sim_pick h rfl rfl rfl ?_;intro t31 h
   refine zn ?_
   exact zt hT h
 · exact zt hT h
 subst hK
 refine sim_seg 2 rfl ?_
 refine sim_pick h rfl rfl rfl ?_;intro t32 h
 refine zm<|zn ?_
 refine joinK_elim h (fun K8 hK h=>?_)
 refine sim_groupJ 4 26 false [34,35,36,37] (fun ρ w=>K8 (ρ 37) w) rfl rfl (fun T hT=>guardP_mono h (fun h=>?_) (fun h=>?_)) (fun σ w h=>?_)
 · refine zm ?_
   refine zc h c56 fun t35 w h=>?_
   refine zv h fun t36 w h=>?_
   refine zm<|zn ?_
   exact zt hT h
 · exact zt hT h
 subst hK
 refine joinK_elim h (fun K9 hK h=>?_)
 refine sim_groupJ 3 30 true [38,39,40] (fun ρ w=>K9 (ρ 40) w) rfl rfl (fun T hT=>guardP_mono h (fun h=>?_) (fun h=>?_)) (fun σ w h=>?_)
 · refine zv h fun t38 w h=>?_
   refine zv h fun t39 w h=>?_
   refine zb h fun t40 w h=>?_
   refine zn ?_
   exact zt hT h
 · exact zt hT h
 subst hK
 refine joinK_elim h (fun K10 hK h=>?_)
 refine sim_groupJ 1 26 false [41] (fun ρ w=>K10 (ρ 41) w) rfl rfl (fun T hT=>guardP_mono h (fun h=>?_) (fun h=>?_)) (fun σ w h=>?_)
 · refine sim_pick h rfl rfl rfl ?_;intro t41 h
   refine zn ?_
   exact zt hT h
 · exact zt hT h
 subst hK
 refine sim_seg 2 rfl ?_
 refine sim_pick h rfl rfl rfl ?_;intro t42 h
 refine zm<|zn ?_
 refine joinK_elim h (fun K11 hK h=>?_)
 refine sim_groupJ 4 36 false [44,45,46,47] (fun ρ w=>K11 (ρ 47) w) rfl rfl (fun T hT=>guardP_mono h (fun h=>?_) (fun h=>?_)) (fun σ w h=>?_)
 · refine zm ?_
   refine zc h c56 fun t45 w h=>?_
   refine zv h fun t46 w h=>?_
   refine zm<|zn ?_
   exact zt hT h
 · exact zt hT h
 subst hK
 refine joinK_elim h (fun K12 hK h=>?_)
 refine sim_groupJ 3 40 true [48,49,50] (fun ρ w=>K12 (ρ 50) w) rfl rfl (fun T hT=>guardP_mono h (fun h=>?_) (fun h=>?_)) (fun σ w h=>?_)
 · refine zv h fun t48 w h=>?_
   refine zv h fun t49 w h=>?_
   refine zb h fun t50 w h=>?_
   refine zn ?_
   exact zt hT h
 · exact zt hT h
 subst hK
 refine joinK_elim h (fun K13 hK h=>?_)
 refine sim_groupJ 1 36 false [51] (fun ρ w=>K13 (ρ 51) w) rfl rfl (fun T hT=>guardP_mono h (fun h=>?_) (fun h=>?_)) (fun σ w h=>?_)
 · refine sim_pick h rfl rfl rfl ?_;intro t51 h
   refine zn ?_
   exact zt hT h
 · exact zt hT h
 subst hK
 refine sim_seg 1 rfl ?_
 refine sim_pick h rfl rfl rfl ?_;intro t52 h
 refine zn<|sim_end<|zk ?_
 refine sim_cond h rfl (fun h=>?_) (fun h=>?_)
 · refine zs<|zr<|zm<|zn<|zk<|sim_ret<|sim_then_ret ?_
   exact body_ret1 rfl rfl h
 · refine sim_skip<|zk<|zs<|zs<|sim_regionG ?_
   refine sim_seg 4 rfl ?_
   refine zm ?_
   refine zc h c56 fun t54 w h=>?_
   refine zv h fun t55 w h=>?_
   refine zm<|zn ?_
   refine joinK_elim h (fun K14 hK h=>?_)
   refine sim_groupJ 5 3 true [57,58,59,60,61] (fun ρ w=>K14 (ρ 61) w) rfl rfl (fun T hT=>guardP_mono h (fun h=>?_) (fun h=>?_)) (fun σ w h=>?_)
   · refine zv h fun t57 w h=>?_
     refine zv h fun t58 w h=>?_
     refine zv h fun t59 w h=>?_
     refine zb h fun t60 w h=>?_
     refine zm<|zn ?_
     exact zt hT h
   · exact zt hT h
   subst hK
   refine joinK_elim h (fun K15 hK h=>?_)
   refine sim_groupJ 5 8 false [62,63,64,65,66] (fun ρ w=>K15 (ρ 66) w) rfl rfl (fun T hT=>guardP_mono h (fun h=>?_) (fun h=>?_)) (fun σ w h=>?_)
   · refine zv h fun t62 w h=>?_
     refine zv h fun t63 w h=>?_
     refine zv h fun t64 w h=>?_
     refine zx h fun t65 w h=>?_
     refine zb h fun t66 w h=>?_
     refine zn ?_
     exact zt hT h
   · exact zt hT h
   subst hK
   refine joinK_elim h (fun K16 hK h=>?_)
   refine sim_groupJ 1 3 true [67] (fun ρ w=>K16 (ρ 67) w) rfl rfl (fun T hT=>guardP_mono h (fun h=>?_) (fun h=>?_)) (fun σ w h=>?_)
   · refine sim_pick h rfl rfl rfl ?_;intro t67 h
     refine zn ?_
     exact zt hT h
   · exact zt hT h
   subst hK
   refine sim_seg 2 rfl ?_
   refine sim_pick h rfl rfl rfl ?_;intro t68 h
   refine zm<|zn ?_
   refine joinK_elim h (fun K17 hK h=>?_)
   refine sim_groupJ 4 16 false [70,71,72,73] (fun ρ w=>K17 (ρ 73) w) rfl rfl (fun T hT=>guardP_mono h (fun h=>?_) (fun h=>?_)) (fun σ w h=>?_)
   · refine zm ?_
     refine zc h c56 fun t71 w h=>?_
     refine zv h fun t72 w h=>?_
     refine zm<|zn ?_
     exact zt hT h
   · exact zt hT h
   subst hK
   refine joinK_elim h (fun K18 hK h=>?_)
   refine sim_groupJ 3 20 true [74,75,76] (fun ρ w=>K18 (ρ 76) w) rfl rfl (fun T hT=>guardP_mono h (fun h=>?_) (fun h=>?_)) (fun σ w h=>?_)
   · refine zv h fun t74 w h=>?_
     refine zv h fun t75 w h=>?_
     refine zb h fun t76 w h=>?_
     refine zn ?_
     exact zt hT h
   · exact zt hT h
   subst hK
   refine joinK_elim h (fun K19 hK h=>?_)
   refine sim_groupJ 1 16 false [77] (fun ρ w=>K19 (ρ 77) w) rfl rfl (fun T hT=>guardP_mono h (fun h=>?_) (fun h=>?_)) (fun σ w h=>?_)
   · refine sim_pick h rfl rfl rfl ?_;intro t77 h
     refine zn ?_
     exact zt hT h
   · exact zt hT h
   subst hK
   refine sim_seg 2 rfl ?_
   refine sim_pick h rfl rfl rfl ?_;intro t78 h
   refine zm<|zn ?_
   refine joinK_elim h (fun K20 hK h=>?_)
   refine sim_groupJ 4 26 false [80,81,82,83] (fun ρ w=>K20 (ρ 83) w) rfl rfl (fun T hT=>guardP_mono h (fun h=>?_) (fun h=>?_)) (fun σ w h=>?_)
   · refine zm ?_
     refine zc h c56 fun t81 w h=>?_
     refine zv h fun t82 w h=>?_
     refine zm<|zn ?_
     exact zt hT h
   · exact zt hT h
   subst hK
   refine joinK_elim h (fun K21 hK h=>?_)
   refine sim_groupJ 3 30 true [84,85,86] (fun ρ w=>K21 (ρ 86) w) rfl rfl (fun T hT=>guardP_mono h (fun h=>?_) (fun h=>?_)) (fun σ w h=>?_)
   · refine zv h fun t84 w h=>?_
     refine zv h fun t85 w h=>?_
     refine zb h fun t86 w h=>?_
     refine zn ?_
     exact zt hT h
   · exact zt hT h
   subst hK
   refine joinK_elim h (fun K22 hK h=>?_)
   refine sim_groupJ 1 26 false [87] (fun ρ w=>K22 (ρ 87) w) rfl rfl (fun T hT=>guardP_mono h (fun h=>?_) (fun h=>?_)) (fun σ w h=>?_)
   · refine sim_pick h rfl rfl rfl ?_;intro t87 h
     refine zn ?_
     exact zt hT h
   · exact zt hT h
   subst hK
   refine sim_seg 2 rfl ?_
   refine sim_pick h rfl rfl rfl ?_;intro t88 h
   refine zm<|zn ?_
   refine joinK_elim h (fun K23 hK h=>?_)
   refine sim_groupJ 4 36 false [90,91,92,93] (fun ρ w=>K23 (ρ 93) w) rfl rfl (fun T hT=>guardP_mono h (fun h=>?_) (fun h=>?_)) (fun σ w h=>?_)
   · refine zm ?_
     refine zc h c56 fun t91 w h=>?_
     refine zv h fun t92 w h=>?_
     refine zm<|zn ?_
     exact zt hT h
   · exact zt hT h
   subst hK
   refine joinK_elim h (fun K24 hK h=>?_)
   refine sim_groupJ 3 40 true [94,95,96] (fun ρ w=>K24 (ρ 96) w) rfl rfl (fun T hT=>guardP_mono h (fun h=>?_) (fun h=>?_)) (fun σ w h=>?_)
   · refine zv h fun t94 w h=>?_
     refine zv h fun t95 w h=>?_
     refine zb h fun t96 w h=>?_
     refine zn ?_
     exact zt hT h
   · exact zt hT h
   subst hK
   refine joinK_elim h (fun K25 hK h=>?_)
   refine sim_groupJ 1 36 false [97] (fun ρ w=>K25 (ρ 97) w) rfl rfl (fun T hT=>guardP_mono h (fun h=>?_) (fun h=>?_)) (fun σ w h=>?_)
   · refine sim_pick h rfl rfl rfl ?_;intro t97 h
     refine zn ?_
     exact zt hT h
   · exact zt hT h
   subst hK
   refine sim_seg 1 rfl ?_
   refine sim_pick h rfl rfl rfl ?_;intro t98 h
   refine zn<|sim_end<|zk ?_
   refine sim_cond h rfl (fun h=>?_) (fun h=>?_)
   · refine zs<|zr<|zm<|zn<|zk<|sim_ret<|sim_then_ret ?_
     exact body_ret1 rfl rfl h
   · refine sim_skip<|zk<|zs<|sim_regionG ?_
     refine sim_seg 3 rfl ?_
     refine zm ?_
     refine zc h c56 fun t100 w h=>?_
     refine zm<|zn ?_
     refine joinK_elim h (fun K26 hK h=>?_)
     refine sim_groupJ 4 2 false [102,103,104,105] (fun ρ w=>K26 (ρ 105) w) rfl rfl (fun T hT=>guardP_mono h (fun h=>?_) (fun h=>?_)) (fun σ w h=>?_)
     · refine zv h fun t102 w h=>?_
       refine zv h fun t103 w h=>?_
       refine zx h fun t104 w h=>?_
       refine zb h fun t105 w h=>?_
       refine zn ?_
       exact zt hT h
     · exact zt hT h
     subst hK
     refine sim_seg 2 rfl ?_
     refine sim_pick h rfl rfl rfl ?_;intro t106 h
     refine zm<|zn ?_
     refine joinK_elim h (fun K27 hK h=>?_)
     refine sim_groupJ 3 8 true [108,109,110] (fun ρ w=>K27 (ρ 110) w) rfl rfl (fun T hT=>guardP_mono h (fun h=>?_) (fun h=>?_)) (fun σ w h=>?_)
     · refine zm ?_
       refine zc h c56 fun t109 w h=>?_
       refine zm<|zn ?_
       exact zt hT h
     · exact zt hT h
     subst hK
     refine joinK_elim h (fun K28 hK h=>?_)
     refine sim_groupJ 3 11 false [111,112,113] (fun ρ w=>K28 (ρ 113) w) rfl rfl (fun T hT=>guardP_mono h (fun h=>?_) (fun h=>?_)) (fun σ w h=>?_)
     · refine zv h fun t111 w h=>?_
       refine zv h fun t112 w h=>?_
       refine zb h fun t113 w h=>?_
       refine zn ?_
       exact zt hT h
     · exact zt hT h
     subst hK
     refine joinK_elim h (fun K29 hK h=>?_)
     refine sim_groupJ 1 8 true [114] (fun ρ w=>K29 (ρ 114) w) rfl rfl (fun T hT=>guardP_mono h (fun h=>?_) (fun h=>?_)) (fun σ w h=>?_)
     · refine sim_pick h rfl rfl rfl ?_;intro t114 h
       refine zn ?_
       exact zt hT h
     · exact zt hT h
     subst hK
     refine sim_seg 2 rfl ?_
     refine sim_pick h rfl rfl rfl ?_;intro t115 h
     refine zm<|zn ?_
     refine joinK_elim h (fun K30 hK h=>?_)
     refine sim_groupJ 3 17 true [117,118,119] (fun ρ w=>K30 (ρ 119) w) rfl rfl (fun T hT=>guardP_mono h (fun h=>?_) (fun h=>?_)) (fun σ w h=>?_)
     · refine zm ?_
       refine zc h c56 fun t118 w h=>?_
       refine zm<|zn ?_
       exact zt hT h
     · exact zt hT h
     subst hK
     refine joinK_elim h (fun K31 hK h=>?_)
     refine sim_groupJ 3 20 false [120,121,122] (fun ρ w=>K31 (ρ 122) w) rfl rfl (fun T hT=>guardP_mono h (fun h=>?_) (fun h=>?_)) (fun σ w h=>?_)
     · refine zv h fun t120 w h=>?_
       refine zv h fun t121 w h=>?_
       refine zb h fun t122 w h=>?_
       refine zn ?_
       exact zt hT h
     · exact zt hT h
     subst hK
     refine joinK_elim h (fun K32 hK h=>?_)
     refine sim_groupJ 1 17 true [123] (fun ρ w=>K32 (ρ 123) w) rfl rfl (fun T hT=>guardP_mono h (fun h=>?_) (fun h=>?_)) (fun σ w h=>?_)
     · refine sim_pick h rfl rfl rfl ?_;intro t123 h
       refine zn ?_
       exact zt hT h
     · exact zt hT h
     subst hK
     refine sim_seg 2 rfl ?_
     refine sim_pick h rfl rfl rfl ?_;intro t124 h
     refine zm<|zn<|sim_end<|zk<|sim_ret ?_
     exact body_ret1 rfl rfl h
end Go.Proofs.YtiajhbbmgglmlaaGreat
namespace Go.Proofs.YtiajhbbmgglmlaaGreat
open Sw
open Go.RowKit (intOf Below)
theorem HT:hasB (usedS 1) 98=true∧hasB (usedS 1) 108=true∧hasB (usedS 1) 111=false∧hasB (usedS 1) 120=true∧hasB (usedS 1) 104=true∧hasB (usedS 1) 115=false∧hasB (usedS 1) 102=false∧hasB (usedS 1) 116=false∧hasB (usedS 1) 114=false∧hasB (usedS 1) 99=false∧hasB (usedS 1) 107=false∧hasB (usedS 1) 121=false∧hasB (usedS 2) 98=true∧hasB (usedS 2) 108=true∧hasB (usedS 2) 111=false∧hasB (usedS 2) 120=true∧hasB (usedS 2) 104=false∧hasB (usedS 2) 115=false∧hasB (usedS 2) 102=false∧hasB (usedS 2) 116=false∧hasB (usedS 2) 114=false∧hasB (usedS 2) 99=false∧hasB (usedS 2) 107=false∧hasB (usedS 2) 121=false∧hasB (usedS 3) 98=false∧hasB (usedS 3) 108=false∧hasB (usedS 3) 111=true∧hasB (usedS 3) 120=true∧hasB (usedS 3) 104=true∧hasB (usedS 3) 115=false∧hasB (usedS 3) 102=false∧hasB (usedS 3) 116=false∧hasB (usedS 3) 114=false∧hasB (usedS 3) 99=false∧hasB (usedS 3) 107=false∧hasB (usedS 3) 121=false∧hasB (usedS 4) 98=false∧hasB (usedS 4) 108=false∧hasB (usedS 4) 111=false∧hasB (usedS 4) 120=false∧hasB (usedS 4) 104=false∧hasB (usedS 4) 115=true∧hasB (usedS 4) 102=false∧hasB (usedS 4) 116=false∧hasB (usedS 4) 114=false∧hasB (usedS 4) 99=false∧hasB (usedS 4) 107=false∧hasB (usedS 4) 121=false∧hasB (usedS 5) 98=false∧hasB (usedS 5) 108=false∧hasB (usedS 5) 111=false∧hasB (usedS 5) 120=true∧hasB (usedS 5) 104=true∧hasB (usedS 5) 115=false∧hasB (usedS 5) 102=false∧hasB (usedS 5) 116=false∧hasB (usedS 5) 114=false∧hasB (usedS 5) 99=false∧hasB (usedS 5) 107=false∧hasB (usedS 5) 121=false∧hasB (usedS 6) 98=false∧hasB (usedS 6) 108=false∧hasB (usedS 6) 111=true∧hasB (usedS 6) 120=false∧hasB (usedS 6) 104=true∧hasB (usedS 6) 115=false∧hasB (usedS 6) 102=false∧hasB (usedS 6) 116=false∧hasB (usedS 6) 114=false∧hasB (usedS 6) 99=false∧hasB (usedS 6) 107=false∧hasB (usedS 6) 121=false∧hasB (usedS 7) 98=false∧hasB (usedS 7) 108=false∧hasB (usedS 7) 111=false∧hasB (usedS 7) 120=false∧hasB (usedS 7) 104=false∧hasB (usedS 7) 115=true∧hasB (usedS 7) 102=true∧hasB (usedS 7) 116=false∧hasB (usedS 7) 114=false∧hasB (usedS 7) 99=false∧hasB (usedS 7) 107=false∧hasB (usedS 7) 121=false∧hasB (usedS 8) 98=false∧hasB (usedS 8) 108=false∧hasB (usedS 8) 111=false∧hasB (usedS 8) 120=false∧hasB (usedS 8) 104=false∧hasB (usedS 8) 115=false∧hasB (usedS 8) 102=true∧hasB (usedS 8) 116=false∧hasB (usedS 8) 114=false∧hasB (usedS 8) 99=false∧hasB (usedS 8) 107=false∧hasB (usedS 8) 121=false∧hasB (usedS 9) 98=false∧hasB (usedS 9) 108=false∧hasB (usedS 9) 111=false∧hasB (usedS 9) 120=false∧hasB (usedS 9) 104=false∧hasB (usedS 9) 115=false∧hasB (usedS 9) 102=false∧hasB (usedS 9) 116=true∧hasB (usedS 9) 114=false∧hasB (usedS 9) 99=true∧hasB (usedS 9) 107=false∧hasB (usedS 9) 121=false∧hasB (usedS 10) 98=true∧hasB (usedS 10) 108=false∧hasB (usedS 10) 111=false∧hasB (usedS 10) 120=false∧hasB (usedS 10) 104=false∧hasB (usedS 10) 115=false∧hasB (usedS 10) 102=false∧hasB (usedS 10) 116=false∧hasB (usedS 10) 114=false∧hasB (usedS 10) 99=false∧hasB (usedS 10) 107=false∧hasB (usedS 10) 121=false∧hasB (usedS 11) 98=false∧hasB (usedS 11) 108=false∧hasB (usedS 11) 111=false∧hasB (usedS 11) 120=false∧hasB (usedS 11) 104=false∧hasB (usedS 11) 115=false∧hasB (usedS 11) 102=false∧hasB (usedS 11) 116=false∧hasB (usedS 11) 114=true∧hasB (usedS 11) 99=false∧hasB (usedS 11) 107=true∧hasB (usedS 11) 121=false∧hasB (usedS 12) 98=false∧hasB (usedS 12) 108=false∧hasB (usedS 12) 111=false∧hasB (usedS 12) 120=false∧hasB (usedS 12) 104=false∧hasB (usedS 12) 115=true∧hasB (usedS 12) 102=true∧hasB (usedS 12) 116=false∧hasB (usedS 12) 114=false∧hasB (usedS 12) 99=false∧hasB (usedS 12) 107=false∧hasB (usedS 12) 121=true:=by
 repeat' apply And.intro
 all_goals decide
theorem rzero_ret (w0:World) (v:Value) (f:FieldD) (hf:FieldVal w0 v f) (hk:1≤f.kind∧f.kind≤12):Ret Pg 43 #[v] w0 fun r w'=>r = .bool (zeroB f)∧Ext w0 w':=by
 obtain ⟨tv,cv,rfl,hT,hC,_,_⟩:=hf.op
 obtain ⟨At,ct,rfl,_⟩:=SliceOf.open hT
 obtain ⟨Ac,cc,rfl,_⟩:=SliceOf.open hC
 refine n36s (R:=retR _) ?_;unfold n36
 simp (disch:=try exact DI) only [↓PR,QR,Int.reduceBEq,Int.reduceBNe,Int.reduceLT,Int.reduceLE,Int.reduceGT,Int.reduceGE,Int.reduceNeg]
 have hBW:=ElemAt.new (w:=w0) (fieldCells f (.slice At f.terms.length ct) (.slice Ac f.cases.length cc)) (52)
 have eW:Ext w0 (w0.alloc (Obj.cells (List.toArray (fieldCells f (.slice At f.terms.length ct) (.slice Ac f.cases.length cc))) (52))):=(Ext.refl _).alloc _
 generalize (w0.alloc (Obj.cells (List.toArray (fieldCells f (.slice At f.terms.length ct) (.slice Ac f.cases.length cc))) (52)))=W at hBW eW ⊢
 have hcell:=hBW.c15 (Ext.refl W)
 simp (disch:=try exact DI) only [↓PR,QR,Int.reduceBEq,Int.reduceBNe,Int.reduceLT,Int.reduceLE,Int.reduceGT,Int.reduceGE,Int.reduceNeg,hcell]
 refine zcr (rused_ret _ f.kind hk.1 hk.2) fun w1 e1=>?_
 have hcell:=hBW.c15 e1
 have E:=eW.trans e1
 unfold zeroB
 have this:f.kind=1∨f.kind=2∨f.kind=3∨f.kind=4∨f.kind=5∨f.kind=6∨f.kind=7∨f.kind=8∨f.kind=9∨f.kind=10∨f.kind=11∨f.kind=12:=by omega
 clear hk hT hC e1 eW hBW
 rcases this with hk | hk | hk | hk | hk | hk | hk | hk | hk | hk | hk | hk
 all_goals
  simp only [hk,HT,Bool.true_or,Bool.false_or,Bool.true_and]
  repeat' first
   | exact ⟨by trivial,by first | trivial | exact E⟩
   | (refine callK_ret (rhas_ret _ _ _ (by decide)) ?_;rintro _ _ ⟨rfl,rfl⟩;simp (disch:=try exact DI) only [↓PR,QR,Int.reduceBEq,Int.reduceBNe,Int.reduceLT,Int.reduceLE,Int.reduceGT,Int.reduceGE,Int.reduceNeg,↓n36c1,↓n36c2,↓n36c3,↓n36c4,↓n36c5,↓n36c6,↓n36c7,↓n36c8,↓n36c9,↓n36c10,↓n36c11,↓n36c12,↓n36c13,↓n36c14,↓n36c15,↓n36c16,↓n36c17,↓n36c18,↓n36c19,↓n36c20,↓n36c21,↓n36c22,↓n36c23,↓n36c24,↓n36c25,HT, *])
   | (refine guard_cases (fun _=>?_) (fun _=>?_)<;>simp (disch:=try exact DI) only [↓PR,QR,Int.reduceBEq,Int.reduceBNe,Int.reduceLT,Int.reduceLE,Int.reduceGT,Int.reduceGE,Int.reduceNeg,↓n36c1,↓n36c2,↓n36c3,↓n36c4,↓n36c5,↓n36c6,↓n36c7,↓n36c8,↓n36c9,↓n36c10,↓n36c11,↓n36c12,↓n36c13,↓n36c14,↓n36c15,↓n36c16,↓n36c17,↓n36c18,↓n36c19,↓n36c20,↓n36c21,↓n36c22,↓n36c23,↓n36c24,↓n36c25,HT, *])
   | (refine cond_cases (fun _=>?_) (fun _=>?_)<;>simp (disch:=try exact DI) only [↓PR,QR,Int.reduceBEq,Int.reduceBNe,Int.reduceLT,Int.reduceLE,Int.reduceGT,Int.reduceGE,Int.reduceNeg,↓n36c1,↓n36c2,↓n36c3,↓n36c4,↓n36c5,↓n36c6,↓n36c7,↓n36c8,↓n36c9,↓n36c10,↓n36c11,↓n36c12,↓n36c13,↓n36c14,↓n36c15,↓n36c16,↓n36c17,↓n36c18,↓n36c19,↓n36c20,↓n36c21,↓n36c22,↓n36c23,↓n36c24,↓n36c25,HT, *])
end Go.Proofs.YtiajhbbmgglmlaaGreat
namespace Go.Proofs.YtiajhbbmgglmlaaGreat
open Sw
open Go.RowKit (intOf Below)
theorem append_one {α:Type} {t T n m:Nat} {z:Value} {agg:Bool} {enc:α→List Value} {v:Value} {l:List α} {base b:Nat} {w:World} {QP:List PanicEntry→World→Prop} {k:Value→World→Prop} (ht:Pg.underlying t=some (.slice T)) (hT:TyInfo Pg T agg n m z) (hby:m≤4096) (hz:z.cells.size=n) (h0:0 < n) (hn:∀ x,(enc x).length=n) (x:α) (h1:∀ u∈enc x,u.oneCell'=true)
 (hown:OwnE w base T n enc v l) (hc:ElemAt w b 0 (enc x)) (hbase:base≤w.heap.size) (hl:l.length≤1048576)
 (hk:∀ v' w',OwnE w' base T n enc v' (l++[x])→(∀ a,Ext a w→a.heap.size≤base→Ext a w')→k v' w') :
 opV Pg (Builtin.append_ #[t,t] t #[v,.slice (some ⟨b,0,none⟩) 1 1]) QP w k:=by
 refine op_appendE (l':=[x]) ht hT hz h0 hn (fun y hy=>by simp at hy;subst hy;exact h1) hown (fun j y hy=>?_) hbase ?_ (by simp;omega) (fun v' w' ho hg=>hk v' w' ho fun a e ha=>e.grown hg fun k hk=>Nat.le_trans ha ((World.ownsRow.lt hown k hk).1))
 · cases j with
   | zero=>simp at hy;subst hy;simpa using hc
   | succ j=>simp at hy
 · simp only [List.length_cons,List.length_nil]
   exact Nat.le_trans (Nat.mul_le_mul (Nat.add_le_add_right hl 1) hby) (by decide)
theorem op_boxA {P:Program} {QP:List PanicEntry→World→Prop} {w:World} {k:Value→World→Prop} (T:TypeId) (cs:Array Value):opV P (Instr.box T (.agg cs)) QP w k=k (.pointer (some ⟨w.heap.size,0,none⟩)) (w.alloc (.cells cs T)):=op_box T (.agg cs)
theorem open1 {α:Type} {w:World} {n:Nat} {E:World→List Value→α→Prop} {v:Value} {l:List α} (h:SliceOf w n E v l) {i:Nat} {x:α} (hi:l[i]?=some x) :
 ∃ b o c,v = .slice (some ⟨b,o,none⟩) l.length c∧l.length≤c∧c≤9223372036854775807∧l.length≤9223372036854775807∧i < l.length∧∀ k x,l[k]?=some x→∃ cs,cs.length=n∧ElemAt w b (o+k*n) cs∧E w cs x:=by
 obtain ⟨A,c,h1,h2,h3,h4⟩:=h
 obtain ⟨b,o,rfl,h5⟩:=h4 (by rintro rfl;cases hi)
 exact ⟨b,o,c,h1,h2,h3,by omega,(List.getElem?_eq_some_iff.1 hi).1,h5⟩
theorem all_take {α:Type} {p:α→Prop} {l:List α} {k:Nat} {x:α} (h:∀ y∈l.take k,p y) (hx:l[k]?=some x) (hp:p x):∀ y∈l.take (k+1),p y:=by
 rw [take_snoc hx]
 intro y hy
 rcases List.mem_append.1 hy with hy | hy
 · exact h y hy
 · rw [List.mem_singleton.1 hy];exact hp
def Dist (l:List FieldD):Prop:=l.Pairwise fun a b=>a.name≠b.name
theorem Dist.eq {l:List FieldD} (h:Dist l) {a b:FieldD} (ha:a∈l) (hb:b∈l) (hn:a.name=b.name):a=b:=by
 induction l with
 | nil=>cases ha
 | cons x l ih =>
  obtain ⟨h1,h2⟩:=List.pairwise_cons.1 h
  rcases List.mem_cons.1 ha with ha' | ha'<;>rcases List.mem_cons.1 hb with hb' | hb'
  · rw [ha',hb']
  · subst ha';exact absurd hn (h1 _ hb')
  · subst hb';exact absurd hn.symm (h1 _ ha')
  · exact ih h2 ha' hb'
theorem lastR_none {rp:List (ByteArray×Int×Int)} {s:ByteArray}:lastR rp s=none↔∀ q,(s,q) ∉ rp:=by
 constructor
 · intro h q hq
   unfold lastR at h
   rw [Option.map_eq_none_iff,List.find?_eq_none] at h
   exact h (s,q) (List.mem_reverse.2 hq) (by simp)
 · intro h
   cases hl:lastR rp s with
   | none=>rfl
   | some q=>exact absurd (lastP_mem hl) (h q)
theorem mem_numR {l:List FieldD} {s:ByteArray} {q:Int×Int}:(s,q)∈numR l↔∃ f∈l,numberB f=true∧f.name=s∧q=(f.low,highOf f):=by
 unfold numR
 simp only [List.mem_map,List.mem_filter,Prod.mk.injEq]
 constructor
 · rintro ⟨f,⟨h1,h2⟩,h3,h4⟩;exact ⟨f,h1,h2,h3,by rw [← h4]⟩
 · rintro ⟨f,h1,h2,h3,h4⟩;exact ⟨f,⟨h1,h2⟩,h3,by rw [h4]⟩
theorem num_first {bef:List FieldD} (hd:Dist bef) (s:ByteArray):(idx (fun g=>decide (g.name=s)) bef = -1∧lastR (numR bef) s=none) ∨
 ∃ (k:Nat) (g:FieldD),idx (fun g=>decide (g.name=s)) bef=k∧bef[k]?=some g∧lastR (numR bef) s=if numberB g then some (g.low,highOf g) else none:=by
 unfold idx
 cases h:bef.findIdx? (fun g=>decide (g.name=s)) with
 | none =>
  rw [List.findIdx?_eq_none_iff] at h
  refine .inl ⟨rfl,lastR_none.2 fun q hq=>?_⟩
  obtain ⟨f,hf,_,h3,_⟩:=mem_numR.1 hq
  simpa [h3] using h f hf
 | some k =>
  obtain ⟨hk,hp,_⟩:=List.findIdx?_eq_some_iff_getElem.1 h
  refine .inr ⟨k,bef[k],rfl,List.getElem?_eq_getElem hk,?_⟩
  have hg:bef[k]∈bef:=List.getElem_mem hk
  generalize bef[k]=g at hg hp
  simp only [decide_eq_true_eq] at hp
  cases hl:lastR (numR bef) s with
  | none =>
   rw [if_neg]
   intro hn
   exact lastR_none.1 hl _ (mem_numR.2 ⟨g,hg,hn,hp,rfl⟩)
  | some q =>
   obtain ⟨f,hf,h2,h3,h4⟩:=mem_numR.1 (lastP_mem hl)
   have:=hd.eq hf hg (h3.trans hp.symm)
   subst this
   rw [if_pos h2,h4]
theorem checked_congr {ps ps':List (ByteArray×Value)} {but:ByteArray} {p:Value→Bool}:∀ (ts:List TermD) (no:Bool),(∀ t∈ts,lastOf ps t.field=lastOf ps' t.field)→checkedF but ps p ts no=checkedF but ps' p ts no
 | [],no,_=>rfl
 | t::ts,no,h=>by
  have ih:=fun no=>checked_congr (but:=but) (p:=p) ts no fun t ht=>h t (List.mem_cons_of_mem _ ht)
  simp only [checkedF,h t (List.mem_cons_self ..),ih]
theorem numW_congr {f g:TermD→Int}:∀ (ts:List TermD) (n:Int),(∀ t∈ts,f t=g t)→numW n f ts=numW n g ts
 | [],n,_=>rfl
 | t::ts,n,h=>by
  have ih:=fun n=>numW_congr ts n fun t ht=>h t (List.mem_cons_of_mem _ ht)
  unfold numW at *
  simp only [List.foldl_cons,h t (List.mem_cons_self ..),ih]
theorem iv_congr {base:Int} {ts:List TermD} {rp rp':List (ByteArray×Int×Int)} (h:∀ t∈ts,lastR rp t.field=lastR rp' t.field):intervalE base ts rp=intervalE base ts rp'∧intervalL base ts rp=intervalL base ts rp'∧intervalH base ts rp=intervalH base ts rp':=by
 have he:intervalE base ts rp=intervalE base ts rp':=by
  unfold intervalE
  rw [checked_congr (ps':=RP rp') ts false fun t ht=>by rw [lastOf_RP,lastOf_RP,h t ht]]
 have hl:∀ least,numW base (endF rp least) ts=numW base (endF rp' least) ts:=fun least=>numW_congr ts base fun t ht=>by unfold endF;rw [h t ht]
 unfold intervalL intervalH
 rw [he,hl,hl]
 exact ⟨rfl,rfl,rfl⟩
def termR (rp:List (ByteArray×Int×Int)) (ts:List TermD):List (ByteArray×Int×Int):=ts.map fun t=>(t.field,rngT rp t)
theorem termR_last {rp:List (ByteArray×Int×Int)} {ts:List TermD} (h:∀ t∈ts,(lastR rp t.field).isSome=true) {t:TermD} (ht:t∈ts):lastR (termR rp ts) t.field=lastR rp t.field:=by
 have e:∀ t∈ts,lastR rp t.field=some (rngT rp t):=fun t ht=>by
  have:=h t ht
  unfold rngT
  cases hl:lastR rp t.field with
  | none=>rw [hl] at this;cases this
  | some q=>rfl
 cases hl:lastR (termR rp ts) t.field with
 | none=>exact absurd (List.mem_map.2 ⟨t,ht,rfl⟩) (lastR_none.1 hl (rngT rp t))
 | some q =>
  obtain ⟨u,hu,h2⟩:=List.mem_map.1 (lastP_mem hl)
  injection h2 with h2 h3
  rw [← h3,← e u hu,h2]
theorem namesC_zero {rp:List (ByteArray×Int×Int)}:∀ {ts:List TermD},(∀ t∈ts,(lastR rp t.field).isSome=true)→namesC rp ts=0
 | [],_=>rfl
 | t::ts,h=>by
  simp only [namesC,h t (List.mem_cons_self ..),namesC_zero fun t ht=>h t (List.mem_cons_of_mem _ ht)]
  rfl
theorem namesC_bad {rp:List (ByteArray×Int×Int)}:∀ {ts:List TermD} {t:TermD},t∈ts→lastR rp t.field=none→namesC rp ts=8
 | u::ts,t,ht,h=>by
  simp only [namesC]
  cases hu:(lastR rp u.field).isSome with
  | false=>rfl
  | true =>
   rcases List.mem_cons.1 ht with rfl | ht
   · rw [h] at hu;cases hu
   · rw [namesC_bad ht h];rfl
end Go.Proofs.YtiajhbbmgglmlaaGreat
namespace Go.Proofs.YtiajhbbmgglmlaaGreat
open Sw
open Go.RowKit (intOf Below)
theorem rsized_ret (w0:World) (v:Value) (m:MsgD) (i:Nat) (f:FieldD) (hm:MsgVal w0 v m) (hi:m.fields[i]?=some f) (hd:Dist (m.fields.take i)) (ht:f.terms.length≤1048576):Ret Pg 59 #[v,.int .i64 (i:Int)] w0 fun r w'=>r = .int .i64 (sizedC (numR (m.fields.take i)) f)∧Ext w0 w':=by
 obtain ⟨fv,rfl,hF⟩:=hm
 have hF0:=hF
 refine n32s (R:=retR _) ?_;unfold n32
 simp (disch:=try exact DI) only [↓PR,QR,Int.reduceBEq,Int.reduceBNe,Int.reduceLT,Int.reduceLE,Int.reduceGT,Int.reduceGE,Int.reduceNeg]
 have hBW:=ElemAt.new (w:=w0) (msgCells m fv) (45)
 have eW:Ext w0 (w0.alloc (Obj.cells (List.toArray (msgCells m fv)) (45))):=(Ext.refl _).alloc _
 generalize (w0.alloc (Obj.cells (List.toArray (msgCells m fv)) (45)))=W at hBW eW ⊢
 obtain ⟨b,o,c,rfl,hlc,hcm,hlm,hil,hel⟩:=open1 hF hi
 obtain ⟨cs,_,hA,hE⟩:=hel i f hi
 obtain ⟨tv,cv,rfl,hT,hC,ht1,hc1⟩:=hE.op
 have hT0:=hT
 obtain ⟨At,ct,rfl,hlct,hcmt,hlmt,helt⟩:=SliceOf.open hT
 have hcA:=hA.c15 eW
 simp (disch:=try exact DI) only [↓PR,QR,Int.reduceBEq,Int.reduceBNe,Int.reduceLT,Int.reduceLE,Int.reduceGT,Int.reduceGE,Int.reduceNeg,hBW.c2 (Ext.refl W),hcA]
 have hBX:=ElemAt.new (w:=W) ([.int .i64 f.base,.slice At f.terms.length ct]) (49)
 have eX:Ext W (W.alloc (Obj.cells (List.toArray ([.int .i64 f.base,.slice At f.terms.length ct])) (49))):=(Ext.refl _).alloc _
 generalize (W.alloc (Obj.cells (List.toArray ([.int .i64 f.base,.slice At f.terms.length ct])) (49)))=X at hBX eX ⊢
 refine zcr (rSizeValid_ret _ _ f.base f.terms ⟨_,rfl,TermsOf.ext hT0 (eW.trans eX)⟩) fun w1 e1=>?_
 have E1:Ext w0 w1:=eW.trans (eX.trans e1)
 unfold n32c8
 cases hs:sizeB f.base f.terms with
 | false =>
  simp (disch:=try exact DI) only [↓PR,QR,Int.reduceBEq,Int.reduceBNe,Int.reduceLT,Int.reduceLE,Int.reduceGT,Int.reduceGE,Int.reduceNeg]
  exact ⟨by unfold sizedC;rw [hs];rfl,E1⟩
 | true =>
 obtain ⟨_,h4,_⟩:=terms_names hs
 have hsz:sizedC (numR (m.fields.take i)) f=orC (namesC (numR (m.fields.take i)) f.terms) (needC (lenB f.base f.terms (numR (m.fields.take i))) 9):=by unfold sizedC;rw [hs];rfl
 rw [hsz]
 have hnf:=num_first hd
 generalize hrp:numR (m.fields.take i)=rp at hnf ⊢
 simp (disch:=try exact DI) only [↓PR,QR,Int.reduceBEq,Int.reduceBNe,Int.reduceLT,Int.reduceLE,Int.reduceGT,Int.reduceGE,Int.reduceNeg]
 refine loop2_intro (fun a b w'=>∃ (k:Nat) (sv:Value),a=sv∧b = .int .i64 k∧k≤f.terms.length∧Ext w1 w'∧OwnE w' w1.heap.size 129 3 ranCells sv (termR rp (f.terms.take k))∧∀ t∈f.terms.take k,(lastR rp t.field).isSome=true) (fun _ b _=>f.terms.length - (intOf b).toNat) ⟨0,_,rfl,rfl,by omega,Ext.refl _,OwnE.nil _ _ _ _ _,by simp⟩ ?_
 rintro sv _ w ⟨k,_,rfl,rfl,hk,e,hO,hin⟩
 have E:=E1.trans e
 have hcX:=hBX.c2 (e1.trans e)
 have hcW:=hBW.c2 (eX.trans (e1.trans e))
 unfold n32c7
 rcases drop_cases hk with ⟨x,hx,hdr,hlt,hdec⟩ | ⟨hk,hdr,hdec⟩
 · obtain ⟨bt,ot,cst,rfl,_,hAt,rfl⟩:=helt k x hx
   simp (disch:=try exact DI) only [↓PR,QR,Int.reduceBEq,Int.reduceBNe,Int.reduceLT,Int.reduceLE,Int.reduceGT,Int.reduceGE,Int.reduceNeg,hdec,hcX]
   refine drawK_intro ?_
   unfold n32c4
   simp (disch:=try exact DI) only [↓PR,QR,Int.reduceBEq,Int.reduceBNe,Int.reduceLT,Int.reduceLE,Int.reduceGT,Int.reduceGE,Int.reduceNeg,hcX,hcW,hAt.c2 E]
   refine zcr (rField_ret _ _ m x.field i ⟨_,rfl,hF0.ext ee⟩ (Nat.le_of_lt hil)) fun w2 e2=>?_
   refine ⟨e2,?_⟩
   unfold n32c3
   rcases hnf x.field with ⟨h1,h2⟩ | ⟨kk,g,h1,h2,h3⟩
   · rw [h1]
     simp (disch:=try exact DI) only [↓PR,QR,Int.reduceBEq,Int.reduceBNe,Int.reduceLT,Int.reduceLE,Int.reduceGT,Int.reduceGE,Int.reduceNeg]
     exact ⟨by rw [namesC_bad (List.mem_of_getElem? hx) h2];rfl,ee⟩
   · have hg:=take_get h2
     have hkk:kk < m.fields.length:=(List.getElem?_eq_some_iff.1 hg).1
     obtain ⟨csg,_,hAg,hEg⟩:=hel kk g hg
     obtain ⟨tg,cg,rfl,hTg,hCg,htg,hcg⟩:=hEg.op
     have f2:Ext w0 w2:=E.drew.trans e2
     have hcg2:=hAg.c15 f2
     have hcW2:=hBW.c2 (eX.trans (e1.trans (e.drew.trans e2)))
     have hcX2:=hBX.c2 (e1.trans (e.drew.trans e2))
     rw [h1]
     simp (disch:=try exact DI) only [↓PR,QR,Int.reduceBEq,Int.reduceBNe,Int.reduceLT,Int.reduceLE,Int.reduceGT,Int.reduceGE,Int.reduceNeg,show decide ((kk:Int) < 0)=false by simp,hcW2,hcg2]
     refine zcr (rNumber_ret _ _ g ⟨tg,cg,rfl,hTg.ext f2,hCg.ext f2⟩) fun w3 e3=>?_
     have f3:=f2.trans e3
     have hd0:decide ((kk:Int) < 0)=false:=by simp
     cases hn:numberB g with
     | false =>
      rw [hn,if_neg (by simp)] at h3
      simp (disch:=try exact DI) only [↓PR,QR,Int.reduceBEq,Int.reduceBNe,Int.reduceLT,Int.reduceLE,Int.reduceGT,Int.reduceGE,Int.reduceNeg,hd0]
      exact ⟨by rw [namesC_bad (List.mem_of_getElem? hx) h3];rfl,f3⟩
     | true =>
      rw [hn,if_pos rfl] at h3
      have eW3:Ext w1 w3:=e.drew.trans (e2.trans e3)
      simp (disch:=try exact DI) only [↓PR,QR,Int.reduceBEq,Int.reduceBNe,Int.reduceLT,Int.reduceLE,Int.reduceGT,Int.reduceGE,Int.reduceNeg,hd0]
      unfold n32c2
      simp (disch:=try exact DI) only [↓PR,QR,Int.reduceBEq,Int.reduceBNe,Int.reduceLT,Int.reduceLE,Int.reduceGT,Int.reduceGE,Int.reduceNeg,hBW.c2 (eX.trans (e1.trans eW3)),hAg.c15 f3]
      refine zcr (rRange_ret _ _ g ⟨tg,cg,rfl,hTg.ext f3,hCg.ext f3⟩) fun w4 e4=>?_
      have eW4:Ext w1 w4:=eW3.trans e4
      have f4:=f3.trans e4
      unfold n32c1
      simp (disch:=try exact DI) only [↓PR,QR,Int.reduceBEq,Int.reduceBNe,Int.reduceLT,Int.reduceLE,Int.reduceGT,Int.reduceGE,Int.reduceNeg,hBX.c2 (e1.trans eW4),hAt.c2 f4]
      have hO4:=hO.ext (((((Ext.refl w).drew.trans e2).trans e3).trans e4).alloc (Obj.cells #[.string x.field,.int .i64 g.low,.int .i64 (highOf g)] 129))
      have hlk:(termR rp (f.terms.take k)).length=k:=by unfold termR;rw [List.length_map,List.length_take];omega
      have sw:=eW4.size
      refine append_one Tryz.underlying127 ty129 by129 rfl (by decide) (fun _=>rfl) (x.field,g.low,highOf g) (by simp only [ranCells,List.forall_mem_cons];exact ⟨rfl,rfl,rfl,by simp⟩) hO4 (ElemAt.new _ _) (by simp only [World.size_alloc];omega) (by rw [hlk];omega) ?_
      intro v' w' hO' hext
      have eN:Ext w1 w':=hext w1 (eW4.alloc _) (Nat.le_refl _)
      simp (disch:=try exact DI) only [↓PR,QR,Int.reduceBEq,Int.reduceBNe,Int.reduceLT,Int.reduceLE,Int.reduceGT,Int.reduceGE,Int.reduceNeg]
      refine ⟨⟨k+1,v',rfl,rfl,by omega,eN,?_,all_take hin hx (by rw [h3];rfl)⟩,meas_lt hlt⟩
      have:termR rp (f.terms.take (k+1))=termR rp (f.terms.take k)++[(x.field,g.low,highOf g)]:=by
       unfold termR
       rw [take_snoc hx,List.map_append]
       simp only [List.map_cons,List.map_nil]
       rw [rng_some h3]
      rw [this]
      exact hO'
 · subst hk
   rw [List.take_length] at hO hin
   simp (disch:=try exact DI) only [↓PR,QR,Int.reduceBEq,Int.reduceBNe,Int.reduceLT,Int.reduceLE,Int.reduceGT,Int.reduceGE,Int.reduceNeg,hdec,hcX]
   have hs3:RansOf w sv (termR rp f.terms):=hO.slice (E:=ERan) (fun _=>rfl) (fun _ _=>rfl)
   have hcon:=iv_congr (base:=f.base) (rp:=termR rp f.terms) (rp':=rp) (ts:=f.terms) fun t ht=>termR_last hin ht
   refine zcr (rInterval_ret _ _ sv f.base f.terms (termR rp f.terms) ⟨_,rfl,hT0.ext E⟩ hs3 (fun t ht=>by rw [termR_last hin ht];exact hin t ht)) fun w2 e2=>?_
   have E2:=E.trans e2
   unfold ivOf
   rw [hcon.1,hcon.2.1,hcon.2.2,namesC_zero hin]
   unfold n32c6
   have hL:(intervalE f.base f.terms rp != 0||decide (intervalL f.base f.terms rp < 0)||decide (1048576 < intervalH f.base f.terms rp))=!lenB f.base f.terms rp:=by
    unfold lenB
    rw [Bool.eq_iff_iff]
    simp only [Bool.or_eq_true,bne_iff_ne,decide_eq_true_eq,Bool.not_eq_true',Bool.and_eq_false_iff,beq_eq_false_iff_ne,decide_eq_false_iff_not]
    omega
   simp (disch:=try exact DI) only [↓PR,QR,Int.reduceBEq,Int.reduceBNe,Int.reduceLT,Int.reduceLE,Int.reduceGT,Int.reduceGE,Int.reduceNeg,n32c5,hL]
   cases lenB f.base f.terms rp with
   | false=>simp (disch:=try exact DI) only [↓PR,QR,Int.reduceBEq,Int.reduceBNe,Int.reduceLT,Int.reduceLE,Int.reduceGT,Int.reduceGE,Int.reduceNeg];exact ⟨rfl,E2⟩
   | true=>simp (disch:=try exact DI) only [↓PR,QR,Int.reduceBEq,Int.reduceBNe,Int.reduceLT,Int.reduceLE,Int.reduceGT,Int.reduceGE,Int.reduceNeg];exact ⟨rfl,E2⟩
end Go.Proofs.YtiajhbbmgglmlaaGreat
namespace Go.Proofs.YtiajhbbmgglmlaaGreat
open Sw
open Go.RowKit (intOf Below)
theorem within2 {hi n a b:Int}:withinC hi n [a,b]=if a < n∨hi < a∨b < a∨hi < b then 7 else 0:=by
 by_cases h1:a < n<;>by_cases h2:hi < a<;>by_cases h3:b < a<;>by_cases h4:hi < b<;>simp [withinC,needC,orC, *]<;>omega
theorem idx_some {α:Type} {p:α→Bool} {l:List α}:decide (idx p l < 0)=!l.any p:=by
 rw [← idx_neg]
 by_cases h:idx p l < 0
 · have:¬ 0≤idx p l:=by omega
   simp [h,this]
 · have:0≤idx p l:=by omega
   simp [h,this]
theorem rcased_ret (w0:World) (v u:Value) (d:DefD) (n:Nat) (f:FieldD) (lo hi:Int) (deps:List (ByteArray×Int)) (hd:DefVal w0 v d) (hn:n≤d.msgs.length) (hf:FieldVal w0 u f) (hD:∀ s,(lastP deps s).isSome=(d.msgs.take n).any fun m=>decide (m.name=s)) (hlo : -4611686018427387904≤lo) (hhi:hi≤4611686018427387904) :
 Ret Pg 63 #[v,.int .i64 (n:Int),u,.int .i64 lo,.int .i64 hi] w0 fun r w'=>r = .int .i64 (orC (needC (decide (1≤(f.cases.length:Int))&&decide ((f.cases.length:Int)≤40)) 3) (casesL hi (vI deps) lo f.cases))∧Ext w0 w':=by
 obtain ⟨mv,rfl,hM⟩:=hd
 obtain ⟨tv,cv,rfl,hT,hC,ht1,hc1⟩:=hf.op
 refine n26s (R:=retR _) ?_;unfold n26
 rw [op_boxA]
 have hBW:=ElemAt.new (w:=w0) (defCells d mv) (24)
 have eW:Ext w0 (w0.alloc (Obj.cells (List.toArray (defCells d mv)) (24))):=(Ext.refl _).alloc _
 generalize (w0.alloc (Obj.cells (List.toArray (defCells d mv)) (24)))=W at hBW eW ⊢
 rw [op_boxA]
 have hBX:=ElemAt.new (w:=W) (fieldCells f tv cv) (52)
 have eX:Ext W (W.alloc (Obj.cells (List.toArray (fieldCells f tv cv)) (52))):=(Ext.refl _).alloc _
 generalize (W.alloc (Obj.cells (List.toArray (fieldCells f tv cv)) (52)))=X at hBX eX ⊢
 obtain ⟨A,c,rfl,hlc,hcm,hlm,hel⟩:=SliceOf.open hC
 have hcX:=hBX.c15 (Ext.refl X)
 simp (disch:=try exact DI) only [↓PR,QR,Int.reduceBEq,Int.reduceBNe,Int.reduceLT,Int.reduceLE,Int.reduceGT,Int.reduceGE,Int.reduceNeg,hcX]
 have hlen:(decide ((f.cases.length:Int) < 1)||decide (40 < (f.cases.length:Int)))=!(decide (1≤(f.cases.length:Int))&&decide ((f.cases.length:Int)≤40)):=by
  rw [Bool.eq_iff_iff];simp only [Bool.or_eq_true,decide_eq_true_eq,Bool.not_eq_true',Bool.and_eq_false_iff,decide_eq_false_iff_not];omega
 rw [hlen]
 have EX:Ext w0 X:=eW.trans eX
 cases hl:(decide (1≤(f.cases.length:Int))&&decide ((f.cases.length:Int)≤40)) with
 | false=>simp (disch:=try exact DI) only [↓PR,QR,Int.reduceBEq,Int.reduceBNe,Int.reduceLT,Int.reduceLE,Int.reduceGT,Int.reduceGE,Int.reduceNeg];exact ⟨rfl,EX⟩
 | true =>
 simp (disch:=try exact DI) only [↓PR,QR,Int.reduceBEq,Int.reduceBNe,Int.reduceLT,Int.reduceLE,Int.reduceGT,Int.reduceGE,Int.reduceNeg]
 refine loop1_intro (fun a w'=>∃ (k:Nat) (b:Int),a = .int .i64 k∧k≤f.cases.length∧Ext X w'∧casesL hi (vI deps) b (f.cases.drop k)=casesL hi (vI deps) lo f.cases∧lo≤b∧(k=0→b=lo)∧∀ j p,k=j+1→f.cases[j]?=some p→b=p.high+1) (fun b _=>f.cases.length - (intOf b).toNat) ⟨0,lo,rfl,by omega,Ext.refl _,rfl,Int.le_refl _,fun _=>rfl,fun j p h=>by omega⟩ ?_
 rintro _ w ⟨k,b,rfl,hk,e,hI,hb0,hb1,hb2⟩
 have hcX:=hBX.c15 e
 have E:=EX.trans e
 unfold n26c9
 rcases drop_cases hk with ⟨x,hx,hdr,hlt,hdec⟩ | ⟨hk,hdr,hdec⟩
 ·
  simp (disch:=try exact DI) only [↓PR,QR,Int.reduceBEq,Int.reduceBNe,Int.reduceLT,Int.reduceLE,Int.reduceGT,Int.reduceGE,Int.reduceNeg,hdec,hcX]
  obtain ⟨bc,oc,cc,hA,_,_,_,_,hel2⟩:=open1 hC hx
  injection hA with hA _ _
  subst hA
  obtain ⟨csc,_,hAc,rfl⟩:=hel2 k x hx
  have hcx:=hAc.c3 E
  unfold n26c8
  simp (disch:=try exact DI) only [↓PR,QR,Int.reduceBEq,Int.reduceBNe,Int.reduceLT,Int.reduceLE,Int.reduceGT,Int.reduceGE,Int.reduceNeg,hcX,hcx]
  have hBY:=ElemAt.new (w:=w) (caseCells x) (81)
  have eY:Ext w (w.alloc (Obj.cells (List.toArray (caseCells x)) (81))):=(Ext.refl _).alloc _
  generalize (w.alloc (Obj.cells (List.toArray (caseCells x)) (81)))=Y at hBY eY ⊢
  have hcY:=hBY.c3 (Ext.refl Y)
  have hcW:=hBW.c3 (eX.trans (e.trans eY))
  have EY:Ext w0 Y:=E.trans eY
  refine drawK_intro ?_
  rw [hdr] at hI
  simp only [casesL,within2] at hI
  have hI7:(x.low < b∨hi < x.low∨x.high < x.low∨hi < x.high)→casesL hi (vI deps) lo f.cases=7:=fun h=>by rw [← hI,if_pos h];rfl
  have hI0:¬ (x.low < b∨hi < x.low∨x.high < x.low∨hi < x.high)→orC (needC (lastOf (vI deps) x.of).isSome 8) (casesL hi (vI deps) (x.high+1) (f.cases.drop (k+1)))=casesL hi (vI deps) lo f.cases:=fun h=>by
   rw [← hI,if_neg h,wrap_ok (by omega) (by omega)];rfl
  clear hI
  unfold n26c7
  rcases k with _ | k'
  case' zero =>
   have hb:=hb1 rfl
   subst hb
   simp (disch:=try exact DI) only [↓PR,QR,Int.reduceBEq,Int.reduceBNe,Int.reduceLT,Int.reduceLE,Int.reduceGT,Int.reduceGE,Int.reduceNeg,hcY,hcX,↓n26c1,↓n26c2,↓n26c3,↓n26c4,↓n26c5,↓n26c6,↓n26c7,↓n26c8,↓n26c9,show decide ((0:Int) < ((0:Nat):Int))=false by decide]
   refine guard_cases (fun hg=>?_) (fun hg=>?_)
   all_goals simp (disch:=try exact DI) only [↓PR,QR,Int.reduceBEq,Int.reduceBNe,Int.reduceLT,Int.reduceLE,Int.reduceGT,Int.reduceGE,Int.reduceNeg,hg,hcW,hcY,↓n26c1,↓n26c2,↓n26c3,↓n26c4,↓n26c5,↓n26c6,↓n26c7,↓n26c8,↓n26c9]
   all_goals simp only [Bool.or_eq_true,Bool.or_eq_false_iff,decide_eq_true_eq,decide_eq_false_iff_not] at hg
   · exact ⟨by rw [hI7 (by omega)];rfl,EY.drew⟩
   have hI0:=hI0 (by omega)
  case' succ =>
   obtain ⟨p,hp⟩:=getElem?_lt (l:=f.cases) (k:=k') (by omega)
   have hb:=hb2 k' p rfl hp
   subst hb
   obtain ⟨csp,_,hAp,rfl⟩:=hel2 k' p hp
   have hcp:=hAp.c3 EY
   simp (disch:=try exact DI) only [↓PR,QR,Int.reduceBEq,Int.reduceBNe,Int.reduceLT,Int.reduceLE,Int.reduceGT,Int.reduceGE,Int.reduceNeg,hcY,hcp,hBX.c15 (e.trans eY),↓n26c1,↓n26c2,↓n26c3,↓n26c4,↓n26c5,↓n26c6,↓n26c7,↓n26c8,↓n26c9,show decide ((0:Int) < ((k'+1:Nat):Int))=true by simp only [decide_eq_true_eq];omega,show IntKind.i64.wrap (((k'+1:Nat):Int) - 1)=(k':Int) by rw [wrap_ok (by omega) (by omega)];omega]
   refine guard_cases (fun hg=>?_) (fun hg=>?_)
   all_goals simp (disch:=try exact DI) only [↓PR,QR,Int.reduceBEq,Int.reduceBNe,Int.reduceLT,Int.reduceLE,Int.reduceGT,Int.reduceGE,Int.reduceNeg,hg,hcW,hcY,↓n26c1,↓n26c2,↓n26c3,↓n26c4,↓n26c5,↓n26c6,↓n26c7,↓n26c8,↓n26c9]
   all_goals simp only [Bool.or_eq_true,Bool.or_eq_false_iff,decide_eq_true_eq,decide_eq_false_iff_not] at hg
   · exact ⟨by rw [hI7 (by omega)];rfl,EY.drew⟩
   refine cond_cases (fun hg2=>⟨_,rfl,by simp only [decide_eq_true_eq] at hg2;rw [hI7 (by omega)];rfl,EY.drew⟩) (fun hg2=>?_)
   simp only [decide_eq_false_iff_not] at hg2
   have hI0:=hI0 (by omega)
   simp (disch:=try exact DI) only [↓PR,QR,Int.reduceBEq,Int.reduceBNe,Int.reduceLT,Int.reduceLE,Int.reduceGT,Int.reduceGE,Int.reduceNeg,hcW,hcY,↓n26c1,↓n26c2,↓n26c3,↓n26c4,↓n26c5,↓n26c6,↓n26c7,↓n26c8,↓n26c9]
  all_goals
   refine zcr (rFind_ret _ _ d x.of n ⟨_,rfl,hM.ext EY.drew⟩ hn) fun w2 e2=>?_
   have e3:Ext X w2:=(e.trans eY).drew.trans e2
   rw [lastOf_vI,Option.isSome_map,hD] at hI0
   have hdi:=idx_some (p:=fun m:MsgD=>decide (m.name=x.of)) (l:=d.msgs.take n)
   cases hs:(d.msgs.take n).any (fun m=>decide (m.name=x.of)) with
   | false =>
    rw [hs] at hI0 hdi
    simp (disch:=try exact DI) only [↓PR,QR,Int.reduceBEq,Int.reduceBNe,Int.reduceLT,Int.reduceLE,Int.reduceGT,Int.reduceGE,Int.reduceNeg,hdi,↓n26c1,↓n26c2,↓n26c3,↓n26c4,↓n26c5,↓n26c6,↓n26c7,↓n26c8,↓n26c9]
    exact ⟨by rw [← hI0];rfl,EX.trans e3⟩
   | true =>
    rw [hs] at hI0 hdi
    simp (disch:=try exact DI) only [↓PR,QR,Int.reduceBEq,Int.reduceBNe,Int.reduceLT,Int.reduceLE,Int.reduceGT,Int.reduceGE,Int.reduceNeg,hdi,↓n26c1,↓n26c2,↓n26c3,↓n26c4,↓n26c5,↓n26c6,↓n26c7,↓n26c8,↓n26c9]
    exact ⟨⟨_,x.high+1,rfl,hlt,e3,hI0,by omega,fun h=>by omega,fun j p h hp=>by injection h with h;subst h;rw [hx] at hp;injection hp with hp;subst hp;rfl⟩,meas_lt hlt⟩
 · rw [hdr] at hI
   simp (disch:=try exact DI) only [↓PR,QR,Int.reduceBEq,Int.reduceBNe,Int.reduceLT,Int.reduceLE,Int.reduceGT,Int.reduceGE,Int.reduceNeg,hdec,hcX]
   exact ⟨by rw [← hI];rfl,E⟩
end Go.Proofs.YtiajhbbmgglmlaaGreat
namespace Go.Sw
open Go.RowKit (Below)
section
variable {P:Program} {QP:List PanicEntry→World→Prop} {w:World}
theorem op_appendL {α:Type} {t ty T n m:Nat} {z:Value} {agg:Bool} {enc:α→List Value} {v:Value} {l l':List α} {base:Nat} {k:Value→World→Prop}
 (ht:P.underlying t=some (.slice T)) (hT:TyInfo P T agg n m z) (hz:z.cells.size=n) (h0:0 < n) (hn:∀ x,(enc x).length=n) (h1:∀ x,x∈l'→∀ u∈enc x,u.oneCell'=true)
 (hown:OwnE w base T n enc v l) {b o c:Nat} (hc:∀ j x,l'[j]?=some x→ElemAt w b (o+j*n) (enc x)) (hbase:base≤w.heap.size) (hl':0 < l'.length) (hm:(l.length+l'.length)*m≤140737488355328) (hb:l.length+l'.length≤140737488355328)
 (hk:∀ g cap w',OwnE w' base T n enc (.slice (some ⟨g,0,none⟩) (l.length+l'.length) cap) (l++l')→w.grownBy w' v.ownBlock→(v.ownBlock=some g∨g=w.heap.size)→g < w'.heap.size→k (.slice (some ⟨g,0,none⟩) (l.length+l'.length) cap) w') :
 opV P (Builtin.append_ #[t,t] ty #[v,.slice (some ⟨b,o,none⟩) l'.length c]) QP w k:=by
 obtain ⟨⟨i,hi,hs,hby,hzz⟩,_⟩:=hT
 have hfl:(l'.flatMap enc).length=l'.length*n:=by
  clear hm hb hc h1 hk hl'
  induction l' with
  | nil=>simp
  | cons a l ih=>rw [List.flatMap_cons,List.length_append,hn,ih,List.length_cons,Nat.add_mul];omega
 have hcells:∀ j u,(l'.flatMap enc)[j]?=some u→w.cell? ((⟨b,o,none⟩:Addr).add j)=some u:=by
  intro j u hu
  have hj:j < l'.length*n:=by have:=(List.getElem?_eq_some_iff.1 hu).1;rwa [hfl] at this
  have hq:j / n < l'.length:=Nat.div_lt_of_lt_mul (by rw [Nat.mul_comm];exact hj)
  obtain ⟨x,hx⟩:=getElem?_lt hq
  have hjn:j % n < (enc x).length:=by rw [hn];exact Nat.mod_lt _ h0
  have hdm:j / n*n+j % n=j:=by rw [Nat.mul_comm];exact Nat.div_add_mod j n
  have hg:=flatMap_get hn l' (j / n) x (j % n) _ hx (List.getElem?_eq_getElem hjn)
  rw [hdm,hu] at hg
  injection hg with hg
  rw [Addr.add_lit]
  have:=hc _ _ hx (j % n) _ (List.getElem?_eq_getElem hjn)
  rw [hg,← this]
  congr 2;omega
 obtain ⟨g,cap,w',hr,ho,hg,hgl,hlt⟩:=run_append_lies (P:=P) (w:=w) t ty base T i z n m ht hi hzz hs hby hz h0 v l.length (l.flatMap enc) hown ⟨b,o,none⟩ l'.length c (l'.flatMap enc) hfl hcells
  (by intro u hu;obtain ⟨x,hx,hux⟩:=List.mem_flatMap.1 hu;exact h1 x hx u hux) hl' (by simp only [maxLen];omega) hm hbase _ rfl
 rw [opV_ok hr]
 refine hk g cap w' ?_ hg hgl hlt
 unfold OwnE
 rw [List.flatMap_append,List.length_append];exact ho
end
theorem OwnE.grown {α:Type} {w w':World} {lo n:Nat} {T:TypeId} {enc:α→List Value} {v:Value} {l:List α} {row:Option Nat} (h:OwnE w lo T n enc v l) (hg:w.grownBy w' row) (hne:∀ b,v.ownBlock=some b→row≠some b):OwnE w' lo T n enc v l:=by
 obtain ⟨h1,h2⟩:=h
 refine ⟨h1,?_⟩
 rcases h2 with h2 | ⟨g,cap,cur,hv,hb,hc,h3⟩
 · exact .inl h2
 · refine .inr ⟨g,cap,cur,hv,hb,?_,h3⟩
   rw [hg.block g (Array.getElem?_eq_some_iff.1 hc).1 (fun e=>hne g (by rw [hv];rfl) e.symm)]
   exact hc
end Go.Sw
namespace Go.Proofs.YtiajhbbmgglmlaaGreat
open Sw
open Go.RowKit (intOf Below)
def addS (o:List ByteArray) (s:ByteArray):List ByteArray:=if o.any (fun y=>decide (y=s)) then o else o++[s]
theorem dedup_snoc:∀ (l seen:List ByteArray) (s:ByteArray),dedupA seen (l++[s])=dedupA seen l++(if (seen++l).any (fun y=>decide (s=y)) then [] else [s])
 | [],seen,s=>by
  simp only [List.nil_append,dedupA,List.append_nil]
 | a::l,seen,s=>by
  simp only [List.cons_append,dedupA]
  rw [dedup_snoc l (seen++[a]) s]
  have:(seen++[a]++l)=seen++a::l:=by simp
  rw [this]
  split<;>simp
theorem mem_dedup:∀ (l seen:List ByteArray) (s:ByteArray),s∈dedupA seen l↔s∈l∧s ∉ seen
 | [],seen,s=>by simp [dedupA]
 | a::l,seen,s=>by
  simp only [dedupA]
  by_cases h:(seen.any fun y=>decide (a=y))=true
  · rw [if_pos h,mem_dedup l]
    have ha:a∈seen:=by obtain ⟨y,h1,h2⟩:=List.any_eq_true.1 h;simp at h2;subst h2;exact h1
    simp only [List.mem_append,List.mem_singleton,List.mem_cons,not_or]
    constructor
    · rintro ⟨h1,h2,h3⟩;exact ⟨.inr h1,h2⟩
    · rintro ⟨h1 | h1,h2⟩
      · subst h1;exact absurd ha h2
      · exact ⟨h1,h2,⟨fun (e:s=a)=>h2 (e ▸ ha),by simp⟩⟩
  · rw [if_neg h]
    have ha:a ∉ seen:=fun h2=>h (List.any_eq_true.2 ⟨a,h2,by simp⟩)
    simp only [List.mem_cons,mem_dedup l,List.mem_append,List.mem_singleton,not_or]
    by_cases e:s=a
    · subst e;simp [ha]
    · simp [e]
theorem dedup_fold (l:List ByteArray):dedupA [] l=l.foldl addS []:=by
 refine snoc_induct (motive:=fun l=>dedupA [] l=l.foldl addS []) rfl (fun l a ih=>?_) l
 rw [dedup_snoc,List.foldl_append,← ih,List.nil_append]
 show _=addS (dedupA [] l) a
 unfold addS
 have:((dedupA [] l).any fun y=>decide (y=a))=(l.any fun y=>decide (a=y)):=by
  rw [Bool.eq_iff_iff,List.any_eq_true,List.any_eq_true]
  constructor
  · rintro ⟨y,h1,h2⟩;simp at h2;subst h2;exact ⟨y,((mem_dedup l [] y).1 h1).1,by simp⟩
  · rintro ⟨y,h1,h2⟩;simp at h2;subst h2;exact ⟨a,(mem_dedup l [] a).2 ⟨h1,by simp⟩,by simp⟩
 rw [this]
 split<;>simp
theorem addS_len (o:List ByteArray) (s:ByteArray):o.length≤(addS o s).length∧(addS o s).length≤o.length+1:=by unfold addS;split<;>simp
theorem foldl_addS_len:∀ (l o:List ByteArray),(l.foldl addS o).length≤o.length+l.length
 | [],o=>by simp
 | s::l,o=>by
  have h1:=foldl_addS_len l (addS o s)
  have h2:=(addS_len o s).2
  simp only [List.foldl_cons,List.length_cons];omega
abbrev OwnS (w:World) (base:Nat) (v:Value) (l:List ByteArray):Prop:=OwnE w base 9 1 strEnc v l
theorem append_strL {w:World} {QP:List PanicEntry→World→Prop} {k:Value→World→Prop} {base:Nat} {v:Value} {l:List ByteArray} (s:ByteArray) {p:Nat} (hown:OwnS w base v l) (hp:w.heap[p]?=some (.cells #[.string s] 9 (0,0))) (hbase:base≤w.heap.size) (hl:l.length≤1048576)
 (hk:∀ v' w',OwnS w' base v' (l++[s])→w.grownBy w' v.ownBlock→(∀ b,v'.ownBlock=some b→v.ownBlock=some b∨b=w.heap.size)→k v' w') :
 opV Pg (Builtin.append_ #[69,69] 69 #[v,.slice (some ⟨p,0,none⟩) 1 1]) QP w k:=by
 have hby:=by9
 refine op_appendL (l':=[s]) Tryz.underlying69 ty9 rfl (by decide) (fun _=>rfl) (fun x _ u hu=>by simp at hu;subst hu;rfl) hown (fun j x hx=>?_) hbase (Nat.zero_lt_one) ?_ (by simp;omega) ?_
 · cases j with
   | zero =>
    simp at hx;subst hx
    intro j v hv
    rw [(cells_of_heap hp).1]
    simpa using hv
   | succ j=>simp at hx
 · simp only [List.length_cons,List.length_nil]
   exact Nat.le_trans (Nat.mul_le_mul (Nat.add_le_add_right hl 1) hby) (by decide)
 · intro g cap w' h1 h2 h3 h4
   refine hk _ w' h1 h2 (fun b hb=>?_)
   simp only [Value.ownBlock,Option.some.injEq] at hb
   subst hb
   exact h3
def Apart (v u:Value):Prop:=∀ b,v.ownBlock=some b→u.ownBlock≠some b
theorem OwnS.lt {w:World} {base:Nat} {v:Value} {l:List ByteArray} (h:OwnS w base v l):∀ b,v.ownBlock=some b→b < w.heap.size:=fun b hb=>(World.ownsRow.lt h b hb).2
theorem Apart.after {v u v':Value} {n:Nat} (h:Apart v u) (hu:∀ b,u.ownBlock=some b→b < n) (hv:∀ b,v'.ownBlock=some b→v.ownBlock=some b∨b=n):Apart v' u:=fun b hb e=>by
 rcases hv b hb with h1 | h1
 · exact h b h1 e
 · have:=hu b e;omega
def refsL (m:MsgD):List ByteArray:=dedupA [] (allRefs m.fields)
section
variable {W:World} {R:RT}
theorem rre_in2 {w:World} (e:Ext W w) (sv t6 t4:Value) (out L:List ByteArray) (hO:OwnS w W.heap.size sv out) (hL:OwnS w W.heap.size t6 L) (hA:Apart sv t6) (hlen:out.length+L.length≤1048576) (next1:Value→Value→World→Prop)
 (i:Nat) (hi:i < 9223372036854775807) (h4:t4 = .int .i64 (i:Int)) (hn:∀ sv' w',Ext W w'→OwnS w' W.heap.size sv' (L.foldl addS out)→next1 sv' (.int .i64 ((i+1:Nat):Int)) w') :
 loop2 (fun t3 t8 w next7=>n23c5 t3 t4 t6 t8 next1 next7 R w) sv (.int .i64 0) w:=by
 refine loop2_intro (fun a b w'=>∃ (k:Nat) (sv':Value),a=sv'∧b = .int .i64 k∧k≤L.length∧Ext W w'∧OwnS w' W.heap.size sv' ((L.take k).foldl addS out)∧OwnS w' W.heap.size t6 L∧Apart sv' t6) (fun _ b _=>L.length - (intOf b).toNat) ⟨0,sv,rfl,rfl,by omega,e,hO,hL,hA⟩ ?_
 rintro _ _ w1 ⟨k,sv',rfl,rfl,hk,e1,hO1,hL1,hA1⟩
 have hsl:=hL1.slice (E:=EStr) (fun _=>rfl) (fun _ _=>rfl)
 obtain ⟨A,c,h6,hlc,hcm,hlm,hel⟩:=SliceOf.open hsl
 unfold n23c5
 rcases drop_cases hk with ⟨x,hx,hd,hlt,hdec⟩ | ⟨hk,hd,hdec⟩
 · have hstep:(L.take (k+1)).foldl addS out=addS ((L.take k).foldl addS out) x:=by rw [take_snoc hx,List.foldl_append];rfl
   have hol:((L.take k).foldl addS out).length≤1048576:=by
    have:=foldl_addS_len (L.take k) out
    have h2:(L.take k).length≤L.length:=by rw [List.length_take];omega
    omega
   generalize ((L.take k).foldl addS out)=o1 at hO1 hstep hol
   obtain ⟨b6,o6,cs6,hA6,_,hE6,hcs6⟩:=hel k x hx
   subst h6 hA6
   subst hcs6
   simp (disch:=try exact DI) only [↓PR,QR,Int.reduceBEq,Int.reduceBNe,Int.reduceLT,Int.reduceLE,Int.reduceGT,Int.reduceGE,Int.reduceNeg,hdec]
   refine loop2_intro (fun a b w'=>∃ (j:Nat),a = .bool ((o1.take j).any fun y=>decide (y=x))∧b = .int .i64 j∧j≤o1.length∧Ext w1 w') (fun _ b _=>o1.length - (intOf b).toNat) ⟨0,by simp,rfl,by omega,Ext.refl _⟩ ?_
   rintro _ _ w2 ⟨j,rfl,rfl,hj,e2⟩
   have hso:=hO1.slice (E:=EStr) (fun _=>rfl) (fun _ _=>rfl)
   obtain ⟨A3,c3,h3,hlc3,hcm3,hlm3,hel3⟩:=SliceOf.open hso
   unfold n23c4
   rcases drop_cases hj with ⟨y,hy,hdj,hltj,hdecj⟩ | ⟨hj,hdj,hdecj⟩
   · obtain ⟨b3,o3,cs3,hA3,_,hE3,hcs3⟩:=hel3 j y hy
     subst h3 hA3
     subst hcs3
     have hany:((o1.take (j+1)).any fun y=>decide (y=x))=(((o1.take j).any fun y=>decide (y=x))||decide (y=x)):=by rw [take_snoc hy,List.any_append];simp
     simp (disch:=try exact DI) only [↓PR,QR,Int.reduceBEq,Int.reduceBNe,Int.reduceLT,Int.reduceLE,Int.reduceGT,Int.reduceGE,Int.reduceNeg,hdecj]
     refine drawK_intro ?_
     unfold n23c1
     generalize hsn:((o1.take j).any fun y=>decide (y=x))=sn at hany
     cases sn with
     | true =>
      simp (disch:=try exact DI) only [↓PR,QR,Int.reduceBEq,Int.reduceBNe,Int.reduceLT,Int.reduceLE,Int.reduceGT,Int.reduceGE,Int.reduceNeg]
      refine ⟨⟨j+1,?_,rfl,by omega,ee⟩,meas_lt hltj⟩
      rw [hany];rfl
     | false =>
      simp (disch:=try exact DI) only [↓PR,QR,Int.reduceBEq,Int.reduceBNe,Int.reduceLT,Int.reduceLE,Int.reduceGT,Int.reduceGE,Int.reduceNeg,hE3.c1 e2,hE6.c1 e2]
      refine ⟨⟨j+1,?_,rfl,by omega,ee⟩,meas_lt hltj⟩
      rw [hany];rfl
   · subst hj
     rw [List.take_length]
     have hadd:addS o1 x=if (o1.any fun y=>decide (y=x))=true then o1 else o1++[x]:=rfl
     rw [hadd] at hstep
     subst h3
     simp (disch:=try exact DI) only [↓PR,QR,Int.reduceBEq,Int.reduceBNe,Int.reduceLT,Int.reduceLE,Int.reduceGT,Int.reduceGE,Int.reduceNeg,hdecj]
     unfold n23c3
     generalize (o1.any fun y=>decide (y=x))=sn at hstep
     cases sn with
     | true =>
      rw [if_pos rfl] at hstep
      simp (disch:=try exact DI) only [↓PR,QR,Int.reduceBEq,Int.reduceBNe,Int.reduceLT,Int.reduceLE,Int.reduceGT,Int.reduceGE,Int.reduceNeg]
      exact ⟨⟨k+1,_,rfl,rfl,by omega,e1.trans e2,by rw [hstep];exact hO1.ext e2,hL1.ext e2,hA1⟩,meas_lt hlt⟩
     | false =>
      rw [if_neg (by simp)] at hstep
      simp (disch:=try exact DI) only [↓PR,QR,Int.reduceBEq,Int.reduceBNe,Int.reduceLT,Int.reduceLE,Int.reduceGT,Int.reduceGE,Int.reduceNeg,n23c2,hE6.c1 e2]
      have ea:Ext w1 (w2.alloc (Obj.cells #[.string x] 9)):=e2.alloc _
      have hsz:(w2.alloc (Obj.cells #[.string x] 9)).heap.size=w2.heap.size+1:=by simp only [World.size_alloc]
      have s1:=e1.size
      have s2:=e2.size
      refine append_strL x (hO1.ext ea) (heap_new w2 _ _) (by omega) hol ?_
      intro v' w' hO' hg hv'
      have ew:Ext W w':=(e1.trans ea).grown hg (fun b hb=>(World.ownsRow.lt hO1 b hb).1)
      simp (disch:=try exact DI) only [↓PR,QR,Int.reduceBEq,Int.reduceBNe,Int.reduceLT,Int.reduceLE,Int.reduceGT,Int.reduceGE,Int.reduceNeg]
      refine ⟨⟨k+1,v',rfl,rfl,by omega,ew,by rw [hstep];exact hO',(hL1.ext ea).grown hg (fun b hb e=>hA1 b e hb),hA1.after (fun b hb=>?_) hv'⟩,meas_lt hlt⟩
      have:=hL1.lt b hb
      omega
 · subst hk
   rw [List.take_length] at hO1
   subst h6
   rw [h4]
   simp (disch:=try exact DI) only [↓PR,QR,Int.reduceBEq,Int.reduceBNe,Int.reduceLT,Int.reduceLE,Int.reduceGT,Int.reduceGE,Int.reduceNeg,hdec]
   exact hn _ w1 e1 hO1
theorem rre_c8 {w:World} (e:Ext W w) (x:FieldD) (tv cv:Value) (p5:Nat) (o5:w.heap[p5]?=some (.cells (fieldCells x tv cv).toArray 52 (0,0))) (hC:CasesOf W cv x.cases) (sv t6 t4:Value) (out:List ByteArray) (hO:OwnS w W.heap.size sv out) (hlen:out.length+(refsF x).length≤1048576)
 (h6:(x.kind≠9∧OwnS w W.heap.size t6 (refsF x)∧Apart sv t6)∨(x.kind=9∧t6 = .slice none 0 0)) (next1:Value→Value→World→Prop) (i:Nat) (hi:i < 9223372036854775807) (h4:t4 = .int .i64 (i:Int))
 (hn:∀ sv' w',Ext W w'→OwnS w' W.heap.size sv' ((refsF x).foldl addS out)→next1 sv' (.int .i64 ((i+1:Nat):Int)) w') :
 loop2 (fun t6 t7 w next5=>n23c8 sv t4 (.pointer (some ⟨p5,0,none⟩)) t6 t7 next1 next5 R w) t6 (.int .i64 0) w:=by
 rcases h6 with ⟨hk,hL,hA⟩ | ⟨hk,rfl⟩
 · refine loop2_intro (fun a b w'=>a=t6∧b = .int .i64 0∧w'=w) (fun _ _ _=>0) ⟨rfl,rfl,rfl⟩ ?_
   rintro _ _ _ ⟨rfl,rfl,rfl⟩
   unfold n23c8
   have k9:(x.kind == 9)=false:=by simpa using hk
   simp (disch:=try exact DI) only [↓PR,QR,Int.reduceBEq,Int.reduceBNe,Int.reduceLT,Int.reduceLE,Int.reduceGT,Int.reduceGE,Int.reduceNeg,(cells_of_heap o5).1,k9,n23c7]
   exact rre_in2 e sv _ t4 out (refsF x) hO hL hA hlen next1 i hi h4 hn
 · have hr:refsF x=x.cases.map (·.of):=by unfold refsF;rw [if_neg (by omega),if_pos hk]
   have k9:(x.kind == 9)=true:=by simpa using hk
   obtain ⟨A,c,rfl,hlc,hcm,hlm,hel⟩:=SliceOf.open hC
   have l5:p5 < w.heap.size:=(Array.getElem?_eq_some_iff.1 o5).1
   rw [hr] at hlen hn
   simp only [List.length_map] at hlen
   refine loop2_intro (fun a b w'=>∃ (k:Nat) (u:Value),a=u∧b = .int .i64 k∧k≤x.cases.length∧Ext W w'∧w'.heap[p5]?=some (.cells (fieldCells x tv (.slice A x.cases.length c)).toArray 52 (0,0))∧OwnS w' w.heap.size u ((x.cases.take k).map (·.of))∧OwnS w' W.heap.size sv out∧w.heap.size≤w'.heap.size) (fun _ b _=>x.cases.length - (intOf b).toNat) ⟨0,_,rfl,rfl,by omega,e,o5,OwnE.nil _ _ _ _ _,hO,Nat.le_refl _⟩ ?_
   rintro u _ w1 ⟨k,_,rfl,rfl,hk1,e1,y5,hU,hO1,hs1⟩
   have hAp:Apart sv u:=fun b hb e=>by
    have h1:=hO.lt b hb
    have h2:=(World.ownsRow.lt hU b e).1
    omega
   unfold n23c8
   rcases drop_cases hk1 with ⟨y,hy,hd,hlt,hdec⟩ | ⟨hk1,hd,hdec⟩
   · obtain ⟨b,o,cs,rfl,hl,hA,rfl⟩:=hel k y hy
     simp (disch:=try exact DI) only [↓PR,QR,Int.reduceBEq,Int.reduceBNe,Int.reduceLT,Int.reduceLE,Int.reduceGT,Int.reduceGE,Int.reduceNeg,(cells_of_heap y5).1,k9,hdec,n23c7]
     unfold n23c6
     simp (disch:=try exact DI) only [↓PR,QR,Int.reduceBEq,Int.reduceBNe,Int.reduceLT,Int.reduceLE,Int.reduceGT,Int.reduceGE,Int.reduceNeg,(cells_of_heap y5).1,hA.c3 e1]
     have ea:Ext w1 (w1.alloc (Obj.cells #[.string y.of] 9)):=ee
     have hsz:(w1.alloc (Obj.cells #[.string y.of] 9)).heap.size=w1.heap.size+1:=by simp only [World.size_alloc]
     have sW:=e.size
     refine append_strL y.of (hU.ext ea) (heap_new w1 _ _) (by omega) (by rw [List.length_map,List.length_take];omega) ?_
     intro v' w' hO' hg hv'
     have ew:Ext W w':=(e1.trans ea).grown hg (fun b hb=>by have:=(World.ownsRow.lt hU b hb).1;omega)
     have hsw:=hg.size
     simp (disch:=try exact DI) only [↓PR,QR,Int.reduceBEq,Int.reduceBNe,Int.reduceLT,Int.reduceLE,Int.reduceGT,Int.reduceGE,Int.reduceNeg]
     refine ⟨⟨k+1,v',rfl,rfl,by omega,ew,?_,?_,(hO1.ext ea).grown hg (fun b hb e=>hAp b hb e),by omega⟩,meas_lt hlt⟩
     · rw [hg.block p5 (by omega) (fun e=>by have:=(World.ownsRow.lt hU p5 e.symm).1;omega)]
       exact ea.obj y5
     · rw [take_snoc hy,List.map_append];exact hO'
   · subst hk1
     rw [List.take_length] at hU
     simp (disch:=try exact DI) only [↓PR,QR,Int.reduceBEq,Int.reduceBNe,Int.reduceLT,Int.reduceLE,Int.reduceGT,Int.reduceGE,Int.reduceNeg,(cells_of_heap y5).1,k9,hdec,n23c7]
     exact rre_in2 e1 sv _ t4 out (x.cases.map (·.of)) hO1 (OwnE.base hU e.size) hAp (by simpa using hlen) next1 i hi h4 hn
theorem rRefers_ret (w0:World) (v:Value) (m:MsgD) (hm:MsgVal w0 v m) (hb:(allRefs m.fields).length≤1048576) :
 Ret Pg 25 #[v] w0 fun r w'=>OwnS w' w0.heap.size r (refsL m)∧Ext w0 w':=by
 obtain ⟨fv,rfl,hF⟩:=hm
 obtain ⟨A,c,rfl,hlc,hcm,hlm,hel⟩:=SliceOf.open hF
 refine n23s (R:=retR _) ?_;unfold n23
 simp (disch:=try exact DI) only [↓PR,QR,Int.reduceBEq,Int.reduceBNe,Int.reduceLT,Int.reduceLE,Int.reduceGT,Int.reduceGE,Int.reduceNeg]
 have hBW:=ElemAt.new (w:=w0) (msgCells m (.slice A m.fields.length c)) (45)
 have eW:Ext w0 (w0.alloc (Obj.cells (List.toArray (msgCells m (.slice A m.fields.length c))) (45))):=(Ext.refl _).alloc _
 generalize (w0.alloc (Obj.cells (List.toArray (msgCells m (.slice A m.fields.length c))) (45)))=W at hBW eW ⊢
 have hW:w0.heap.size≤W.heap.size:=eW.size
 refine loop2_intro (fun a b w'=>∃ (k:Nat) (sv:Value),a=sv∧b = .int .i64 k∧k≤m.fields.length∧Ext W w'∧OwnS w' W.heap.size sv (dedupA [] (allRefs (m.fields.take k)))) (fun _ b _=>m.fields.length - (intOf b).toNat) ⟨0,_,rfl,rfl,by omega,Ext.refl _,OwnE.nil _ _ _ _ _⟩ ?_
 rintro sv _ w1 ⟨k,_,rfl,rfl,hk,e,hO⟩
 have e':=eW.trans e
 have s1:=e.size
 unfold n23c13
 rcases drop_cases hk with ⟨x,hx,hd,hlt,hdec⟩ | ⟨hk,hd,hdec⟩
 · obtain ⟨b,o,cs,rfl,hl,hA,hE⟩:=hel k x hx
   obtain ⟨tv,cv,rfl,hT,hC,ht1,hc1⟩:=hE.op
   have hpre:allRefs (m.fields.take (k+1))=allRefs (m.fields.take k)++refsF x:=by unfold allRefs;rw [take_snoc hx,List.flatMap_append];simp
   have hle:(allRefs (m.fields.take k)).length+(refsF x).length≤1048576:=by
    have h1:(allRefs (m.fields.take (k+1))).length≤(allRefs m.fields).length:=by
     conv=>rhs;rw [← List.take_append_drop (k+1) m.fields]
     unfold allRefs
     rw [List.flatMap_append,List.length_append];omega
    rw [hpre,List.length_append] at h1;omega
   have hout:(dedupA [] (allRefs (m.fields.take k))).length≤(allRefs (m.fields.take k)).length:=by
    rw [dedup_fold];have:=foldl_addS_len (allRefs (m.fields.take k)) [];simpa using this
   have hle':(dedupA [] (allRefs (m.fields.take k))).length+(refsF x).length≤1048576:=by omega
   have hnext:dedupA [] (allRefs (m.fields.take (k+1)))=(refsF x).foldl addS (dedupA [] (allRefs (m.fields.take k))):=by rw [hpre,dedup_fold,dedup_fold,List.foldl_append]
   simp (disch:=try exact DI) only [↓PR,QR,Int.reduceBEq,Int.reduceBNe,Int.reduceLT,Int.reduceLE,Int.reduceGT,Int.reduceGE,Int.reduceNeg,hdec,hBW.c2]
   unfold n23c12
   simp (disch:=try exact DI) only [↓PR,QR,Int.reduceBEq,Int.reduceBNe,Int.reduceLT,Int.reduceLE,Int.reduceGT,Int.reduceGE,Int.reduceNeg,hBW.c2,hA.c15 e']
   have ea:Ext w1 (w1.alloc (Obj.cells (fieldCells x tv cv).toArray 52)):=ee
   have o5:=heap_new w1 (fieldCells x tv cv).toArray 52
   have hO2:=hO.ext ea
   have ew:=e.trans ea
   have hbn:∀ sv' w',Ext W w'→OwnS w' W.heap.size sv' ((refsF x).foldl addS (dedupA [] (allRefs (m.fields.take k))))→(∃ (k':Nat) (sv:Value),sv'=sv∧(Value.int .i64 ((k+1:Nat):Int)) = .int .i64 k'∧k'≤m.fields.length∧Ext W w'∧OwnS w' W.heap.size sv (dedupA [] (allRefs (m.fields.take k'))))∧m.fields.length - (intOf (Value.int .i64 ((k+1:Nat):Int))).toNat < m.fields.length - (intOf (Value.int .i64 (k:Int))).toNat :=
    fun sv' w' ew h=>⟨⟨k+1,sv',rfl,rfl,by omega,ew,by rw [hnext];exact h⟩,meas_lt hlt⟩
   have hCW:=CasesOf.ext hC eW
   have lo:∀ b,sv.ownBlock=some b→b < w1.heap.size:=fun b hb=>hO.lt b hb
   generalize hw2:(w1.alloc (Obj.cells (fieldCells x tv cv).toArray 52))=w2 at ea o5 hO2 ew
   have hs2:w2.heap.size=w1.heap.size+1:=by rw [← hw2];simp only [World.size_alloc]
   by_cases hr:x.kind=7∨x.kind=8∨x.kind=12
   · have hrf:refsF x=[x.of]:=by unfold refsF;rw [if_pos hr]
     have tail:joinK (fun (t6:Value) (w:World)=>loop2 (fun t6 t7 w next5=>n23c8 sv (.int .i64 (k:Int)) (.pointer (some ⟨w1.heap.size,0,none⟩)) t6 t7 (fun a0' a1' w'=>(∃ (k':Nat) (sv:Value),a0'=sv∧a1' = .int .i64 k'∧k'≤m.fields.length∧Ext W w'∧OwnS w' W.heap.size sv (dedupA [] (allRefs (m.fields.take k'))))∧m.fields.length - (intOf a1').toNat < m.fields.length - (intOf (Value.int .i64 (k:Int))).toNat) next5 (retR fun r w'=>OwnS w' w0.heap.size r (refsL m)∧Ext w0 w') w) t6 (.int .i64 0) w) fun K4=>n23c9 (.pointer (some ⟨w1.heap.size,0,none⟩)) K4 (retR fun r w'=>OwnS w' w0.heap.size r (refsL m)∧Ext w0 w') w2:=by
      rw [joinK_eq]
      unfold n23c9
      simp (disch:=try exact DI) only [↓PR,QR,Int.reduceBEq,Int.reduceBNe,Int.reduceLT,Int.reduceLE,Int.reduceGT,Int.reduceGE,Int.reduceNeg,(cells_of_heap o5).1]
      have eb:Ext w2 (w2.alloc (Obj.cells #[.string x.of] 9)):=ee
      have hsb:(w2.alloc (Obj.cells #[.string x.of] 9)).heap.size=w2.heap.size+1:=by simp only [World.size_alloc]
      refine append_strL x.of (OwnE.nil _ W.heap.size _ _ _) (heap_new w2 _ _) (by omega) (by decide) ?_
      intro v' w' hO' hg hv'
      have eg:Ext w1 w':=(ea.trans eb).grown hg (fun b hb=>by cases hb)
      refine rre_c8 (e.trans eg) x tv cv w1.heap.size ?_ hCW sv v' _ _ (hO.ext eg) hle' (.inl ⟨by omega,by rw [hrf];exact hO',fun b hb e=>?_⟩) _ k (by omega) rfl hbn
      · exact (Ext.grown (Ext.refl _) hg (fun b hb=>by cases hb)).obj (eb.obj o5)
      · rcases hv' b e with h1 | h1
        · cases h1
        · have:=lo b hb;omega
     rw [joinK_eq] at tail
     rcases hr with h7 | h8 | h12
     · have k7:(x.kind == 7)=true:=by simpa using h7
       simp (disch:=try exact DI) only [↓PR,QR,Int.reduceBEq,Int.reduceBNe,Int.reduceLT,Int.reduceLE,Int.reduceGT,Int.reduceGE,Int.reduceNeg,k7,n23c11,n23c10]
       exact tail
     · have k7:(x.kind == 7)=false:=by simp;omega
       have k8:(x.kind == 8)=true:=by simpa using h8
       simp (disch:=try exact DI) only [↓PR,QR,Int.reduceBEq,Int.reduceBNe,Int.reduceLT,Int.reduceLE,Int.reduceGT,Int.reduceGE,Int.reduceNeg,k7,k8,n23c11,n23c10,(cells_of_heap o5).1]
       exact tail
     · have k7:(x.kind == 7)=false:=by simp;omega
       have k8:(x.kind == 8)=false:=by simp;omega
       have k12:(x.kind == 12)=true:=by simpa using h12
       simp (disch:=try exact DI) only [↓PR,QR,Int.reduceBEq,Int.reduceBNe,Int.reduceLT,Int.reduceLE,Int.reduceGT,Int.reduceGE,Int.reduceNeg,k7,k8,k12,n23c11,n23c10,(cells_of_heap o5).1]
       exact tail
   · have k7:(x.kind == 7)=false:=by simp;omega
     have k8:(x.kind == 8)=false:=by simp;omega
     have k12:(x.kind == 12)=false:=by simp;omega
     simp (disch:=try exact DI) only [↓PR,QR,Int.reduceBEq,Int.reduceBNe,Int.reduceLT,Int.reduceLE,Int.reduceGT,Int.reduceGE,Int.reduceNeg,k7,k8,k12,n23c11,n23c10,(cells_of_heap o5).1]
     refine rre_c8 ew x tv cv w1.heap.size o5 hCW sv _ _ _ hO2 hle' ?_ _ k (by omega) rfl hbn
     by_cases h9:x.kind=9
     · exact .inr ⟨h9,rfl⟩
     · have hrf:refsF x=[]:=by unfold refsF;rw [if_neg hr,if_neg h9]
       exact .inl ⟨h9,by rw [hrf];exact OwnE.nil _ _ _ _ _,fun b _ e=>by cases e⟩
 · subst hk
   rw [List.take_length] at hO
   simp (disch:=try exact DI) only [↓PR,QR,Int.reduceBEq,Int.reduceBNe,Int.reduceLT,Int.reduceLE,Int.reduceGT,Int.reduceGE,Int.reduceNeg,hdec,hBW.c2]
   exact ⟨OwnE.base hO hW,ee⟩
end
end Go.Proofs.YtiajhbbmgglmlaaGreat
namespace Go.Proofs.YtiajhbbmgglmlaaGreat
open Sw
open Go.RowKit (intOf Below)
def Sub {β:Type} (a b:List (ByteArray×β)):Prop:=∀ s v,lastP a s=some v→lastP b s=some v
section
variable {β:Type}
theorem Sub.refl (a:List (ByteArray×β)):Sub a a:=fun _ _ h=>h
theorem Sub.trans {a b c:List (ByteArray×β)} (h:Sub a b) (k:Sub b c):Sub a c:=fun s v x=>k s v (h s v x)
theorem Sub.snoc {a:List (ByteArray×β)} {p:ByteArray×β} (h:lastP a p.1=none):Sub a (a++[p]):=fun s v x=>by
 rw [lastP_snoc]
 by_cases e:p.1=s
 · subst e;rw [h] at x;cases x
 · rw [if_neg e];exact x
theorem Sub.is {a b:List (ByteArray×β)} (h:Sub a b) {s:ByteArray} (k:(lastP a s).isSome=true):(lastP b s).isSome=true:=by
 obtain ⟨v,hv⟩:=Option.isSome_iff_exists.1 k
 rw [h s v hv];rfl
theorem Sub.eq {a b:List (ByteArray×β)} (h:Sub a b) {s:ByteArray} (k:(lastP a s).isSome=true):lastP b s=lastP a s:=by
 obtain ⟨v,hv⟩:=Option.isSome_iff_exists.1 k
 rw [h s v hv,hv]
theorem lastP_none {l:List (ByteArray×β)} {s:ByteArray}:lastP l s=none↔∀ p∈l,p.1≠s:=by
 unfold lastP
 rw [Option.map_eq_none_iff,List.find?_eq_none]
 simp
end
theorem isI (deps:List (ByteArray×Int)) (s:ByteArray):(lastOf (vI deps) s).isSome=(lastP deps s).isSome:=by rw [lastOf_vI];simp
theorem orC_iff {a b:Int}:orC a b=0↔a=0∧b=0:=by
 unfold orC
 split
 · rename_i h;simp [h]
 · rename_i h;simp [h]
theorem needC_iff {b:Bool} {c:Int} (hc:c≠0):needC b c=0↔b=true:=by
 unfold needC
 cases b<;>simp [hc]
theorem mem_dedupA {s:ByteArray}:∀ {l seen:List ByteArray},s∈dedupA seen l→s∈l
 | [],_,h=>by cases h
 | x::l,seen,h=>by
  unfold dedupA at h
  split at h
  · exact List.mem_cons_of_mem _ (mem_dedupA h)
  · rcases List.mem_cons.1 h with rfl | h
    · exact List.mem_cons_self
    · exact List.mem_cons_of_mem _ (mem_dedupA h)
section
variable {deps deps':List (ByteArray×Int)} {strs strs':List (ByteArray×Bool)}
theorem casesL_mono (hd:Sub deps deps') (hi:Int):∀ (l:List CaseD) (lo:Int),casesL hi (vI deps) lo l=0→casesL hi (vI deps') lo l=0∧∀ c∈l,(lastP deps c.of).isSome=true
 | [],_,_=>⟨rfl,fun _ h=>by cases h⟩
 | x::l,lo,h=>by
  simp only [casesL,orC_iff,needC_iff (show (8:Int)≠0 by decide),isI] at h ⊢
  obtain ⟨h1,h2,h3⟩:=h
  obtain ⟨i1,i2⟩:=casesL_mono hd hi l _ h3
  refine ⟨⟨h1,hd.is h2,i1⟩,fun c hc=>?_⟩
  rcases List.mem_cons.1 hc with rfl | hc
  · exact h2
  · exact i2 c hc
theorem strB_some {s:ByteArray} (h:strB (vB strs) s=true):lastP strs s=some true:=by
 rw [strB_vB] at h
 cases hl:lastP strs s with
 | none=>rw [hl] at h;cases h
 | some b=>rw [hl] at h;simp at h;rw [h]
theorem examine_mono (hd:Sub deps deps') (hs:Sub strs strs') {bef:List FieldD} {f:FieldD} (h:examineC bef (vI deps) (vB strs) f=0):examineC bef (vI deps') (vB strs') f=0:=by
 unfold examineC at h ⊢
 simp only [orC_iff] at h ⊢
 refine ⟨h.1,h.2.1,h.2.2.1,h.2.2.2.1,?_⟩
 obtain ⟨_,_,_,_,h⟩:=h
 unfold checkC at h ⊢
 by_cases k1:f.kind=1
 · rw [if_pos k1] at h ⊢;exact h
 rw [if_neg k1] at h ⊢
 by_cases k2:f.kind=2
 · rw [if_pos k2] at h ⊢;exact h
 rw [if_neg k2] at h ⊢
 by_cases k3:f.kind=3
 · rw [if_pos k3] at h ⊢;exact h
 rw [if_neg k3] at h ⊢
 by_cases k4:f.kind=4
 · rw [if_pos k4] at h ⊢;exact h
 rw [if_neg k4] at h ⊢
 by_cases k5:f.kind=5
 · rw [if_pos k5] at h ⊢;exact h
 rw [if_neg k5] at h ⊢
 by_cases k6:f.kind=6
 · rw [if_pos k6] at h ⊢;exact h
 rw [if_neg k6] at h ⊢
 by_cases k7:f.kind=7
 · rw [if_pos k7] at h ⊢
   simp only [orC_iff,needC_iff (show (8:Int)≠0 by decide),isI] at h ⊢
   exact ⟨hd.is h.1,h.2⟩
 rw [if_neg k7] at h ⊢
 by_cases k8:f.kind=8
 · rw [if_pos k8] at h ⊢
   simp only [needC_iff (show (8:Int)≠0 by decide),isI] at h ⊢
   exact hd.is h
 rw [if_neg k8] at h ⊢
 by_cases k9:f.kind=9
 · rw [if_pos k9] at h ⊢
   unfold casesC at h ⊢
   simp only [orC_iff] at h ⊢
   exact ⟨h.1,h.2.1,(casesL_mono hd _ _ _ h.2.2).1⟩
 rw [if_neg k9] at h ⊢
 by_cases k10:f.kind=10
 · rw [if_pos k10] at h ⊢;exact h
 rw [if_neg k10] at h ⊢
 by_cases k11:f.kind=11
 · rw [if_pos k11] at h ⊢;exact h
 rw [if_neg k11] at h ⊢
 by_cases k12:f.kind=12
 · rw [if_pos k12] at h ⊢
   simp only [orC_iff,needC_iff (show (8:Int)≠0 by decide)] at h ⊢
   refine ⟨h.1,?_,h.2.2⟩
   rw [strB_vB,hs _ _ (strB_some h.2.1)];rfl
 rw [if_neg k12]
theorem examine_refs (hds:∀ s,(lastP strs s).isSome=true→(lastP deps s).isSome=true) {bef:List FieldD} {f:FieldD} (h:examineC bef (vI deps) (vB strs) f=0):∀ s∈refsF f,(lastP deps s).isSome=true:=by
 intro s hs
 unfold examineC at h
 simp only [orC_iff] at h
 obtain ⟨_,_,_,_,h⟩:=h
 unfold checkC at h
 unfold refsF at hs
 split at hs
 · rename_i hk
   simp only [List.mem_singleton] at hs
   subst hs
   rcases hk with hk | hk | hk
   · rw [if_neg (by omega),if_neg (by omega),if_neg (by omega),if_neg (by omega),if_neg (by omega),if_neg (by omega),if_pos hk] at h
     simp only [orC_iff,needC_iff (show (8:Int)≠0 by decide),isI] at h
     exact h.1
   · rw [if_neg (by omega),if_neg (by omega),if_neg (by omega),if_neg (by omega),if_neg (by omega),if_neg (by omega),if_neg (by omega),if_pos hk] at h
     simp only [needC_iff (show (8:Int)≠0 by decide),isI] at h
     exact h
   · rw [if_neg (by omega),if_neg (by omega),if_neg (by omega),if_neg (by omega),if_neg (by omega),if_neg (by omega),if_neg (by omega),if_neg (by omega),if_neg (by omega),if_neg (by omega),if_neg (by omega),if_pos hk] at h
     simp only [orC_iff,needC_iff (show (8:Int)≠0 by decide)] at h
     exact hds _ (by rw [strB_some h.2.1];rfl)
 · split at hs
   · rename_i hk
     obtain ⟨c,hc,rfl⟩:=List.mem_map.1 hs
     rw [if_neg (by omega),if_neg (by omega),if_neg (by omega),if_neg (by omega),if_neg (by omega),if_neg (by omega),if_neg (by omega),if_neg (by omega),if_pos hk] at h
     unfold casesC at h
     simp only [orC_iff] at h
     exact (casesL_mono (Sub.refl deps) _ _ _ h.2.2).2 c hc
   · cases hs
theorem fields_mono (hd:Sub deps deps') (hs:Sub strs strs') (hds:∀ s,(lastP strs s).isSome=true→(lastP deps s).isSome=true):∀ (l bef:List FieldD),(fieldsP deps strs bef l).2=0→fieldsP deps' strs' bef l=(-1,0)∧∀ s∈allRefs l,(lastP deps s).isSome=true
 | [],bef,h=>⟨rfl,fun s hs=>by cases hs⟩
 | f::l,bef,h=>by
  unfold fieldsP at h ⊢
  by_cases h0:examineC bef (vI deps) (vB strs) f=0
  · rw [if_pos h0] at h
    rw [if_pos (examine_mono hd hs h0)]
    obtain ⟨i1,i2⟩:=fields_mono hd hs hds l _ h
    refine ⟨i1,fun s hs=>?_⟩
    rcases List.mem_append.1 (show s∈refsF f++allRefs l from hs) with hs | hs
    · exact examine_refs hds h0 s hs
    · exact i2 s hs
  · rw [if_neg h0] at h;exact absurd h h0
theorem next_parts {m:MsgD} (h:(nextP deps strs m).2=0):nameB m.name=true∧lastP deps m.name=none∧(1≤m.fields.length∧m.fields.length≤40)∧(fieldsP deps strs [] m.fields).2=0∧depthM deps m < 16:=by
 have hl:=nextP_low h
 unfold nextP at h
 by_cases h1:nameB m.name=true
 · rw [if_pos h1] at h
   by_cases h2:(lastP deps m.name).isSome=true
   · rw [if_pos h2] at h;exact absurd h (by decide)
   · rw [if_neg h2] at h
     by_cases h3:1≤m.fields.length∧m.fields.length≤40
     · rw [if_pos h3] at h
       refine ⟨h1,by simpa using h2,h3,?_,hl⟩
       unfold tailP at h
       split at h
       · assumption
       · contradiction
     · rw [if_neg h3] at h;exact absurd h (by decide)
 · rw [if_neg h1] at h;exact absurd h (by decide)
end
section
variable {deps:List (ByteArray×Int)} {strs:List (ByteArray×Bool)}
theorem msgs_cons0 {m:MsgD} {l:List MsgD} {i:Nat} (h:(nextP deps strs m).2=0):msgsP deps strs i (m::l)=msgsP (stepD deps m) (stepS strs m) (i+1) l:=if_pos h
theorem msgs_cons1 {m:MsgD} {l:List MsgD} {i:Nat} (h:¬ (nextP deps strs m).2=0):msgsP deps strs i (m::l)=((i:Int),nextP deps strs m):=if_neg h
theorem msgs_append (r:List MsgD):∀ (l:List MsgD) (deps:List (ByteArray×Int)) (strs:List (ByteArray×Bool)) (i:Nat),((msgsP deps strs i l).2.2=0→msgsP deps strs i (l++r)=msgsP (l.foldl stepD deps) (l.foldl stepS strs) (i+l.length) r)∧((msgsP deps strs i l).2.2≠0→msgsP deps strs i (l++r)=msgsP deps strs i l)
 | [],deps,strs,i=>⟨fun _=>rfl,fun h=>absurd rfl h⟩
 | m::l,deps,strs,i=>by
  have ih:=msgs_append r l (stepD deps m) (stepS strs m) (i+1)
  by_cases h:(nextP deps strs m).2=0
  · rw [msgs_cons0 h,List.cons_append,msgs_cons0 h]
    simp only [List.foldl_cons,List.length_cons]
    rw [show i+(l.length+1)=i+1+l.length by omega]
    exact ih
  · rw [msgs_cons1 h,List.cons_append,msgs_cons1 h]
    exact ⟨fun k=>absurd k h,fun _=>rfl⟩
theorem msgs_at {l:List MsgD} {deps:List (ByteArray×Int)} {strs:List (ByteArray×Bool)} {i:Nat} (h:(msgsP deps strs i l).2.2=0) {k:Nat} {m:MsgD} (hk:l[k]?=some m):(nextP ((l.take k).foldl stepD deps) ((l.take k).foldl stepS strs) m).2=0∧(msgsP deps strs i (l.take k)).2.2=0:=by
 have hl:l=l.take k++m::l.drop (k+1):=by
  have:=(List.take_append_drop k l).symm
  rw [List.drop_eq_getElem_cons (List.getElem?_eq_some_iff.1 hk).1] at this
  rw [(List.getElem?_eq_some_iff.1 hk).2] at this
  exact this
 rw [hl] at h
 by_cases h0:(msgsP deps strs i (l.take k)).2.2=0
 · rw [(msgs_append _ _ _ _ _).1 h0] at h
   refine ⟨?_,h0⟩
   by_cases h1:(nextP ((l.take k).foldl stepD deps) ((l.take k).foldl stepS strs) m).2=0
   · exact h1
   · rw [msgs_cons1 h1] at h;exact absurd h h1
 · rw [(msgs_append _ _ _ _ _).2 h0] at h;exact absurd h h0
theorem deps_snoc (l:List MsgD) (m:MsgD):depsOf (l++[m])=depsOf l++[(m.name,depthM (depsOf l) m+1)]:=by unfold depsOf;rw [List.foldl_append];rfl
theorem strs_snoc (l:List MsgD) (m:MsgD):strsOf (l++[m])=strsOf l++[(m.name,strictM (strsOf l) m)]:=by unfold strsOf;rw [List.foldl_append];rfl
theorem fold_names:∀ (l:List MsgD) (a:List (ByteArray×Int)) (b:List (ByteArray×Bool)),(l.foldl stepD a).map (·.1)=a.map (·.1)++l.map (·.name)∧(l.foldl stepS b).map (·.1)=b.map (·.1)++l.map (·.name)
 | [],a,b=>by simp
 | m::l,a,b=>by
  have ih:=fold_names l (stepD a m) (stepS b m)
  simp only [List.foldl_cons,List.map_cons]
  rw [ih.1,ih.2]
  simp [stepD,stepS]
theorem isD {l:List MsgD} {s:ByteArray}:(lastP (depsOf l) s).isSome=true↔∃ m∈l,m.name=s:=by
 have h1:=(fold_names l [] []).1
 rw [← Option.ne_none_iff_isSome,ne_eq,lastP_none]
 constructor
 · intro h
   apply Classical.byContradiction
   intro hn
   apply h
   intro p hp he
   have:p.1∈(depsOf l).map (·.1):=List.mem_map.2 ⟨p,hp,rfl⟩
   rw [show depsOf l=l.foldl stepD [] from rfl,h1] at this
   obtain ⟨m,hm,hme⟩:=List.mem_map.1 (show p.1∈l.map (·.name) by simpa using this)
   exact hn ⟨m,hm,hme.trans he⟩
 · rintro ⟨m,hm,rfl⟩ h
   have:m.name∈(depsOf l).map (·.1):=by rw [show depsOf l=l.foldl stepD [] from rfl,h1];simpa using ⟨m,hm,rfl⟩
   obtain ⟨p,hp,hpe⟩:=List.mem_map.1 this
   exact h p hp hpe
theorem isS {l:List MsgD} {s:ByteArray}:(lastP (strsOf l) s).isSome=true↔∃ m∈l,m.name=s:=by
 have h1:=(fold_names l [] []).2
 rw [← Option.ne_none_iff_isSome,ne_eq,lastP_none]
 constructor
 · intro h
   apply Classical.byContradiction
   intro hn
   apply h
   intro p hp he
   have:p.1∈(strsOf l).map (·.1):=List.mem_map.2 ⟨p,hp,rfl⟩
   rw [show strsOf l=l.foldl stepS [] from rfl,h1] at this
   obtain ⟨m,hm,hme⟩:=List.mem_map.1 (show p.1∈l.map (·.name) by simpa using this)
   exact hn ⟨m,hm,hme.trans he⟩
 · rintro ⟨m,hm,rfl⟩ h
   have:m.name∈(strsOf l).map (·.1):=by rw [show strsOf l=l.foldl stepS [] from rfl,h1];simpa using ⟨m,hm,rfl⟩
   obtain ⟨p,hp,hpe⟩:=List.mem_map.1 this
   exact h p hp hpe
def Fine (l:List MsgD):Prop:=(msgsP [] [] 0 l).2.2=0
theorem Fine.next {l:List MsgD} (h:Fine l) {k:Nat} {m:MsgD} (hk:l[k]?=some m):(nextP (depsOf (l.take k)) (strsOf (l.take k)) m).2=0:=(msgs_at h hk).1
theorem Fine.take {l:List MsgD} (h:Fine l) (k:Nat):Fine (l.take k):=by
 by_cases hk:k < l.length
 · obtain ⟨m,hm⟩:=getElem?_lt hk
   exact (msgs_at h hm).2
 · rw [List.take_of_length_le (by omega)];exact h
theorem Fine.sub {l:List MsgD} (h:Fine l):∀ (n k:Nat),Sub (depsOf (l.take k)) (depsOf (l.take (k+n)))∧Sub (strsOf (l.take k)) (strsOf (l.take (k+n)))
 | 0,k=>⟨Sub.refl _,Sub.refl _⟩
 | n+1,k=>by
  have ih:=h.sub n k
  rw [← Nat.add_assoc]
  by_cases hk:k+n < l.length
  · obtain ⟨m,hm⟩:=getElem?_lt hk
    have h2:=(next_parts (h.next hm)).2.1
    rw [take_snoc hm,deps_snoc,strs_snoc]
    refine ⟨ih.1.trans (Sub.snoc h2),ih.2.trans (Sub.snoc ?_)⟩
    show lastP (strsOf (l.take (k+n))) m.name=none
    rw [← Option.not_isSome_iff_eq_none,isS,← isD,Option.not_isSome_iff_eq_none]
    exact h2
  · rw [List.take_of_length_le (show l.length≤k+n+1 by omega)]
    rw [List.take_of_length_le (show l.length≤k+n by omega)] at ih
    exact ih
theorem Fine.suball {l:List MsgD} (h:Fine l) (k:Nat):Sub (depsOf (l.take k)) (depsOf l)∧Sub (strsOf (l.take k)) (strsOf l):=by
 have:=h.sub l.length k
 rw [List.take_of_length_le (show l.length≤k+l.length by omega)] at this
 exact this
theorem Fine.depth {l:List MsgD} (h:Fine l) {k:Nat} {m:MsgD} (hk:l[k]?=some m):lastP (depsOf l) m.name=some (depthM (depsOf (l.take k)) m+1):=by
 refine (h.suball (k+1)).1 _ _ ?_
 rw [take_snoc hk,deps_snoc,lastP_snoc,if_pos rfl]
theorem Fine.low {l:List MsgD} (h:Fine l):∀ k,Low (depsOf (l.take k))
 | 0=>fun p hp=>by simp [depsOf] at hp
 | k+1=>by
  by_cases hk:k < l.length
  · obtain ⟨m,hm⟩:=getElem?_lt hk
    rw [take_snoc hm,show depsOf (l.take k++[m])=stepD (depsOf (l.take k)) m from deps_snoc _ _]
    exact (h.low k).step (h.next hm)
  · rw [List.take_of_length_le (show l.length≤k+1 by omega)]
    have:=h.low k
    rw [List.take_of_length_le (show l.length≤k by omega)] at this
    exact this
theorem mem_refsM {m:MsgD} {s:ByteArray} (h:s∈refsM m):s∈allRefs m.fields:=mem_dedupA h
theorem ds_of (l:List MsgD) (s:ByteArray) (h:(lastP (strsOf l) s).isSome=true):(lastP (depsOf l) s).isSome=true:=isD.2 (isS.1 h)
end
end Go.Proofs.YtiajhbbmgglmlaaGreat
namespace Go.Proofs.YtiajhbbmgglmlaaGreat
open Sw
open Go.RowKit (intOf Below)
def DistM (l:List MsgD):Prop:=l.Pairwise fun a b=>a.name≠b.name
theorem keys_strs:∀ (l:List MsgD) (a:List (ByteArray×Bool)),(l.foldl stepS a).map (·.1)=a.map (·.1)++l.map (·.name)
 | [],a=>by simp
 | m::l,a=>by rw [List.foldl_cons,keys_strs l,stepS,List.map_append];simp
theorem keys_deps:∀ (l:List MsgD) (a:List (ByteArray×Int)),(l.foldl stepD a).map (·.1)=a.map (·.1)++l.map (·.name)
 | [],a=>by simp
 | m::l,a=>by rw [List.foldl_cons,keys_deps l,stepD,List.map_append];simp
theorem first_last {β:Type} {ps:List (ByteArray×β)} {l:List MsgD} (hp:ps.map (·.1)=l.map (·.name)) (hd:DistM l) (s:ByteArray):(idx (fun m:MsgD=>decide (m.name=s)) l = -1∧lastP ps s=none)∨∃ (k:Nat) (b:β),idx (fun m:MsgD=>decide (m.name=s)) l=k∧k < l.length∧ps[k]?=some (s,b)∧lastP ps s=some b:=by
 have hlen:ps.length=l.length:=by simpa using congrArg List.length hp
 have hk:∀ (k:Nat) (m:MsgD),l[k]?=some m→∃ b,ps[k]?=some (m.name,b):=by
  intro k m hm
  obtain ⟨q,hq⟩:=getElem?_lt (l:=ps) (k:=k) (by rw [hlen];exact (List.getElem?_eq_some_iff.1 hm).1)
  have:=congrArg (fun x=>x[k]?) hp
  simp only [List.getElem?_map,hm,hq,Option.map_some] at this
  injection this with this
  exact ⟨q.2,by rw [hq,← this]⟩
 have hin:∀ q∈ps,∃ (k:Nat) (m:MsgD),l[k]?=some m∧ps[k]?=some q∧m.name=q.1:=by
  intro q hq
  obtain ⟨k,hkq⟩:=List.getElem?_of_mem hq
  obtain ⟨m,hm⟩:=getElem?_lt (l:=l) (k:=k) (by rw [← hlen];exact (List.getElem?_eq_some_iff.1 hkq).1)
  obtain ⟨b,hb⟩:=hk k m hm
  rw [hkq] at hb
  injection hb with hb
  exact ⟨k,m,hm,hkq,by rw [hb]⟩
 have hone:∀ (k j:Nat) (a b:MsgD),l[k]?=some a→l[j]?=some b→a.name=b.name→k=j:=by
  intro k j a b ha hb hn
  obtain ⟨h1,ha'⟩:=List.getElem?_eq_some_iff.1 ha
  obtain ⟨h2,hb'⟩:=List.getElem?_eq_some_iff.1 hb
  have hpw:=List.pairwise_iff_getElem.1 hd
  rcases Nat.lt_trichotomy k j with h | h | h
  · have:=hpw k j h1 h2 h;rw [ha',hb'] at this;exact absurd hn this
  · exact h
  · have:=hpw j k h2 h1 h;rw [ha',hb'] at this;exact absurd hn.symm this
 unfold idx
 cases h:l.findIdx? (fun m=>decide (m.name=s)) with
 | none =>
  rw [List.findIdx?_eq_none_iff] at h
  refine .inl ⟨rfl,?_⟩
  cases hl:lastP ps s with
  | none=>rfl
  | some b =>
   obtain ⟨k,m,h1,_,h3⟩:=hin _ (lastP_mem hl)
   simpa [h3] using h m (List.mem_of_getElem? h1)
 | some k =>
  obtain ⟨hkl,hpk,_⟩:=List.findIdx?_eq_some_iff_getElem.1 h
  simp only [decide_eq_true_eq] at hpk
  obtain ⟨b,hb⟩:=hk k _ (List.getElem?_eq_getElem hkl)
  rw [hpk] at hb
  refine .inr ⟨k,b,rfl,hkl,hb,?_⟩
  cases hl:lastP ps s with
  | none =>
   have hmem:=List.mem_of_getElem? hb
   unfold lastP at hl
   rw [Option.map_eq_none_iff,List.find?_eq_none] at hl
   exact absurd (hl (s,b) (List.mem_reverse.2 hmem)) (by simp)
  | some b' =>
   obtain ⟨j,m,h1,h2,h3⟩:=hin _ (lastP_mem hl)
   have:=hone k j _ m (List.getElem?_eq_getElem hkl) h1 (hpk.trans h3.symm)
   subst this
   rw [hb] at h2
   injection h2 with h2
   injection h2 with _ h2
   rw [h2]
abbrev boolEnc (b:Bool):List Value:=[.bool b]
abbrev OwnB (w:World) (base:Nat) (v:Value) (l:List Bool):Prop:=OwnE w base 4 1 boolEnc v l
theorem keysS (l:List MsgD):(strsOf l).map (·.1)=l.map (·.name):=by unfold strsOf;rw [keys_strs];rfl
theorem keysD (l:List MsgD):(depsOf l).map (·.1)=l.map (·.name):=by unfold depsOf;rw [keys_deps];rfl
end Go.Proofs.YtiajhbbmgglmlaaGreat
namespace Go.Proofs.YtiajhbbmgglmlaaGreat
open Sw
open Go.RowKit (intOf Below)
def RefsIn (l:List MsgD) (n:Nat):Prop:=∀ (k:Nat) (m:MsgD),k < n→l[k]?=some m→∀ s∈refsL m,((l.take k).any fun m=>decide (m.name=s))=true
theorem rStricts_ret (w0:World) (v:Value) (d:DefD) (n:Nat) (hd:DefVal w0 v d) (hn:n≤d.msgs.length) (hN:DistM (d.msgs.take n)) (hR:RefsIn d.msgs n) (hb:∀ m∈d.msgs,(allRefs m.fields).length≤1048576) (hn1:n≤1048576) :
 Ret Pg 11 #[v,.int .i64 (n:Int)] w0 fun r w'=>SliceOf w' 1 EBool r ((strsOf (d.msgs.take n)).map (·.2))∧Ext w0 w':=by
 obtain ⟨mv,rfl,hM⟩:=hd
 refine n25s (R:=retR _) ?_;unfold n25
 rw [op_boxA]
 have hBW:=ElemAt.new (w:=w0) (defCells d mv) (24)
 have eW:Ext w0 (w0.alloc (Obj.cells (List.toArray (defCells d mv)) (24))):=(Ext.refl _).alloc _
 generalize (w0.alloc (Obj.cells (List.toArray (defCells d mv)) (24)))=W at hBW eW ⊢
 refine loop2_intro (fun a b w'=>∃ k:Nat,b = .int .i64 k∧k≤n∧Ext W w'∧OwnB w' W.heap.size a ((strsOf (d.msgs.take k)).map (·.2))) (fun _ b _=>n - (intOf b).toNat) ⟨0,rfl,by omega,Ext.refl _,OwnE.nil _ _ _ _ _⟩ ?_
 rintro out _ w ⟨k,rfl,hk,e,hO⟩
 have E:=eW.trans e
 unfold n25c8
 by_cases hkn:k < n
 · have d1:decide ((k:Int) < (n:Int))=true:=by simp only [decide_eq_true_eq];omega
   obtain ⟨m,hm⟩:=getElem?_lt (l:=d.msgs) (k:=k) (by omega)
   have hM0:=hM
   obtain ⟨bm,om,cm,rfl,hlc,hcm,hlm,hkl,hel⟩:=open1 hM hm
   obtain ⟨csm,_,hAm,hEm⟩:=hel k m hm
   obtain ⟨fv,rfl,hF⟩:=hEm
   have hF0:=hF
   obtain ⟨Af,cf,rfl,hlf,hcf,hlmf,helf⟩:=SliceOf.open hF
   simp (disch:=try exact DI) only [↓PR,QR,Int.reduceBEq,Int.reduceBNe,Int.reduceLT,Int.reduceLE,Int.reduceGT,Int.reduceGE,Int.reduceNeg,d1]
   refine loop2_intro (fun a b w'=>∃ i:Nat,a = .bool ((m.fields.take i).all fun f=>!f.loose)∧b = .int .i64 i∧i≤m.fields.length∧Ext w w') (fun _ b _=>m.fields.length - (intOf b).toNat) ⟨0,by simp,rfl,by omega,Ext.refl _⟩ ?_
   rintro _ _ w2 ⟨i,rfl,rfl,hi,e2⟩
   have hcW:=hBW.c3 (e.trans e2)
   have hcm2:=hAm.c2 (E.trans e2)
   unfold n25c7
   rcases drop_cases hi with ⟨x,hx,hdr,hlt,hdec⟩ | ⟨hi,hdr,hdec⟩
   · have hall:((m.fields.take (i+1)).all fun f=>!f.loose)=(((m.fields.take i).all fun f=>!f.loose)&&!x.loose):=by rw [take_snoc hx,List.all_append];simp
     obtain ⟨bf,of,csf,rfl,_,hAf,hEf⟩:=helf i x hx
     obtain ⟨tf,cf',rfl,hTf,hCf,_,_⟩:=hEf.op
     have hcf:=hAf.c15 (E.trans e2)
     simp (disch:=try exact DI) only [↓PR,QR,Int.reduceBEq,Int.reduceBNe,Int.reduceLT,Int.reduceLE,Int.reduceGT,Int.reduceGE,Int.reduceNeg,hcW,hcm2,hdec]
     unfold n25c6
     cases hs:(m.fields.take i).all (fun f=>!f.loose) with
     | false =>
      rw [hs] at hall
      simp (disch:=try exact DI) only [↓PR,QR,Int.reduceBEq,Int.reduceBNe,Int.reduceLT,Int.reduceLE,Int.reduceGT,Int.reduceGE,Int.reduceNeg]
      exact ⟨⟨i+1,by rw [hall];rfl,rfl,hlt,e2⟩,meas_lt hlt⟩
     | true =>
      rw [hs] at hall
      simp (disch:=try exact DI) only [↓PR,QR,Int.reduceBEq,Int.reduceBNe,Int.reduceLT,Int.reduceLE,Int.reduceGT,Int.reduceGE,Int.reduceNeg,hcW,hcm2,hcf,n25c1]
      exact ⟨⟨i+1,by rw [hall];rfl,rfl,hlt,e2⟩,meas_lt hlt⟩
   · subst hi
     rw [List.take_length]
     simp (disch:=try exact DI) only [↓PR,QR,Int.reduceBEq,Int.reduceBNe,Int.reduceLT,Int.reduceLE,Int.reduceGT,Int.reduceGE,Int.reduceNeg,hcW,hcm2,hdec]
     unfold n25c5
     simp (disch:=try exact DI) only [↓PR,QR,Int.reduceBEq,Int.reduceBNe,Int.reduceLT,Int.reduceLE,Int.reduceGT,Int.reduceGE,Int.reduceNeg,hcW,hcm2]
     refine callK_ret (rRefers_ret _ _ m ⟨_,rfl,hF0.ext (E.trans e2)⟩ (hb m (List.mem_of_getElem? hm))) ?_
     rintro rv w3 ⟨hS,e3⟩
     have e23:=e2.trans e3
     have hSl:=hS.slice (E:=EStr) (fun _=>rfl) (fun _ _=>rfl)
     obtain ⟨Ar,cr,rfl,hlr,hcr,hlmr,helr⟩:=SliceOf.open hSl
     have hsM:strictM (strsOf (d.msgs.take k)) m=((m.fields.all fun f=>!f.loose)&&(refsL m).all fun s=>(lastP (strsOf (d.msgs.take k)) s).getD false):=rfl
     generalize hA:(m.fields.all fun f=>!f.loose)=A0 at hsM ⊢
     have hDk:DistM (d.msgs.take k):=by
      have:=List.Pairwise.sublist (List.take_sublist k (d.msgs.take n)) hN
      rwa [List.take_take,Nat.min_eq_left (by omega)] at this
     refine loop2_intro (fun a b w'=>∃ j:Nat,a = .bool (A0&&((refsL m).take j).all fun s=>(lastP (strsOf (d.msgs.take k)) s).getD false)∧b = .int .i64 j∧j≤(refsL m).length∧Ext w3 w') (fun _ b _=>(refsL m).length - (intOf b).toNat) ⟨0,by simp,rfl,by omega,Ext.refl _⟩ ?_
     rintro _ _ w4 ⟨j,rfl,rfl,hj,e4⟩
     have e24:=e23.trans e4
     unfold n25c4
     rcases drop_cases hj with ⟨s,hx,hdr,hlt,hdec⟩ | ⟨hj,hdr,hdec⟩
     · obtain ⟨bs,os,css,rfl,_,hAs,rfl⟩:=helr j s hx
       have hall:(A0&&((refsL m).take (j+1)).all fun s=>(lastP (strsOf (d.msgs.take k)) s).getD false)=((A0&&((refsL m).take j).all fun s=>(lastP (strsOf (d.msgs.take k)) s).getD false)&&(lastP (strsOf (d.msgs.take k)) s).getD false):=by rw [take_snoc hx,List.all_append];simp [Bool.and_assoc]
       simp (disch:=try exact DI) only [↓PR,QR,Int.reduceBEq,Int.reduceBNe,Int.reduceLT,Int.reduceLE,Int.reduceGT,Int.reduceGE,Int.reduceNeg,hdec]
       refine drawK_intro ?_
       unfold n25c2
       generalize (A0&&((refsL m).take j).all fun s=>(lastP (strsOf (d.msgs.take k)) s).getD false)=B at hall ⊢
       cases B with
       | false =>
        simp (disch:=try exact DI) only [↓PR,QR,Int.reduceBEq,Int.reduceBNe,Int.reduceLT,Int.reduceLE,Int.reduceGT,Int.reduceGE,Int.reduceNeg]
        exact ⟨⟨j+1,by rw [hall];rfl,rfl,hlt,e4.drew⟩,meas_lt hlt⟩
       | true =>
        simp (disch:=try exact DI) only [↓PR,QR,Int.reduceBEq,Int.reduceBNe,Int.reduceLT,Int.reduceLE,Int.reduceGT,Int.reduceGE,Int.reduceNeg,hBW.c3 (e.trans e24),hAs.c1 e4]
        refine zcr (rFind_ret _ _ d s k ⟨_,rfl,hM0.ext (E.trans e24).drew⟩ (by omega)) fun w5 e5=>?_
        refine ⟨e5,?_⟩
        have hex:=hR k m hkn hm s (List.mem_of_getElem? hx)
        rcases first_last (keysS (d.msgs.take k)) hDk s with ⟨h1,_⟩ | ⟨q,b,h1,h2,h3,h4⟩
        · have:=idx_neg (p:=fun m:MsgD=>decide (m.name=s)) (l:=d.msgs.take k)
          rw [hex,h1] at this
          exact absurd this (by decide)
        · rw [h1]
          have hO4:=(hO.ext e24).slice (E:=EBool) (fun _=>rfl) (fun _ _=>rfl)
          have hq:((strsOf (d.msgs.take k)).map (·.2))[q]?=some b:=by rw [List.getElem?_map,h3];rfl
          obtain ⟨bo,oo,co,rfl,_,_,_,hql,helo⟩:=open1 hO4 hq
          obtain ⟨cso,_,hAo,rfl⟩:=helo q b hq
          rw [h4] at hall
          simp (disch:=try exact DI) only [↓PR,QR,Int.reduceBEq,Int.reduceBNe,Int.reduceLT,Int.reduceLE,Int.reduceGT,Int.reduceGE,Int.reduceNeg,hAo.c1 (Ext.refl _)]
          exact ⟨⟨j+1,by rw [hall];rfl,rfl,hlt,e4.drew.trans e5⟩,meas_lt hlt⟩
     · subst hj
       rw [List.take_length,← hsM]
       simp (disch:=try exact DI) only [↓PR,QR,Int.reduceBEq,Int.reduceBNe,Int.reduceLT,Int.reduceLE,Int.reduceGT,Int.reduceGE,Int.reduceNeg,hdec]
       unfold n25c3
       simp (disch:=try exact DI) only [↓PR,QR,Int.reduceBEq,Int.reduceBNe,Int.reduceLT,Int.reduceLE,Int.reduceGT,Int.reduceGE,Int.reduceNeg]
       have sw:=e24.size
       have s0:=e.size
       have hlk:((strsOf (d.msgs.take k)).map (·.2)).length=k:=by
        have:=congrArg List.length (keysS (d.msgs.take k))
        simp only [List.length_map,List.length_take] at this ⊢
        omega
       refine append_one Tryz.underlying33 ty4 by4 rfl (by decide) (fun _=>rfl) (strictM (strsOf (d.msgs.take k)) m) (by simp only [boolEnc,List.forall_mem_cons];exact ⟨rfl,by simp⟩) (hO.ext (e24.alloc (Obj.cells #[.bool (strictM (strsOf (d.msgs.take k)) m)] 4))) (ElemAt.new _ _) (by simp only [World.size_alloc];omega) (by rw [hlk];omega) ?_
       intro v' w' hO' hext
       have eN:Ext W w':=hext W ((e.trans e24).alloc _) (Nat.le_refl _)
       simp (disch:=try exact DI) only [↓PR,QR,Int.reduceBEq,Int.reduceBNe,Int.reduceLT,Int.reduceLE,Int.reduceGT,Int.reduceGE,Int.reduceNeg]
       refine ⟨⟨k+1,rfl,by omega,eN,?_⟩,meas_lt hkn⟩
       rw [take_snoc hm,strs_snoc,List.map_append]
       exact hO'
 · have hke:k=n:=by omega
   subst hke
   have d1:decide ((k:Int) < (k:Int))=false:=by simp
   simp (disch:=try exact DI) only [↓PR,QR,Int.reduceBEq,Int.reduceBNe,Int.reduceLT,Int.reduceLE,Int.reduceGT,Int.reduceGE,Int.reduceNeg,d1]
   exact ⟨hO.slice (fun _=>rfl) (fun _ _=>rfl),E⟩
end Go.Proofs.YtiajhbbmgglmlaaGreat
namespace Go.Proofs.YtiajhbbmgglmlaaGreat
open Sw
def n29c1 (t8 t52 t56:Value) (K2:World→Prop) (R:RT) (w:World):Prop :=
 pickK t52 (.bool true) t56 fun t57 =>
 joinK (fun (t61:Value) (w:World) =>
 pickK t57 (.bool true) t61 fun t62 =>
 condP t62 (
 R (.returned (.int .i64 7)) w) (
 K2 w)) fun K5 =>
 guardP t57 false (
 F0 52 t8 6 R w fun t59 w =>
 L0 3 t59 R w fun t60 w =>
 B0 .gtr 3 true t60 (.int .i64 1048576) R w fun t61 w =>
 K5 t61 w) (
 K5 undef w)
def n29c2 (t8 t47 t51:Value) (K2:World→Prop) (R:RT) (w:World):Prop :=
 pickK t47 (.bool true) t51 fun t52 =>
 joinK (fun (t56:Value) (w:World) =>
 n29c1 t8 t52 t56 K2 R w) fun K4 =>
 guardP t52 false (
 F0 52 t8 6 R w fun t54 w =>
 L0 3 t54 R w fun t55 w =>
 B0 .lss 3 true t55 (.int .i64 0) R w fun t56 w =>
 K4 t56 w) (
 K4 undef w)
def n29c3 (t2 t7 t79:Value) (R:RT) (w:World):Prop :=
 B0 .lss 3 true t79 (.int .i64 0) R w fun t80 w =>
 condP t80 (
 R (.returned (.int .i64 8)) w) (
 L0 45 t7 R w fun t81 w =>
 C0 59 #[t81,t2] R w fun t83 w =>
 R (.returned t83) w)
def n29c4 (t1 t3 t8 t123:Value) (R:RT) (w:World):Prop :=
 opV Pg (Instr.extract t123 0) (panK R) w fun t124 w =>
 opV Pg (Instr.extract t123 1) (panK R) w fun t125 w =>
 L0 24 t3 R w fun t126 w =>
 L0 52 t8 R w fun t128 w =>
 C0 63 #[t126,t1,t128,t124,t125] R w fun t131 w =>
 R (.returned t131) w
def n29c5 (t1 t3 t7 t8 t98:Value) (R:RT) (w:World):Prop :=
 F0 45 t7 1 R w fun t118 w =>
 L0 43 t118 R w fun t119 w =>
 X0 43 t119 t98 R w fun t121 w =>
 L0 52 t121 R w fun t122 w =>
 C0 62 #[t122] R w fun t123 w =>
 n29c4 t1 t3 t8 t123 R w
def n29c6 (t1 t2 t3 t7 t8 t98 t100 t108:Value) (R:RT) (w:World):Prop :=
 pickK t100 (.bool true) t108 fun t109 =>
 joinK (fun (t115:Value) (w:World) =>
 pickK t109 (.bool true) t115 fun t116 =>
 condP t116 (
 R (.returned (.int .i64 8)) w) (
 n29c5 t1 t3 t7 t8 t98 R w)) fun K8 =>
 guardP t109 false (
 L0 45 t7 R w fun t111 w =>
 F0 52 t8 9 R w fun t112 w =>
 L0 9 t112 R w fun t113 w =>
 C0 61 #[t111,t113,t2] R w fun t115 w =>
 K8 t115 w) (
 K8 undef w)
def n29c7 (t1 t2 t3 t7 t8 t98:Value) (R:RT) (w:World):Prop :=
 B0 .lss 3 true t98 (.int .i64 0) R w fun t100 w =>
 joinK (fun (t108:Value) (w:World) =>
 n29c6 t1 t2 t3 t7 t8 t98 t100 t108 R w) fun K7 =>
 guardP t100 false (
 F0 45 t7 1 R w fun t102 w =>
 L0 43 t102 R w fun t103 w =>
 X0 43 t103 t98 R w fun t105 w =>
 L0 52 t105 R w fun t106 w =>
 C0 60 #[t106] R w fun t107 w =>
 opV Pg (Op.unary .not t107) (panK R) w fun t108 w =>
 K7 t108 w) (
 K7 undef w)
def n29c8 (t141 t151 t155:Value) (K2:World→Prop) (R:RT) (w:World):Prop :=
 joinK (fun (t156:Value) (w:World) =>
 pickK t141 t156 (.bool false) fun t157 =>
 condP t157 (
 R (.returned (.int .i64 6)) w) (
 K2 w)) fun K14 =>
 guardP t141 true (
 pickK t151 (.bool true) t155 fun t156 =>
 K14 t156 w) (
 K14 undef w)
def n29c9 (t8 t141 t151:Value) (K2:World→Prop) (R:RT) (w:World):Prop :=
 joinK (fun (t155:Value) (w:World) =>
 n29c8 t141 t151 t155 K2 R w) fun K13 =>
 guardP t151 false (
 F0 52 t8 2 R w fun t152 w =>
 L0 3 t152 R w fun t153 w =>
 B0 .rem 3 true t153 (.int .i64 8) R w fun t154 w =>
 B0 .neq 3 true t154 (.int .i64 0) R w fun t155 w =>
 K13 t155 w) (
 K13 undef w)
def n29c10 (t8 t141 t146:Value) (K2:World→Prop) (R:RT) (w:World):Prop :=
 joinK (fun (t149:Value) (w:World) =>
 joinK (fun (t151:Value) (w:World) =>
 n29c9 t8 t141 t151 K2 R w) fun K12 =>
 guardP t141 true (
 pickK t146 (.bool true) t149 fun t150 =>
 K12 t150 w) (
 K12 undef w)) fun K11 =>
 guardP t146 false (
 F0 52 t8 2 R w fun t147 w =>
 L0 3 t147 R w fun t148 w =>
 B0 .gtr 3 true t148 (.int .i64 512) R w fun t149 w =>
 K11 t149 w) (
 K11 undef w)
def n29c11 (t8 t136 t140:Value) (K2:World→Prop) (R:RT) (w:World):Prop :=
 pickK t136 t140 (.bool false) fun t141 =>
 joinK (fun (t146:Value) (w:World) =>
 n29c10 t8 t141 t146 K2 R w) fun K10 =>
 guardP t141 true (
 F0 52 t8 2 R w fun t143 w =>
 L0 3 t143 R w fun t144 w =>
 B0 .lss 3 true t144 (.int .i64 8) R w fun t145 w =>
 K10 t145 w) (
 K10 undef w)
def n29c12 (t2 t7 t8:Value) (K2:World→Prop) (R:RT) (w:World):Prop :=
 L0 45 t7 R w fun t168 w =>
 F0 52 t8 10 R w fun t169 w =>
 L0 9 t169 R w fun t170 w =>
 C0 42 #[t168,t170,t2] R w fun t172 w =>
 B0 .lss 3 true t172 (.int .i64 0) R w fun t173 w =>
 condP t173 (
 R (.returned (.int .i64 8)) w) (
 K2 w)
def n29c13 (t2 t7 t190 t198:Value) (R:RT) (w:World):Prop :=
 pickK t190 (.bool true) t198 fun t199 =>
 condP t199 (
 R (.returned (.int .i64 8)) w) (
 L0 45 t7 R w fun t200 w =>
 C0 59 #[t200,t2] R w fun t202 w =>
 R (.returned t202) w)
def n29c14 (t188 t194:Value) (K17:KV) (R:RT) (w:World):Prop :=
 X0 33 t194 t188 R w fun t196 w =>
 L0 4 t196 R w fun t197 w =>
 opV Pg (Op.unary .not t197) (panK R) w fun t198 w =>
 K17 t198 w
def n29c15 (t1 t2 t3 t7 t188:Value) (R:RT) (w:World):Prop :=
 B0 .lss 3 true t188 (.int .i64 0) R w fun t190 w =>
 joinK (fun (t198:Value) (w:World) =>
 n29c13 t2 t7 t190 t198 R w) fun K17 =>
 guardP t190 false (
 L0 24 t3 R w fun t192 w =>
 C0 11 #[t192,t1] R w fun t194 w =>
 n29c14 t188 t194 K17 R w) (
 K17 undef w)
def n29c16 (t1 t2 t3 t7 t8:Value) (R:RT) (w:World):Prop :=
 L0 24 t3 R w fun t184 w =>
 F0 52 t8 8 R w fun t185 w =>
 L0 9 t185 R w fun t186 w =>
 C0 26 #[t184,t186,t1] R w fun t188 w =>
 n29c15 t1 t2 t3 t7 t188 R w
def n29c17 (t1 t2 t3 t7 t8:Value) (R:RT) (w:World):Prop :=
 F0 52 t8 13 R w fun t176 w =>
 L0 3 t176 R w fun t177 w =>
 B0 .lss 3 true t177 (.int .i64 0) R w fun t178 w =>
 joinK (fun (t182:Value) (w:World) =>
 pickK t178 (.bool true) t182 fun t183 =>
 condP t183 (
 R (.returned (.int .i64 7)) w) (
 n29c16 t1 t2 t3 t7 t8 R w)) fun K16 =>
 guardP t178 false (
 F0 52 t8 13 R w fun t180 w =>
 L0 3 t180 R w fun t181 w =>
 B0 .gtr 3 true t181 (.int .i64 4294967295) R w fun t182 w =>
 K16 t182 w) (
 K16 undef w)
def n29c18 (t2 t7 t8:Value) (K2:World→Prop) (R:RT) (w:World):Prop :=
 F0 52 t8 12 R w fun t160 w =>
 L0 3 t160 R w fun t161 w =>
 B0 .lss 3 true t161 (.int .i64 1) R w fun t162 w =>
 joinK (fun (t166:Value) (w:World) =>
 pickK t162 (.bool true) t166 fun t167 =>
 condP t167 (
 R (.returned (.int .i64 7)) w) (
 n29c12 t2 t7 t8 K2 R w)) fun K15 =>
 guardP t162 false (
 F0 52 t8 12 R w fun t164 w =>
 L0 3 t164 R w fun t165 w =>
 B0 .gtr 3 true t165 (.int .i64 3) R w fun t166 w =>
 K15 t166 w) (
 K15 undef w)
def n29c19 (t8:Value) (K2:World→Prop) (R:RT) (w:World):Prop :=
 F0 52 t8 2 R w fun t134 w =>
 L0 3 t134 R w fun t135 w =>
 B0 .neq 3 true t135 (.int .i64 2) R w fun t136 w =>
 joinK (fun (t140:Value) (w:World) =>
 n29c11 t8 t136 t140 K2 R w) fun K9 =>
 guardP t136 true (
 F0 52 t8 2 R w fun t138 w =>
 L0 3 t138 R w fun t139 w =>
 B0 .neq 3 true t139 (.int .i64 4) R w fun t140 w =>
 K9 t140 w) (
 K9 undef w)
def n29c20 (t1 t2 t3 t7 t8 t24:Value) (K2:World→Prop) (R:RT) (w:World):Prop :=
 B0 .eql 3 true t24 (.int .i64 11) R w fun t159 w =>
 condP t159 (
 n29c18 t2 t7 t8 K2 R w) (
 B0 .eql 3 true t24 (.int .i64 12) R w fun t175 w =>
 condP t175 (
 n29c17 t1 t2 t3 t7 t8 R w) (
 K2 w))
def n29c21 (t1 t2 t3 t7 t8:Value) (R:RT) (w:World):Prop :=
 L0 45 t7 R w fun t94 w =>
 F0 52 t8 9 R w fun t95 w =>
 L0 9 t95 R w fun t96 w =>
 C0 42 #[t94,t96,t2] R w fun t98 w =>
 n29c7 t1 t2 t3 t7 t8 t98 R w
def n29c22 (t1 t3 t8:Value) (K2:World→Prop) (R:RT) (w:World):Prop :=
 L0 24 t3 R w fun t86 w =>
 F0 52 t8 8 R w fun t87 w =>
 L0 9 t87 R w fun t88 w =>
 C0 26 #[t86,t88,t1] R w fun t90 w =>
 B0 .lss 3 true t90 (.int .i64 0) R w fun t91 w =>
 condP t91 (
 R (.returned (.int .i64 8)) w) (
 K2 w)
def n29c23 (t1 t2 t3 t7 t8 t24:Value) (K2:World→Prop) (R:RT) (w:World):Prop :=
 B0 .eql 3 true t24 (.int .i64 9) R w fun t93 w =>
 condP t93 (
 n29c21 t1 t2 t3 t7 t8 R w) (
 B0 .eql 3 true t24 (.int .i64 10) R w fun t133 w =>
 condP t133 (
 n29c19 t8 K2 R w) (
 n29c20 t1 t2 t3 t7 t8 t24 K2 R w))
def n29c24 (t1 t2 t3 t7 t8:Value) (R:RT) (w:World):Prop :=
 L0 24 t3 R w fun t75 w =>
 F0 52 t8 8 R w fun t76 w =>
 L0 9 t76 R w fun t77 w =>
 C0 26 #[t75,t77,t1] R w fun t79 w =>
 n29c3 t2 t7 t79 R w
def n29c25 (t8:Value) (K2:World→Prop) (R:RT) (w:World):Prop :=
 F0 52 t8 6 R w fun t65 w =>
 L0 3 t65 R w fun t66 w =>
 B0 .lss 3 true t66 (.int .i64 2) R w fun t67 w =>
 joinK (fun (t71:Value) (w:World) =>
 pickK t67 (.bool true) t71 fun t72 =>
 condP t72 (
 R (.returned (.int .i64 7)) w) (
 K2 w)) fun K6 =>
 guardP t67 false (
 F0 52 t8 6 R w fun t69 w =>
 L0 3 t69 R w fun t70 w =>
 B0 .gtr 3 true t70 (.int .i64 1048576) R w fun t71 w =>
 K6 t71 w) (
 K6 undef w)
def n29c26 (t1 t2 t3 t7 t8 t24:Value) (K2:World→Prop) (R:RT) (w:World):Prop :=
 B0 .eql 3 true t24 (.int .i64 7) R w fun t74 w =>
 condP t74 (
 n29c24 t1 t2 t3 t7 t8 R w) (
 B0 .eql 3 true t24 (.int .i64 8) R w fun t85 w =>
 condP t85 (
 n29c22 t1 t3 t8 K2 R w) (
 n29c23 t1 t2 t3 t7 t8 t24 K2 R w))
def n29c27 (t8:Value) (K2:World→Prop) (R:RT) (w:World):Prop :=
 F0 52 t8 5 R w fun t45 w =>
 L0 3 t45 R w fun t46 w =>
 B0 .lss 3 true t46 (.int .i64 0) R w fun t47 w =>
 joinK (fun (t51:Value) (w:World) =>
 n29c2 t8 t47 t51 K2 R w) fun K3 =>
 guardP t47 false (
 F0 52 t8 5 R w fun t49 w =>
 L0 3 t49 R w fun t50 w =>
 B0 .gtr 3 true t50 (.int .i64 255) R w fun t51 w =>
 K3 t51 w) (
 K3 undef w)
def n29c28 (t1 t2 t3 t7 t8 t24:Value) (K2:World→Prop) (R:RT) (w:World):Prop :=
 B0 .eql 3 true t24 (.int .i64 5) R w fun t44 w =>
 condP t44 (
 n29c27 t8 K2 R w) (
 B0 .eql 3 true t24 (.int .i64 6) R w fun t64 w =>
 condP t64 (
 n29c25 t8 K2 R w) (
 n29c26 t1 t2 t3 t7 t8 t24 K2 R w))
def n29c29 (t8:Value) (K2:World→Prop) (R:RT) (w:World):Prop :=
 F0 52 t8 5 R w fun t32 w =>
 L0 3 t32 R w fun t33 w =>
 F0 52 t8 6 R w fun t34 w =>
 L0 3 t34 R w fun t35 w =>
 C0 58 #[t33,t35] R w fun t36 w =>
 opV Pg (Op.unary .not t36) (panK R) w fun t37 w =>
 condP t37 (
 R (.returned (.int .i64 7)) w) (
 K2 w)
def n29c30 (t1 t2 t3 t7 t8 t24:Value) (K2:World→Prop) (R:RT) (w:World):Prop :=
 B0 .eql 3 true t24 (.int .i64 4) R w fun t39 w =>
 condP t39 (
 L0 45 t7 R w fun t40 w =>
 C0 59 #[t40,t2] R w fun t42 w =>
 R (.returned t42) w) (
 n29c28 t1 t2 t3 t7 t8 t24 K2 R w)
def n29c31 (t1 t2 t3 t7 t8 t24:Value) (R:RT) (w:World):Prop :=
 B0 .eql 3 true t24 (.int .i64 3) R w fun t31 w =>
 joinK (fun (w:World) =>
 R (.returned (.int .i64 0)) w) fun K2 =>
 condP t31 (
 n29c29 t8 K2 R w) (
 n29c30 t1 t2 t3 t7 t8 t24 K2 R w)
def n29c32 (t1 t2 t3 t7 t8 t24 t25:Value) (R:RT) (w:World):Prop :=
 condP t25 (
 L0 52 t8 R w fun t28 w =>
 C0 57 #[t28] R w fun t29 w =>
 R (.returned t29) w) (
 n29c31 t1 t2 t3 t7 t8 t24 R w)
def n29 (t0 t1 t2:Value) (R:RT) (w:World):Prop :=
 opV Pg (Instr.box 24 t0) (panK R) w fun t3 w =>
 F0 24 t3 1 R w fun t13 w =>
 L0 22 t13 R w fun t14 w =>
 X0 22 t14 t1 R w fun t16 w =>
 L0 45 t16 R w fun t17 w =>
 opV Pg (Instr.alloc 45 true (.tuple #[])) (panK R) w fun t7 w =>
 opU Pg (Instr.storeAt 45 t7 t17) (panK R) w fun w =>
 F0 45 t7 1 R w fun t18 w =>
 L0 43 t18 R w fun t19 w =>
 X0 43 t19 t2 R w fun t21 w =>
 L0 52 t21 R w fun t22 w =>
 opV Pg (Instr.alloc 52 true (.tuple #[])) (panK R) w fun t8 w =>
 opU Pg (Instr.storeAt 52 t8 t22) (panK R) w fun w =>
 F0 52 t8 1 R w fun t23 w =>
 L0 46 t23 R w fun t24 w =>
 B0 .eql 3 true t24 (.int .i64 1) R w fun t26 w =>
 joinK (fun (t25:Value) (w:World) =>
 n29c32 t1 t2 t3 t7 t8 t24 t25 R w) fun K1 =>
 condP t26 (
 K1 t26 w) (
 B0 .eql 3 true t24 (.int .i64 2) R w fun t27 w =>
 K1 t27 w)
theorem n29s {t0 t1 t2:Value} {R:RT} {w:World} (h:n29 t0 t1 t2 R w):Calls Pg 44 #[t0,t1,t2] w R:=by
 refine calls_of_den (args:=[t0,t1,t2]) Tryz.func44 rfl (Nat.le_of_ble_eq_true rfl) ?_
 unfold n29 at h
 refine zs<|zr ?_
 refine zv h fun t3 w h=>?_
 refine zm<|zn<|zk<|zs<|zr ?_
 refine zv h fun t13 w h=>?_
 refine zv h fun t14 w h=>?_
 refine zm ?_
 refine zv h fun t16 w h=>?_
 refine zv h fun t17 w h=>?_
 refine zv h fun t7 w h=>?_
 refine zu h fun w h=>?_
 refine zn<|zk<|zs<|zr ?_
 refine zv h fun t18 w h=>?_
 refine zv h fun t19 w h=>?_
 refine zm ?_
 refine zv h fun t21 w h=>?_
 refine zv h fun t22 w h=>?_
 refine zv h fun t8 w h=>?_
 refine zu h fun w h=>?_
 refine zn<|zk<|zs<|zs<|zr ?_
 refine zv h fun t23 w h=>?_
 refine zv h fun t24 w h=>?_
 refine zn<|zk<|sim_block<|zs<|zs<|zr ?_
 refine zb h fun t26 w h=>?_
 refine zm<|zn<|zk ?_
 refine joinK_elim h (fun K1 hK h=>?_)
 refine sim_joinQ [25,27] (fun ρ w=>K1 (ρ 25) w) (fun _ hkK1=>?_) (fun σ w h=>?_)
 · refine sim_cond h rfl (fun h=>?_) (fun h=>?_)
   · refine sim_skip<|zk ?_
     exact zt hkK1 h
   · refine zr ?_
     refine zb h fun t27 w h=>?_
     refine zm<|zn<|zk ?_
     exact zt hkK1 h
 subst hK
 refine zk ?_
 refine sim_cond h rfl (fun h=>?_) (fun h=>?_)
 · refine zs<|zr ?_
   refine zv h fun t28 w h=>?_
   refine zc h c57 fun t29 w h=>?_
   refine zm<|zn<|zk<|sim_ret<|sim_block_ret<|sim_then_ret ?_
   exact body_ret1 rfl rfl h
 · refine zs<|zr ?_
   refine zb h fun t31 w h=>?_
   refine zm<|zn<|zk ?_
   refine joinK_elim h (fun K2 hK h=>?_)
   refine sim_joinQ [6,9,10,11,12,32,33,34,35,36,37,38,39,40,41,42,43,44,45,46,47,48,49,50,51,52,53,54,55,56,57,58,59,60,61,62,63,64,65,66,67,68,69,70,71,72,73,74,75,76,77,78,79,80,81,82,83,84,85,86,87,88,89,90,91,92,93,94,95,96,97,98,99,100,101,102,103,104,105,106,107,108,109,110,111,112,113,114,115,116,117,118,119,120,121,122,123,124,125,126,127,128,129,130,131,132,133,134,135,136,137,138,139,140,141,142,143,144,145,146,147,148,149,150,151,152,153,154,155,156,157,158,159,160,161,162,163,164,165,166,167,168,169,170,171,172,173,174,175,176,177,178,179,180,181,182,183,184,185,186,187,188,189,190,191,192,193,194,195,196,197,198,199,200,201,202] (fun ρ w=>K2 w) (fun _ hkK2=>?_) (fun σ w h=>?_)
   · refine sim_cond h rfl (fun h=>?_) (fun h=>?_)
     · refine zs<|zr ?_
       refine zv h fun t32 w h=>?_
       refine zv h fun t33 w h=>?_
       refine zv h fun t34 w h=>?_
       refine zv h fun t35 w h=>?_
       refine zc h c58 fun t36 w h=>?_
       refine zv h fun t37 w h=>?_
       refine zn<|zk ?_
       refine sim_cond h rfl (fun h=>?_) (fun h=>?_)
       · refine zs<|zr<|zm<|zn<|zk<|sim_ret<|sim_then_ret<|sim_block_ret<|sim_then_ret ?_
         exact body_ret1 rfl rfl h
       · refine sim_skip<|zk ?_
         exact zt hkK2 h
     · refine zs<|zr ?_
       refine zb h fun t39 w h=>?_
       refine zm<|zn<|zk ?_
       refine sim_cond h rfl (fun h=>?_) (fun h=>?_)
       · refine zs<|zr ?_
         refine zv h fun t40 w h=>?_
         refine zm ?_
         refine zc h c59 fun t42 w h=>?_
         refine zm<|zn<|zk<|sim_ret<|sim_then_ret<|sim_block_ret<|sim_then_ret ?_
         exact body_ret1 rfl rfl h
       · refine zs<|zr ?_
         refine zb h fun t44 w h=>?_
         refine zm<|zn<|zk ?_
         refine sim_cond h rfl (fun h=>?_) (fun h=>?_)
         · refine zs<|sim_regionG ?_
           refine sim_seg 4 rfl ?_
           refine zv h fun t45 w h=>?_
           refine zv h fun t46 w h=>?_
           refine zb h fun t47 w h=>?_
           refine zm<|zn ?_
           refine joinK_elim h (fun K3 hK h=>?_)
           refine sim_groupJ 3 3 false [49,50,51] (fun ρ w=>K3 (ρ 51) w) rfl rfl (fun T hT=>guardP_mono h (fun h=>?_) (fun h=>?_)) (fun σ w h=>?_)
           · refine zv h fun t49 w h=>?_
             refine zv h fun t50 w h=>?_
             refine zb h fun t51 w h=>?_
             refine zn ?_
             exact zt hT h
           · exact zt hT h
           subst hK
           refine sim_seg 2 rfl ?_
           refine sim_pick h rfl rfl rfl ?_;intro t52 h
           refine zm<|zn ?_
           refine joinK_elim h (fun K4 hK h=>?_)
           refine sim_groupJ 3 8 false [54,55,56] (fun ρ w=>K4 (ρ 56) w) rfl rfl (fun T hT=>guardP_mono h (fun h=>?_) (fun h=>?_)) (fun σ w h=>?_)
           · refine zv h fun t54 w h=>?_
             refine zv h fun t55 w h=>?_
             refine zb h fun t56 w h=>?_
             refine zn ?_
             exact zt hT h
           · exact zt hT h
           subst hK
           refine sim_seg 2 rfl ?_
           refine sim_pick h rfl rfl rfl ?_;intro t57 h
           refine zm<|zn ?_
           refine joinK_elim h (fun K5 hK h=>?_)
           refine sim_groupJ 3 13 false [59,60,61] (fun ρ w=>K5 (ρ 61) w) rfl rfl (fun T hT=>guardP_mono h (fun h=>?_) (fun h=>?_)) (fun σ w h=>?_)
           · refine zv h fun t59 w h=>?_
             refine zv h fun t60 w h=>?_
             refine zb h fun t61 w h=>?_
             refine zn ?_
             exact zt hT h
           · exact zt hT h
           subst hK
           refine sim_seg 1 rfl ?_
           refine sim_pick h rfl rfl rfl ?_;intro t62 h
           refine zn<|sim_end<|zk ?_
           refine sim_cond h rfl (fun h=>?_) (fun h=>?_)
           · refine zs<|zr<|zm<|zn<|zk<|sim_ret<|sim_then_ret<|sim_block_ret<|sim_then_ret ?_
             exact body_ret1 rfl rfl h
           · refine sim_skip<|zk ?_
             exact zt hkK2 h
         · refine zs<|zr ?_
           refine zb h fun t64 w h=>?_
           refine zm<|zn<|zk ?_
           refine sim_cond h rfl (fun h=>?_) (fun h=>?_)
           · refine zs<|sim_regionG ?_
             refine sim_seg 4 rfl ?_
             refine zv h fun t65 w h=>?_
             refine zv h fun t66 w h=>?_
             refine zb h fun t67 w h=>?_
             refine zm<|zn ?_
             refine joinK_elim h (fun K6 hK h=>?_)
             refine sim_groupJ 3 3 false [69,70,71] (fun ρ w=>K6 (ρ 71) w) rfl rfl (fun T hT=>guardP_mono h (fun h=>?_) (fun h=>?_)) (fun σ w h=>?_)
             · refine zv h fun t69 w h=>?_
               refine zv h fun t70 w h=>?_
               refine zb h fun t71 w h=>?_
               refine zn ?_
               exact zt hT h
             · exact zt hT h
             subst hK
             refine sim_seg 1 rfl ?_
             refine sim_pick h rfl rfl rfl ?_;intro t72 h
             refine zn<|sim_end<|zk ?_
             refine sim_cond h rfl (fun h=>?_) (fun h=>?_)
             · refine zs<|zr<|zm<|zn<|zk<|sim_ret<|sim_then_ret<|sim_block_ret<|sim_then_ret ?_
               exact body_ret1 rfl rfl h
             · refine sim_skip<|zk ?_
               exact zt hkK2 h
           · refine zs<|zr ?_
             refine zb h fun t74 w h=>?_
             refine zm<|zn<|zk ?_
             refine sim_cond h rfl (fun h=>?_) (fun h=>?_)
             · refine zs<|zs<|zr ?_
               refine zv h fun t75 w h=>?_
               refine zv h fun t76 w h=>?_
               refine zv h fun t77 w h=>?_
               refine zm ?_
               refine zc h c26 fun t79 w h=>?_
               refine zb h fun t80 w h=>?_
               refine zn<|zk ?_
               refine sim_cond h rfl (fun h=>?_) (fun h=>?_)
               · refine zs<|zr<|zm<|zn<|zk<|sim_ret<|sim_then_ret<|sim_then_ret<|sim_block_ret<|sim_then_ret ?_
                 exact body_ret1 rfl rfl h
               · refine sim_skip<|zk<|zs<|zr ?_
                 refine zv h fun t81 w h=>?_
                 refine zm ?_
                 refine zc h c59 fun t83 w h=>?_
                 refine zm<|zn<|zk<|sim_ret<|sim_then_ret<|sim_block_ret<|sim_then_ret ?_
                 exact body_ret1 rfl rfl h
             · refine zs<|zr ?_
               refine zb h fun t85 w h=>?_
               refine zm<|zn<|zk ?_
               refine sim_cond h rfl (fun h=>?_) (fun h=>?_)
               · refine zs<|zr ?_
                 refine zv h fun t86 w h=>?_
                 refine zv h fun t87 w h=>?_
                 refine zv h fun t88 w h=>?_
                 refine zm ?_
                 refine zc h c26 fun t90 w h=>?_
                 refine zb h fun t91 w h=>?_
                 refine zn<|zk ?_
                 refine sim_cond h rfl (fun h=>?_) (fun h=>?_)
                 · refine zs<|zr<|zm<|zn<|zk<|sim_ret<|sim_then_ret<|sim_block_ret<|sim_then_ret ?_
                   exact body_ret1 rfl rfl h
                 · refine sim_skip<|zk ?_
                   exact zt hkK2 h
               · refine zs<|zr ?_
                 refine zb h fun t93 w h=>?_
                 refine zm<|zn<|zk ?_
                 refine sim_cond h rfl (fun h=>?_) (fun h=>?_)
                 · refine zs<|zr ?_
                   refine zv h fun t94 w h=>?_
                   refine zv h fun t95 w h=>?_
                   refine zv h fun t96 w h=>?_
                   refine zm ?_
                   refine zc h c42 fun t98 w h=>?_
                   refine zm<|zn<|zk<|zs<|zs<|sim_regionG ?_
                   refine sim_seg 3 rfl ?_
                   refine zm ?_
                   refine zb h fun t100 w h=>?_
                   refine zm<|zn ?_
                   refine joinK_elim h (fun K7 hK h=>?_)
                   refine sim_groupJ 7 2 false [102,103,104,105,106,107,108] (fun ρ w=>K7 (ρ 108) w) rfl rfl (fun T hT=>guardP_mono h (fun h=>?_) (fun h=>?_)) (fun σ w h=>?_)
                   · refine zv h fun t102 w h=>?_
                     refine zv h fun t103 w h=>?_
                     refine zm ?_
                     refine zv h fun t105 w h=>?_
                     refine zv h fun t106 w h=>?_
                     refine zc h c60 fun t107 w h=>?_
                     refine zv h fun t108 w h=>?_
                     refine zn ?_
                     exact zt hT h
                   · exact zt hT h
                   subst hK
                   refine sim_seg 2 rfl ?_
                   refine sim_pick h rfl rfl rfl ?_;intro t109 h
                   refine zm<|zn ?_
                   refine joinK_elim h (fun K8 hK h=>?_)
                   refine sim_groupJ 5 11 false [111,112,113,114,115] (fun ρ w=>K8 (ρ 115) w) rfl rfl (fun T hT=>guardP_mono h (fun h=>?_) (fun h=>?_)) (fun σ w h=>?_)
                   · refine zv h fun t111 w h=>?_
                     refine zv h fun t112 w h=>?_
                     refine zv h fun t113 w h=>?_
                     refine zm ?_
                     refine zc h c61 fun t115 w h=>?_
                     refine zn ?_
                     exact zt hT h
                   · exact zt hT h
                   subst hK
                   refine sim_seg 1 rfl ?_
                   refine sim_pick h rfl rfl rfl ?_;intro t116 h
                   refine zn<|sim_end<|zk ?_
                   refine sim_cond h rfl (fun h=>?_) (fun h=>?_)
                   · refine zs<|zr<|zm<|zn<|zk<|sim_ret<|sim_then_ret<|sim_then_ret<|sim_block_ret<|sim_then_ret ?_
                     exact body_ret1 rfl rfl h
                   · refine sim_skip<|zk<|zs<|zr ?_
                     refine zv h fun t118 w h=>?_
                     refine zv h fun t119 w h=>?_
                     refine zm ?_
                     refine zv h fun t121 w h=>?_
                     refine zv h fun t122 w h=>?_
                     refine zc h c62 fun t123 w h=>?_
                     refine zm ?_
                     refine zv h fun t124 w h=>?_
                     refine zv h fun t125 w h=>?_
                     refine zm<|zm<|zn<|zk<|zs<|zr ?_
                     refine zv h fun t126 w h=>?_
                     refine zm ?_
                     refine zv h fun t128 w h=>?_
                     refine zm<|zm ?_
                     refine zc h c63 fun t131 w h=>?_
                     refine zm<|zn<|zk<|sim_ret<|sim_then_ret<|sim_block_ret<|sim_then_ret ?_
                     exact body_ret1 rfl rfl h
                 · refine zs<|zr ?_
                   refine zb h fun t133 w h=>?_
                   refine zm<|zn<|zk ?_
                   refine sim_cond h rfl (fun h=>?_) (fun h=>?_)
                   · refine zs<|sim_regionG ?_
                     refine sim_seg 4 rfl ?_
                     refine zv h fun t134 w h=>?_
                     refine zv h fun t135 w h=>?_
                     refine zb h fun t136 w h=>?_
                     refine zm<|zn ?_
                     refine joinK_elim h (fun K9 hK h=>?_)
                     refine sim_groupJ 3 3 true [138,139,140] (fun ρ w=>K9 (ρ 140) w) rfl rfl (fun T hT=>guardP_mono h (fun h=>?_) (fun h=>?_)) (fun σ w h=>?_)
                     · refine zv h fun t138 w h=>?_
                       refine zv h fun t139 w h=>?_
                       refine zb h fun t140 w h=>?_
                       refine zn ?_
                       exact zt hT h
                     · exact zt hT h
                     subst hK
                     refine sim_seg 2 rfl ?_
                     refine sim_pick h rfl rfl rfl ?_;intro t141 h
                     refine zm<|zn ?_
                     refine joinK_elim h (fun K10 hK h=>?_)
                     refine sim_groupJ 4 8 true [143,144,145,146] (fun ρ w=>K10 (ρ 146) w) rfl rfl (fun T hT=>guardP_mono h (fun h=>?_) (fun h=>?_)) (fun σ w h=>?_)
                     · refine zv h fun t143 w h=>?_
                       refine zv h fun t144 w h=>?_
                       refine zb h fun t145 w h=>?_
                       refine zm<|zn ?_
                       exact zt hT h
                     · exact zt hT h
                     subst hK
                     refine joinK_elim h (fun K11 hK h=>?_)
                     refine sim_groupJ 3 12 false [147,148,149] (fun ρ w=>K11 (ρ 149) w) rfl rfl (fun T hT=>guardP_mono h (fun h=>?_) (fun h=>?_)) (fun σ w h=>?_)
                     · refine zv h fun t147 w h=>?_
                       refine zv h fun t148 w h=>?_
                       refine zb h fun t149 w h=>?_
                       refine zn ?_
                       exact zt hT h
                     · exact zt hT h
                     subst hK
                     refine joinK_elim h (fun K12 hK h=>?_)
                     refine sim_groupJ 2 8 true [150,151] (fun ρ w=>K12 (ρ 151) w) rfl rfl (fun T hT=>guardP_mono h (fun h=>?_) (fun h=>?_)) (fun σ w h=>?_)
                     · refine sim_pick h rfl rfl rfl ?_;intro t150 h
                       refine zm<|zn ?_
                       exact zt hT h
                     · exact zt hT h
                     subst hK
                     refine joinK_elim h (fun K13 hK h=>?_)
                     refine sim_groupJ 4 17 false [152,153,154,155] (fun ρ w=>K13 (ρ 155) w) rfl rfl (fun T hT=>guardP_mono h (fun h=>?_) (fun h=>?_)) (fun σ w h=>?_)
                     · refine zv h fun t152 w h=>?_
                       refine zv h fun t153 w h=>?_
                       refine zb h fun t154 w h=>?_
                       refine zb h fun t155 w h=>?_
                       refine zn ?_
                       exact zt hT h
                     · exact zt hT h
                     subst hK
                     refine joinK_elim h (fun K14 hK h=>?_)
                     refine sim_groupJ 1 8 true [156] (fun ρ w=>K14 (ρ 156) w) rfl rfl (fun T hT=>guardP_mono h (fun h=>?_) (fun h=>?_)) (fun σ w h=>?_)
                     · refine sim_pick h rfl rfl rfl ?_;intro t156 h
                       refine zn ?_
                       exact zt hT h
                     · exact zt hT h
                     subst hK
                     refine sim_seg 1 rfl ?_
                     refine sim_pick h rfl rfl rfl ?_;intro t157 h
                     refine zn<|sim_end<|zk ?_
                     refine sim_cond h rfl (fun h=>?_) (fun h=>?_)
                     · refine zs<|zr<|zm<|zn<|zk<|sim_ret<|sim_then_ret<|sim_block_ret<|sim_then_ret ?_
                       exact body_ret1 rfl rfl h
                     · refine sim_skip<|zk ?_
                       exact zt hkK2 h
                   · refine zs<|zr ?_
                     refine zb h fun t159 w h=>?_
                     refine zm<|zn<|zk ?_
                     refine sim_cond h rfl (fun h=>?_) (fun h=>?_)
                     · refine zs<|zs<|sim_regionG ?_
                       refine sim_seg 4 rfl ?_
                       refine zv h fun t160 w h=>?_
                       refine zv h fun t161 w h=>?_
                       refine zb h fun t162 w h=>?_
                       refine zm<|zn ?_
                       refine joinK_elim h (fun K15 hK h=>?_)
                       refine sim_groupJ 3 3 false [164,165,166] (fun ρ w=>K15 (ρ 166) w) rfl rfl (fun T hT=>guardP_mono h (fun h=>?_) (fun h=>?_)) (fun σ w h=>?_)
                       · refine zv h fun t164 w h=>?_
                         refine zv h fun t165 w h=>?_
                         refine zb h fun t166 w h=>?_
                         refine zn ?_
                         exact zt hT h
                       · exact zt hT h
                       subst hK
                       refine sim_seg 1 rfl ?_
                       refine sim_pick h rfl rfl rfl ?_;intro t167 h
                       refine zn<|sim_end<|zk ?_
                       refine sim_cond h rfl (fun h=>?_) (fun h=>?_)
                       · refine zs<|zr<|zm<|zn<|zk<|sim_ret<|sim_then_ret<|sim_then_ret<|sim_block_ret<|sim_then_ret ?_
                         exact body_ret1 rfl rfl h
                       · refine sim_skip<|zk<|zs<|zr ?_
                         refine zv h fun t168 w h=>?_
                         refine zv h fun t169 w h=>?_
                         refine zv h fun t170 w h=>?_
                         refine zm ?_
                         refine zc h c42 fun t172 w h=>?_
                         refine zb h fun t173 w h=>?_
                         refine zn<|zk ?_
                         refine sim_cond h rfl (fun h=>?_) (fun h=>?_)
                         · refine zs<|zr<|zm<|zn<|zk<|sim_ret<|sim_then_ret<|sim_block_ret<|sim_then_ret ?_
                           exact body_ret1 rfl rfl h
                         · refine sim_skip<|zk ?_
                           exact zt hkK2 h
                     · refine zs<|zr ?_
                       refine zb h fun t175 w h=>?_
                       refine zm<|zn<|zk ?_
                       refine sim_cond h rfl (fun h=>?_) (fun h=>?_)
                       · refine zs<|zs<|sim_regionG ?_
                         refine sim_seg 4 rfl ?_
                         refine zv h fun t176 w h=>?_
                         refine zv h fun t177 w h=>?_
                         refine zb h fun t178 w h=>?_
                         refine zm<|zn ?_
                         refine joinK_elim h (fun K16 hK h=>?_)
                         refine sim_groupJ 3 3 false [180,181,182] (fun ρ w=>K16 (ρ 182) w) rfl rfl (fun T hT=>guardP_mono h (fun h=>?_) (fun h=>?_)) (fun σ w h=>?_)
                         · refine zv h fun t180 w h=>?_
                           refine zv h fun t181 w h=>?_
                           refine zb h fun t182 w h=>?_
                           refine zn ?_
                           exact zt hT h
                         · exact zt hT h
                         subst hK
                         refine sim_seg 1 rfl ?_
                         refine sim_pick h rfl rfl rfl ?_;intro t183 h
                         refine zn<|sim_end<|zk ?_
                         refine sim_cond h rfl (fun h=>?_) (fun h=>?_)
                         · refine zs<|zr<|zm<|zn<|zk<|sim_ret<|sim_then_ret<|sim_then_ret<|sim_block_ret<|sim_then_ret ?_
                           exact body_ret1 rfl rfl h
                         · refine sim_skip<|zk<|zs<|zr ?_
                           refine zv h fun t184 w h=>?_
                           refine zv h fun t185 w h=>?_
                           refine zv h fun t186 w h=>?_
                           refine zm ?_
                           refine zc h c26 fun t188 w h=>?_
                           refine zm<|zn<|zk<|zs<|zs<|sim_regionG ?_
                           refine sim_seg 3 rfl ?_
                           refine zm ?_
                           refine zb h fun t190 w h=>?_
                           refine zm<|zn ?_
                           refine joinK_elim h (fun K17 hK h=>?_)
                           refine sim_groupJ 7 2 false [192,193,194,195,196,197,198] (fun ρ w=>K17 (ρ 198) w) rfl rfl (fun T hT=>guardP_mono h (fun h=>?_) (fun h=>?_)) (fun σ w h=>?_)
                           · refine zv h fun t192 w h=>?_
                             refine zm ?_
                             refine zc h c11 fun t194 w h=>?_
                             refine zm ?_
                             refine zv h fun t196 w h=>?_
                             refine zv h fun t197 w h=>?_
                             refine zv h fun t198 w h=>?_
                             refine zn ?_
                             exact zt hT h
                           · exact zt hT h
                           subst hK
                           refine sim_seg 1 rfl ?_
                           refine sim_pick h rfl rfl rfl ?_;intro t199 h
                           refine zn<|sim_end<|zk ?_
                           refine sim_cond h rfl (fun h=>?_) (fun h=>?_)
                           · refine zs<|zr<|zm<|zn<|zk<|sim_ret<|sim_then_ret<|sim_then_ret<|sim_block_ret<|sim_then_ret ?_
                             exact body_ret1 rfl rfl h
                           · refine sim_skip<|zk<|zs<|zr ?_
                             refine zv h fun t200 w h=>?_
                             refine zm ?_
                             refine zc h c59 fun t202 w h=>?_
                             refine zm<|zn<|zk<|sim_ret<|sim_then_ret<|sim_block_ret<|sim_then_ret ?_
                             exact body_ret1 rfl rfl h
                       · refine sim_skip<|zk ?_
                         exact zt hkK2 h
   subst hK
   refine sim_block_normal<|zk<|zs<|zr<|zm<|zn<|zk<|sim_ret ?_
   exact body_ret1 rfl rfl h
end Go.Proofs.YtiajhbbmgglmlaaGreat
namespace Go.Proofs.YtiajhbbmgglmlaaGreat
open Sw
open Go.RowKit (intOf Below)
theorem anyD (l:List MsgD) (hd:DistM l) (s:ByteArray):(lastP (depsOf l) s).isSome=l.any fun m=>decide (m.name=s):=by
 rcases first_last (keysD l) hd s with ⟨h1,h2⟩ | ⟨k,b,h1,_,_,h2⟩
 · rw [h2,← idx_neg,h1];rfl
 · rw [h2,← idx_neg,h1];simp
theorem wide_within {lo hi:Int}:withinC 34359738367 0 [lo,hi]=if wideB lo hi then 0 else 7:=by
 rw [within2]
 unfold wideB
 by_cases h1:0≤lo<;>by_cases h2:lo≤hi<;>by_cases h3:hi < 34359738368<;>simp [*]<;>omega
theorem within1 {hi n a:Int}:withinC hi n [a]=if a < n∨hi < a then 7 else 0:=by
 by_cases h1:a < n<;>by_cases h2:hi < a<;>simp [withinC,needC,orC, *]<;>omega
theorem rkinds_ret (w0:World) (v:Value) (d:DefD) (n i:Nat) (m:MsgD) (f:FieldD) (hd:DefVal w0 v d) (hm:d.msgs[n]?=some m) (hi:m.fields[i]?=some f) (hN:DistM (d.msgs.take n)) (hR:RefsIn d.msgs n) (hD:Dist (m.fields.take i)) (hb:calm d) (hn1:n≤1048576)
 (hg:∀ g∈m.fields.take i,numberB g=true → -4611686018427387904≤g.low∧highOf g≤4611686018427387904) (hk:1≤f.kind∧f.kind≤12) :
 Ret Pg 44 #[v,.int .i64 (n:Int),.int .i64 (i:Int)] w0 fun r w'=>r = .int .i64 (checkC (m.fields.take i) (vI (depsOf (d.msgs.take n))) (vB (strsOf (d.msgs.take n))) f)∧Ext w0 w':=by
 obtain ⟨mv,rfl,hM⟩:=hd
 have hM0:=hM
 have hmem:=List.mem_of_getElem? hm
 have hfm:=List.mem_of_getElem? hi
 have hft:=(hb m hmem).2 f hfm
 refine n29s (R:=retR _) ?_;unfold n29
 rw [op_boxA]
 have hBW:=ElemAt.new (w:=w0) (defCells d mv) (24)
 have eW:Ext w0 (w0.alloc (Obj.cells (List.toArray (defCells d mv)) (24))):=(Ext.refl _).alloc _
 generalize (w0.alloc (Obj.cells (List.toArray (defCells d mv)) (24)))=W at hBW eW ⊢
 obtain ⟨bm,om,cm,rfl,_,_,_,hnl,hel⟩:=open1 hM hm
 obtain ⟨csm,_,hAm,hEm⟩:=hel n m hm
 obtain ⟨fv,rfl,hF⟩:=hEm
 have hF0:=hF
 have hf1:=SliceOf.oneCell hF
 simp (disch:=try exact DI) only [↓PR,QR,Int.reduceBEq,Int.reduceBNe,Int.reduceLT,Int.reduceLE,Int.reduceGT,Int.reduceGE,Int.reduceNeg,hBW.c3 (Ext.refl W),hAm.c2 eW]
 have hBX:=ElemAt.new (w:=W) (msgCells m fv) (45)
 have eX:Ext W (W.alloc (Obj.cells (List.toArray (msgCells m fv)) (45))):=(Ext.refl _).alloc _
 generalize (W.alloc (Obj.cells (List.toArray (msgCells m fv)) (45)))=X at hBX eX ⊢
 obtain ⟨bf,of,cf,rfl,_,_,_,hil,helf⟩:=open1 hF hi
 obtain ⟨csf,_,hAf,hEf⟩:=helf i f hi
 obtain ⟨tv,cv,rfl,hT,hC,ht1,hc1⟩:=hEf.op
 simp (disch:=try exact DI) only [↓PR,QR,Int.reduceBEq,Int.reduceBNe,Int.reduceLT,Int.reduceLE,Int.reduceGT,Int.reduceGE,Int.reduceNeg,hBX.c2 (Ext.refl X),hAf.c15 (eW.trans eX)]
 have hBY:=ElemAt.new (w:=X) (fieldCells f tv cv) (52)
 have eY:Ext X (X.alloc (Obj.cells (List.toArray (fieldCells f tv cv)) (52))):=(Ext.refl _).alloc _
 generalize (X.alloc (Obj.cells (List.toArray (fieldCells f tv cv)) (52)))=Y at hBY eY ⊢
 have hcY:=hBY.c15 (Ext.refl Y)
 have EY:Ext w0 Y:=eW.trans (eX.trans eY)
 have this:f.kind=1∨f.kind=2∨f.kind=3∨f.kind=4∨f.kind=5∨f.kind=6∨f.kind=7∨f.kind=8∨f.kind=9∨f.kind=10∨f.kind=11∨f.kind=12:=by omega
 have hdv:∀ w,Ext Y w→DefVal w (.agg (defCells d (.slice (some ⟨bm,om,none⟩) d.msgs.length cm)).toArray) d:=fun w e=>⟨_,rfl,hM0.ext (EY.trans e)⟩
 have hmv:∀ w,Ext Y w→MsgVal w (.agg (msgCells m (.slice (some ⟨bf,of,none⟩) m.fields.length cf)).toArray) m:=fun w e=>⟨_,rfl,hF0.ext (EY.trans e)⟩
 have hfv:∀ w,Ext Y w→FieldVal w (.agg (fieldCells f tv cv).toArray) f:=fun w e=>⟨_,_,rfl,hT.ext (EY.trans e),hC.ext (EY.trans e)⟩
 generalize hDD:vI (depsOf (d.msgs.take n))=D
 generalize hSS:vB (strsOf (d.msgs.take n))=S
 rcases this with hk | hk | hk | hk | hk | hk | hk | hk | hk | hk | hk | hk
 all_goals rw [show fieldCells f tv cv=[.string f.name,.int .i64 f.kind,.int .i64 f.bits,.bool f.little,.bool f.loose,.int .i64 f.low,.int .i64 f.high,.int .i64 f.base,tv,.string f.of,.string f.tag,.string f.fr,cv,.int .i64 f.check,.int .i64 f.key] from rfl,hk] at hfv
 all_goals simp (disch:=try exact DI) only [↓PR,QR,Int.reduceBEq,Int.reduceBNe,Int.reduceLT,Int.reduceLE,Int.reduceGT,Int.reduceGE,Int.reduceNeg,hcY,hBX.c2 eY,hBW.c3 (eX.trans eY),hk,↓n29c1,↓n29c2,↓n29c3,↓n29c4,↓n29c5,↓n29c6,↓n29c7,↓n29c8,↓n29c9,↓n29c10,↓n29c11,↓n29c12,↓n29c13,↓n29c14,↓n29c15,↓n29c16,↓n29c17,↓n29c18,↓n29c19,↓n29c20,↓n29c21,↓n29c22,↓n29c23,↓n29c24,↓n29c25,↓n29c26,↓n29c27,↓n29c28,↓n29c29,↓n29c30,↓n29c31,↓n29c32]
 · have hcc:checkC (m.fields.take i) D S f=numC f:=by rw [numC_one hk];unfold checkC;rw [hk];rfl
   refine zcr (rnumber_ret _ _ f (hfv _ (Ext.refl Y))) fun w1 e1=>?_
   exact ⟨_,rfl,by rw [hcc],EY.trans e1⟩
 · have hcc:checkC (m.fields.take i) D S f=numC f:=by rw [numC_two hk];unfold checkC;rw [hk];rfl
   refine zcr (rnumber_ret _ _ f (hfv _ (Ext.refl Y))) fun w1 e1=>?_
   exact ⟨_,rfl,by rw [hcc],EY.trans e1⟩
 · have hcc:checkC (m.fields.take i) D S f=if wideB f.low f.high then 0 else 7:=by rw [← wide_within];unfold checkC;rw [hk];rfl
   refine zcr (rwide_ret _ _ _) fun w1 e1=>?_
   cases hw:wideB f.low f.high<;>rw [hw] at hcc<;>simp (disch:=try exact DI) only [↓PR,QR,Int.reduceBEq,Int.reduceBNe,Int.reduceLT,Int.reduceLE,Int.reduceGT,Int.reduceGE,Int.reduceNeg]<;>exact ⟨by rw [hcc];rfl,EY.trans e1⟩
 · have hcc:checkC (m.fields.take i) D S f=sizedC (numR (m.fields.take i)) f:=by unfold checkC;rw [hk];rfl
   refine zcr (rsized_ret _ _ m i f (hmv _ (Ext.refl Y)) hi hD hft) fun w1 e1=>?_
   exact ⟨_,rfl,by rw [hcc],EY.trans e1⟩
 · have hcc:checkC (m.fields.take i) D S f=if (decide (f.low < 0)||decide (255 < f.low)||decide (f.high < 0)||decide (1048576 < f.high)) then 7 else 0:=by
    rw [show checkC (m.fields.take i) D S f=orC (withinC 255 0 [f.low]) (withinC 1048576 0 [f.high]) by unfold checkC;rw [hk];rfl,within1,within1]
    by_cases h1:f.low < 0<;>by_cases h2:255 < f.low<;>by_cases h3:f.high < 0<;>by_cases h4:1048576 < f.high<;>simp [orC, *]
   refine cond_cases (fun h=>⟨_,rfl,by rw [hcc,if_pos h],EY⟩) (fun h=>⟨_,rfl,by rw [hcc,if_neg (by rw [h];decide)],EY⟩)
 · have hcc:checkC (m.fields.take i) D S f=if (decide (f.high < 2)||decide (1048576 < f.high)) then 7 else 0:=by
    rw [show checkC (m.fields.take i) D S f=withinC 1048576 2 [f.high] by unfold checkC;rw [hk];rfl,within1]
    by_cases h3:f.high < 2<;>by_cases h4:1048576 < f.high<;>simp [orC, *]
   refine cond_cases (fun h=>⟨_,rfl,by rw [hcc,if_pos h],EY⟩) (fun h=>⟨_,rfl,by rw [hcc,if_neg (by rw [h];decide)],EY⟩)
 · have hcc:checkC (m.fields.take i) D S f=orC (needC (lastOf (vI (depsOf (d.msgs.take n))) f.of).isSome 8) (sizedC (numR (m.fields.take i)) f):=by rw [← hDD];unfold checkC;rw [hk];rfl
   refine zcr (rFind_ret _ _ d f.of n (hdv _ (Ext.refl Y)) (Nat.le_of_lt hnl)) fun w1 e1=>?_
   have hdi:=idx_some (p:=fun m:MsgD=>decide (m.name=f.of)) (l:=d.msgs.take n)
   rw [lastOf_vI,Option.isSome_map,anyD _ hN] at hcc
   cases hs:(d.msgs.take n).any (fun m=>decide (m.name=f.of)) with
   | false =>
    rw [hs] at hdi hcc
    simp (disch:=try exact DI) only [↓PR,QR,Int.reduceBEq,Int.reduceBNe,Int.reduceLT,Int.reduceLE,Int.reduceGT,Int.reduceGE,Int.reduceNeg,hdi,↓n29c1,↓n29c2,↓n29c3,↓n29c4,↓n29c5,↓n29c6,↓n29c7,↓n29c8,↓n29c9,↓n29c10,↓n29c11,↓n29c12,↓n29c13,↓n29c14,↓n29c15,↓n29c16,↓n29c17,↓n29c18,↓n29c19,↓n29c20,↓n29c21,↓n29c22,↓n29c23,↓n29c24,↓n29c25,↓n29c26,↓n29c27,↓n29c28,↓n29c29,↓n29c30,↓n29c31,↓n29c32]
    exact ⟨by rw [hcc];rfl,EY.trans e1⟩
   | true =>
    rw [hs] at hdi hcc
    simp (disch:=try exact DI) only [↓PR,QR,Int.reduceBEq,Int.reduceBNe,Int.reduceLT,Int.reduceLE,Int.reduceGT,Int.reduceGE,Int.reduceNeg,hdi,hBX.c2 (eY.trans e1),↓n29c1,↓n29c2,↓n29c3,↓n29c4,↓n29c5,↓n29c6,↓n29c7,↓n29c8,↓n29c9,↓n29c10,↓n29c11,↓n29c12,↓n29c13,↓n29c14,↓n29c15,↓n29c16,↓n29c17,↓n29c18,↓n29c19,↓n29c20,↓n29c21,↓n29c22,↓n29c23,↓n29c24,↓n29c25,↓n29c26,↓n29c27,↓n29c28,↓n29c29,↓n29c30,↓n29c31,↓n29c32]
    refine zcr (rsized_ret _ _ m i f (hmv _ e1) hi hD hft) fun w2 e2=>?_
    exact ⟨_,rfl,by rw [hcc];rfl,EY.trans (e1.trans e2)⟩
 · have hcc:checkC (m.fields.take i) D S f=needC (lastOf (vI (depsOf (d.msgs.take n))) f.of).isSome 8:=by rw [← hDD];unfold checkC;rw [hk];rfl
   refine zcr (rFind_ret _ _ d f.of n (hdv _ (Ext.refl Y)) (Nat.le_of_lt hnl)) fun w1 e1=>?_
   have hdi:=idx_some (p:=fun m:MsgD=>decide (m.name=f.of)) (l:=d.msgs.take n)
   rw [lastOf_vI,Option.isSome_map,anyD _ hN] at hcc
   cases hs:(d.msgs.take n).any (fun m=>decide (m.name=f.of)) with
   | false =>
    rw [hs] at hdi hcc
    simp (disch:=try exact DI) only [↓PR,QR,Int.reduceBEq,Int.reduceBNe,Int.reduceLT,Int.reduceLE,Int.reduceGT,Int.reduceGE,Int.reduceNeg,hdi,↓n29c1,↓n29c2,↓n29c3,↓n29c4,↓n29c5,↓n29c6,↓n29c7,↓n29c8,↓n29c9,↓n29c10,↓n29c11,↓n29c12,↓n29c13,↓n29c14,↓n29c15,↓n29c16,↓n29c17,↓n29c18,↓n29c19,↓n29c20,↓n29c21,↓n29c22,↓n29c23,↓n29c24,↓n29c25,↓n29c26,↓n29c27,↓n29c28,↓n29c29,↓n29c30,↓n29c31,↓n29c32]
    exact ⟨by rw [hcc];rfl,EY.trans e1⟩
   | true =>
    rw [hs] at hdi hcc
    simp (disch:=try exact DI) only [↓PR,QR,Int.reduceBEq,Int.reduceBNe,Int.reduceLT,Int.reduceLE,Int.reduceGT,Int.reduceGE,Int.reduceNeg,hdi,↓n29c1,↓n29c2,↓n29c3,↓n29c4,↓n29c5,↓n29c6,↓n29c7,↓n29c8,↓n29c9,↓n29c10,↓n29c11,↓n29c12,↓n29c13,↓n29c14,↓n29c15,↓n29c16,↓n29c17,↓n29c18,↓n29c19,↓n29c20,↓n29c21,↓n29c22,↓n29c23,↓n29c24,↓n29c25,↓n29c26,↓n29c27,↓n29c28,↓n29c29,↓n29c30,↓n29c31,↓n29c32]
    exact ⟨by rw [hcc];rfl,EY.trans e1⟩
 · have hcc:checkC (m.fields.take i) D S f=casesC (m.fields.take i) (vI (depsOf (d.msgs.take n))) f:=by rw [← hDD];unfold checkC;rw [hk];rfl
   refine zcr (rField_ret _ _ m f.tag i (hmv _ (Ext.refl Y)) (Nat.le_of_lt hil)) fun w1 e1=>?_
   have E1:=EY.trans e1
   unfold casesC at hcc
   rcases num_first hD f.tag with ⟨h1,h2⟩ | ⟨k,g,h1,h2,h3⟩
   · rw [h1]
     rw [h2] at hcc
     simp (disch:=try exact DI) only [↓PR,QR,Int.reduceBEq,Int.reduceBNe,Int.reduceLT,Int.reduceLE,Int.reduceGT,Int.reduceGE,Int.reduceNeg,↓n29c1,↓n29c2,↓n29c3,↓n29c4,↓n29c5,↓n29c6,↓n29c7,↓n29c8,↓n29c9,↓n29c10,↓n29c11,↓n29c12,↓n29c13,↓n29c14,↓n29c15,↓n29c16,↓n29c17,↓n29c18,↓n29c19,↓n29c20,↓n29c21,↓n29c22,↓n29c23,↓n29c24,↓n29c25,↓n29c26,↓n29c27,↓n29c28,↓n29c29,↓n29c30,↓n29c31,↓n29c32]
     exact ⟨by rw [hcc];rfl,E1⟩
   · have hgk:=take_get h2
     have hgm:=List.mem_of_getElem? h2
     obtain ⟨csg,_,hAg,hEg⟩:=helf k g hgk
     have hkl:k < m.fields.length:=(List.getElem?_eq_some_iff.1 hgk).1
     obtain ⟨tg,cg,rfl,hTg,hCg,_,_⟩:=hEg.op
     have hd0:decide ((k:Int) < 0)=false:=by simp
     rw [h1]
     simp (disch:=try exact DI) only [↓PR,QR,Int.reduceBEq,Int.reduceBNe,Int.reduceLT,Int.reduceLE,Int.reduceGT,Int.reduceGE,Int.reduceNeg,hd0,hBX.c2 (eY.trans e1),hAg.c15 E1,↓n29c1,↓n29c2,↓n29c3,↓n29c4,↓n29c5,↓n29c6,↓n29c7,↓n29c8,↓n29c9,↓n29c10,↓n29c11,↓n29c12,↓n29c13,↓n29c14,↓n29c15,↓n29c16,↓n29c17,↓n29c18,↓n29c19,↓n29c20,↓n29c21,↓n29c22,↓n29c23,↓n29c24,↓n29c25,↓n29c26,↓n29c27,↓n29c28,↓n29c29,↓n29c30,↓n29c31,↓n29c32]
     refine zcr (rNumber_ret _ _ g ⟨_,_,rfl,hTg.ext E1,hCg.ext E1⟩) fun w2 e2=>?_
     cases hng:numberB g with
     | false =>
      rw [hng,if_neg (by simp)] at h3
      rw [h3] at hcc
      simp (disch:=try exact DI) only [↓PR,QR,Int.reduceBEq,Int.reduceBNe,Int.reduceLT,Int.reduceLE,Int.reduceGT,Int.reduceGE,Int.reduceNeg,hd0,↓n29c1,↓n29c2,↓n29c3,↓n29c4,↓n29c5,↓n29c6,↓n29c7,↓n29c8,↓n29c9,↓n29c10,↓n29c11,↓n29c12,↓n29c13,↓n29c14,↓n29c15,↓n29c16,↓n29c17,↓n29c18,↓n29c19,↓n29c20,↓n29c21,↓n29c22,↓n29c23,↓n29c24,↓n29c25,↓n29c26,↓n29c27,↓n29c28,↓n29c29,↓n29c30,↓n29c31,↓n29c32]
      exact ⟨by rw [hcc];rfl,E1.trans e2⟩
     | true =>
     rw [hng,if_pos rfl] at h3
     rw [h3] at hcc
     have f2:Ext Y w2:=e1.trans e2
     simp (disch:=try exact DI) only [↓PR,QR,Int.reduceBEq,Int.reduceBNe,Int.reduceLT,Int.reduceLE,Int.reduceGT,Int.reduceGE,Int.reduceNeg,hd0,hBX.c2 (eY.trans f2),hBY.c15 f2,↓n29c1,↓n29c2,↓n29c3,↓n29c4,↓n29c5,↓n29c6,↓n29c7,↓n29c8,↓n29c9,↓n29c10,↓n29c11,↓n29c12,↓n29c13,↓n29c14,↓n29c15,↓n29c16,↓n29c17,↓n29c18,↓n29c19,↓n29c20,↓n29c21,↓n29c22,↓n29c23,↓n29c24,↓n29c25,↓n29c26,↓n29c27,↓n29c28,↓n29c29,↓n29c30,↓n29c31,↓n29c32]
     refine zcr (rtagged_ret _ _ m f.tag i (hmv _ f2) (Nat.le_of_lt hil)) fun w3 e3=>?_
     have f3:=f2.trans e3
     cases htg:(m.fields.take i).any (taggedP f.tag) with
     | true =>
      rw [htg] at hcc
      simp (disch:=try exact DI) only [↓PR,QR,Int.reduceBEq,Int.reduceBNe,Int.reduceLT,Int.reduceLE,Int.reduceGT,Int.reduceGE,Int.reduceNeg,hd0,↓n29c1,↓n29c2,↓n29c3,↓n29c4,↓n29c5,↓n29c6,↓n29c7,↓n29c8,↓n29c9,↓n29c10,↓n29c11,↓n29c12,↓n29c13,↓n29c14,↓n29c15,↓n29c16,↓n29c17,↓n29c18,↓n29c19,↓n29c20,↓n29c21,↓n29c22,↓n29c23,↓n29c24,↓n29c25,↓n29c26,↓n29c27,↓n29c28,↓n29c29,↓n29c30,↓n29c31,↓n29c32]
      exact ⟨by rw [hcc];rfl,EY.trans f3⟩
     | false =>
     rw [htg] at hcc
     simp (disch:=try exact DI) only [↓PR,QR,Int.reduceBEq,Int.reduceBNe,Int.reduceLT,Int.reduceLE,Int.reduceGT,Int.reduceGE,Int.reduceNeg,hd0,hBX.c2 (eY.trans f3),hAg.c15 (EY.trans f3),↓n29c1,↓n29c2,↓n29c3,↓n29c4,↓n29c5,↓n29c6,↓n29c7,↓n29c8,↓n29c9,↓n29c10,↓n29c11,↓n29c12,↓n29c13,↓n29c14,↓n29c15,↓n29c16,↓n29c17,↓n29c18,↓n29c19,↓n29c20,↓n29c21,↓n29c22,↓n29c23,↓n29c24,↓n29c25,↓n29c26,↓n29c27,↓n29c28,↓n29c29,↓n29c30,↓n29c31,↓n29c32]
     refine zcr (rRange_ret _ _ g ⟨_,_,rfl,hTg.ext (EY.trans f3),hCg.ext (EY.trans f3)⟩) fun w4 e4=>?_
     have f4:=f3.trans e4
     simp (disch:=try exact DI) only [↓PR,QR,Int.reduceBEq,Int.reduceBNe,Int.reduceLT,Int.reduceLE,Int.reduceGT,Int.reduceGE,Int.reduceNeg,hBW.c3 (eX.trans (eY.trans f4)),hBY.c15 f4,↓n29c1,↓n29c2,↓n29c3,↓n29c4,↓n29c5,↓n29c6,↓n29c7,↓n29c8,↓n29c9,↓n29c10,↓n29c11,↓n29c12,↓n29c13,↓n29c14,↓n29c15,↓n29c16,↓n29c17,↓n29c18,↓n29c19,↓n29c20,↓n29c21,↓n29c22,↓n29c23,↓n29c24,↓n29c25,↓n29c26,↓n29c27,↓n29c28,↓n29c29,↓n29c30,↓n29c31,↓n29c32]
     have hgb:=hg g hgm hng
     refine zcr (rcased_ret _ _ _ d n f g.low (highOf g) (depsOf (d.msgs.take n)) (hdv _ f4) (Nat.le_of_lt hnl) ⟨_,_,rfl,hT.ext (EY.trans f4),hC.ext (EY.trans f4)⟩ (anyD _ hN) hgb.1 hgb.2) fun w5 e5=>?_
     exact ⟨_,rfl,by rw [hcc];rfl,EY.trans (f4.trans e5)⟩
 · have hcc:checkC (m.fields.take i) D S f=needC (padB f) 6:=by unfold checkC;rw [hk];rfl
   have hP:padB f=!((f.bits != 2&&f.bits != 4)&&(decide (f.bits < 8)||decide (512 < f.bits)||f.bits.tmod 8 != 0)):=by
    unfold padB
    rw [show decide (f.bits < 8)=!decide (8≤f.bits) by rw [Bool.eq_iff_iff];simp,show decide (512 < f.bits)=!decide (f.bits≤512) by rw [Bool.eq_iff_iff];simp,bne,bne,bne]
    generalize (f.bits == 2)=a1
    generalize (f.bits == 4)=a2
    generalize decide (8≤f.bits)=a3
    generalize decide (f.bits≤512)=a4
    generalize (f.bits.tmod 8 == 0)=a5
    cases a1<;>cases a2<;>cases a3<;>cases a4<;>cases a5<;>rfl
   rw [hP] at hcc
   clear hP
   repeat' first
    | exact ⟨by rw [hcc];rfl,EY⟩
    | (refine guard_cases (fun hg=>?_) (fun hg=>?_)<;>(try rw [hg] at hcc)<;>simp (disch:=try exact DI) only [↓PR,QR,Int.reduceBEq,Int.reduceBNe,Int.reduceLT,Int.reduceLE,Int.reduceGT,Int.reduceGE,Int.reduceNeg,hg,hcY,↓n29c1,↓n29c2,↓n29c3,↓n29c4,↓n29c5,↓n29c6,↓n29c7,↓n29c8,↓n29c9,↓n29c10,↓n29c11,↓n29c12,↓n29c13,↓n29c14,↓n29c15,↓n29c16,↓n29c17,↓n29c18,↓n29c19,↓n29c20,↓n29c21,↓n29c22,↓n29c23,↓n29c24,↓n29c25,↓n29c26,↓n29c27,↓n29c28,↓n29c29,↓n29c30,↓n29c31,↓n29c32])
    | (refine cond_cases (fun hg=>?_) (fun hg=>?_)<;>(try rw [hg] at hcc)<;>simp (disch:=try exact DI) only [↓PR,QR,Int.reduceBEq,Int.reduceBNe,Int.reduceLT,Int.reduceLE,Int.reduceGT,Int.reduceGE,Int.reduceNeg,hg,↓n29c1,↓n29c2,↓n29c3,↓n29c4,↓n29c5,↓n29c6,↓n29c7,↓n29c8,↓n29c9,↓n29c10,↓n29c11,↓n29c12,↓n29c13,↓n29c14,↓n29c15,↓n29c16,↓n29c17,↓n29c18,↓n29c19,↓n29c20,↓n29c21,↓n29c22,↓n29c23,↓n29c24,↓n29c25,↓n29c26,↓n29c27,↓n29c28,↓n29c29,↓n29c30,↓n29c31,↓n29c32])
 · have hcc:checkC (m.fields.take i) D S f=orC (withinC 3 1 [f.check]) (needC ((m.fields.take i).any fun o=>decide (o.name=f.fr)) 8):=by unfold checkC;rw [hk];rfl
   rw [within1] at hcc
   refine cond_cases (fun h=>⟨_,rfl,by rw [hcc,if_pos (by simpa using h)];rfl,EY⟩) (fun h=>?_)
   rw [if_neg (by simpa using h)] at hcc
   simp (disch:=try exact DI) only [↓PR,QR,Int.reduceBEq,Int.reduceBNe,Int.reduceLT,Int.reduceLE,Int.reduceGT,Int.reduceGE,Int.reduceNeg,hBX.c2 eY,hcY,↓n29c1,↓n29c2,↓n29c3,↓n29c4,↓n29c5,↓n29c6,↓n29c7,↓n29c8,↓n29c9,↓n29c10,↓n29c11,↓n29c12,↓n29c13,↓n29c14,↓n29c15,↓n29c16,↓n29c17,↓n29c18,↓n29c19,↓n29c20,↓n29c21,↓n29c22,↓n29c23,↓n29c24,↓n29c25,↓n29c26,↓n29c27,↓n29c28,↓n29c29,↓n29c30,↓n29c31,↓n29c32]
   refine zcr (rField_ret _ _ m f.fr i (hmv _ (Ext.refl Y)) (Nat.le_of_lt hil)) fun w1 e1=>?_
   have hdi:=idx_some (p:=fun m:FieldD=>decide (m.name=f.fr)) (l:=m.fields.take i)
   cases hs:(m.fields.take i).any (fun m=>decide (m.name=f.fr))<;>rw [hs] at hdi hcc<;>simp (disch:=try exact DI) only [↓PR,QR,Int.reduceBEq,Int.reduceBNe,Int.reduceLT,Int.reduceLE,Int.reduceGT,Int.reduceGE,Int.reduceNeg,hdi,↓n29c1,↓n29c2,↓n29c3,↓n29c4,↓n29c5,↓n29c6,↓n29c7,↓n29c8,↓n29c9,↓n29c10,↓n29c11,↓n29c12,↓n29c13,↓n29c14,↓n29c15,↓n29c16,↓n29c17,↓n29c18,↓n29c19,↓n29c20,↓n29c21,↓n29c22,↓n29c23,↓n29c24,↓n29c25,↓n29c26,↓n29c27,↓n29c28,↓n29c29,↓n29c30,↓n29c31,↓n29c32]<;>exact ⟨by rw [hcc];rfl,EY.trans e1⟩
 · have hcc:checkC (m.fields.take i) D S f=orC (withinC 4294967295 0 [f.key]) (orC (needC (strB (vB (strsOf (d.msgs.take n))) f.of) 8) (sizedC (numR (m.fields.take i)) f)):=by rw [← hSS];unfold checkC;rw [hk];rfl
   rw [within1,strB_vB] at hcc
   refine cond_cases (fun h=>⟨_,rfl,by rw [hcc,if_pos (by simpa using h)];rfl,EY⟩) (fun h=>?_)
   rw [if_neg (by simpa using h)] at hcc
   simp (disch:=try exact DI) only [↓PR,QR,Int.reduceBEq,Int.reduceBNe,Int.reduceLT,Int.reduceLE,Int.reduceGT,Int.reduceGE,Int.reduceNeg,hBW.c3 (eX.trans eY),hcY,↓n29c1,↓n29c2,↓n29c3,↓n29c4,↓n29c5,↓n29c6,↓n29c7,↓n29c8,↓n29c9,↓n29c10,↓n29c11,↓n29c12,↓n29c13,↓n29c14,↓n29c15,↓n29c16,↓n29c17,↓n29c18,↓n29c19,↓n29c20,↓n29c21,↓n29c22,↓n29c23,↓n29c24,↓n29c25,↓n29c26,↓n29c27,↓n29c28,↓n29c29,↓n29c30,↓n29c31,↓n29c32]
   refine zcr (rFind_ret _ _ d f.of n (hdv _ (Ext.refl Y)) (Nat.le_of_lt hnl)) fun w1 e1=>?_
   rcases first_last (keysS (d.msgs.take n)) hN f.of with ⟨h1,h2⟩ | ⟨k,b,h1,_,h3,h4⟩
   · rw [h1]
     rw [h2] at hcc
     simp (disch:=try exact DI) only [↓PR,QR,Int.reduceBEq,Int.reduceBNe,Int.reduceLT,Int.reduceLE,Int.reduceGT,Int.reduceGE,Int.reduceNeg,↓n29c1,↓n29c2,↓n29c3,↓n29c4,↓n29c5,↓n29c6,↓n29c7,↓n29c8,↓n29c9,↓n29c10,↓n29c11,↓n29c12,↓n29c13,↓n29c14,↓n29c15,↓n29c16,↓n29c17,↓n29c18,↓n29c19,↓n29c20,↓n29c21,↓n29c22,↓n29c23,↓n29c24,↓n29c25,↓n29c26,↓n29c27,↓n29c28,↓n29c29,↓n29c30,↓n29c31,↓n29c32]
     exact ⟨by rw [hcc];rfl,EY.trans e1⟩
   · rw [h1]
     rw [h4] at hcc
     have hd0:decide ((k:Int) < 0)=false:=by simp
     simp (disch:=try exact DI) only [↓PR,QR,Int.reduceBEq,Int.reduceBNe,Int.reduceLT,Int.reduceLE,Int.reduceGT,Int.reduceGE,Int.reduceNeg,hd0,hBW.c3 (eX.trans (eY.trans e1)),↓n29c1,↓n29c2,↓n29c3,↓n29c4,↓n29c5,↓n29c6,↓n29c7,↓n29c8,↓n29c9,↓n29c10,↓n29c11,↓n29c12,↓n29c13,↓n29c14,↓n29c15,↓n29c16,↓n29c17,↓n29c18,↓n29c19,↓n29c20,↓n29c21,↓n29c22,↓n29c23,↓n29c24,↓n29c25,↓n29c26,↓n29c27,↓n29c28,↓n29c29,↓n29c30,↓n29c31,↓n29c32]
     refine callK_ret (rStricts_ret _ _ d n (hdv _ e1) (Nat.le_of_lt hnl) hN hR (fun m hm=>(hb m hm).1) hn1) ?_
     rintro _ w2 ⟨hO,e2⟩
     have hq:((strsOf (d.msgs.take n)).map (·.2))[k]?=some b:=by rw [List.getElem?_map,h3];rfl
     obtain ⟨bo,oo,co,rfl,_,_,_,hql,helo⟩:=open1 hO hq
     obtain ⟨cso,_,hAo,rfl⟩:=helo k b hq
     cases b with
     | false =>
      simp (disch:=try exact DI) only [↓PR,QR,Int.reduceBEq,Int.reduceBNe,Int.reduceLT,Int.reduceLE,Int.reduceGT,Int.reduceGE,Int.reduceNeg,hd0,hAo.c1 (Ext.refl _),↓n29c1,↓n29c2,↓n29c3,↓n29c4,↓n29c5,↓n29c6,↓n29c7,↓n29c8,↓n29c9,↓n29c10,↓n29c11,↓n29c12,↓n29c13,↓n29c14,↓n29c15,↓n29c16,↓n29c17,↓n29c18,↓n29c19,↓n29c20,↓n29c21,↓n29c22,↓n29c23,↓n29c24,↓n29c25,↓n29c26,↓n29c27,↓n29c28,↓n29c29,↓n29c30,↓n29c31,↓n29c32]
      exact ⟨by rw [hcc];rfl,EY.trans (e1.trans e2)⟩
     | true =>
      simp (disch:=try exact DI) only [↓PR,QR,Int.reduceBEq,Int.reduceBNe,Int.reduceLT,Int.reduceLE,Int.reduceGT,Int.reduceGE,Int.reduceNeg,hd0,hAo.c1 (Ext.refl _),hBX.c2 (eY.trans (e1.trans e2)),↓n29c1,↓n29c2,↓n29c3,↓n29c4,↓n29c5,↓n29c6,↓n29c7,↓n29c8,↓n29c9,↓n29c10,↓n29c11,↓n29c12,↓n29c13,↓n29c14,↓n29c15,↓n29c16,↓n29c17,↓n29c18,↓n29c19,↓n29c20,↓n29c21,↓n29c22,↓n29c23,↓n29c24,↓n29c25,↓n29c26,↓n29c27,↓n29c28,↓n29c29,↓n29c30,↓n29c31,↓n29c32]
      refine zcr (rsized_ret _ _ m i f (hmv _ (e1.trans e2)) hi hD hft) fun w3 e3=>?_
      exact ⟨_,rfl,by rw [hcc];rfl,EY.trans (e1.trans (e2.trans e3))⟩
end Go.Proofs.YtiajhbbmgglmlaaGreat
