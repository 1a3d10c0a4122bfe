/-
  phrasebooklaw04.SizeEvals returns true for every size and all values, and leaves its arguments as they were; no condition is asked but that the tables of the library lie as the program lays them (the card ties them).
-/
import Derived.Test.YtpgkjhikdhdffaaGreatDoorVa3
set_option linter.all false
set_option maxHeartbeats 4000000
set_option maxRecDepth 100000
namespace Go.Proofs.YtpgkjhikdhdffaaGreatDoor
open Sw
open Go.RowKit (intOf Below)
def sN:ByteArray:=⟨#[110]⟩
def sM:ByteArray:=⟨#[109]⟩
def sA:ByteArray:=⟨#[97]⟩
theorem ex1:evalN 4 givenT [(sN,5),(sM,3)]=11∧evalE 4 givenT ByteArray.empty [(sN,5),(sM,3)]=0:=by decide +kernel
theorem ex2:evalN 4 givenT [(sN,5)]=0∧evalE 4 givenT ByteArray.empty [(sN,5)]=9:=by decide +kernel
theorem ex3:evalN 4 givenT [(sN,-1),(sM,0)]=0∧evalE 4 givenT ByteArray.empty [(sN,-1),(sM,0)]=2:=by decide +kernel
theorem ex4:lenN 4 givenT [(sN,0),(sM,5)]=0∧lenE 4 givenT [(sN,0),(sM,5)]=3:=by decide +kernel
theorem ex5:intervalL 4 givenT [(sN,0,10),(sM,1,4)]=0∧intervalH 4 givenT [(sN,0,10),(sM,1,4)]=23∧intervalE 4 givenT [(sN,0,10),(sM,1,4)]=0:=by decide +kernel
theorem ex6:solveP 4 givenT sN 11 [(sM,3)]=(5,0)∧solveP 4 givenT sN 12 [(sM,3)]=(0,9):=by decide +kernel
theorem ex7:(parseZ ⟨#[110,42,50]⟩).2.2=6:=by decide +kernel
theorem ex8a:sortB [sN,sA]=[sA,sN] :=
 strict_ext (sortB_strict (by decide +kernel)) (by
  refine List.pairwise_pair.2 ?_
  decide +kernel) fun s=>by
  rw [mem_sortB]
  simp only [List.mem_cons,List.not_mem_nil,or_false]
  exact Or.comm
theorem ex8b:sumT1 (givenT++[⟨sM,1⟩,⟨sA,3⟩])=[⟨sA,3⟩,⟨sN,2⟩]:=by
 unfold sumT1
 have hX:(dedupB ((givenT++[⟨sM,1⟩,⟨sA,3⟩]:List TermD).map fun t=>t.field)).filter (fun s=>decide (addF s (givenT++[⟨sM,1⟩,⟨sA,3⟩])≠0))=[sN,sA]:=by decide +kernel
 rw [hX,ex8a]
 decide +kernel
theorem ex8:addP 4 givenT (-4) [⟨sM,1⟩,⟨sA,3⟩]=(0,[⟨sA,3⟩,⟨sN,2⟩],0):=by
 unfold addP
 rw [ex8b]
 decide +kernel
theorem ex9:sizeT 4 givenT=⟨#[50,42,110,45,109,43,52]⟩∧sizeT 0 []=⟨#[48]⟩∧sizeT (-8) [⟨sN,1⟩]=⟨#[110,45,56]⟩∧sizeT 3 [⟨sN,-1⟩]=⟨#[45,110,43,51]⟩:=by decide +kernel
theorem ex10:sizeB 4 givenT=true∧sizeB 0 []=true∧sizeB (-8) [⟨sN,1⟩]=true∧sizeB 3 [⟨sN,-1⟩]=true:=by decide +kernel
theorem vals_new (w:World) (T:TypeId) (l:List (ByteArray×Int)) (hl:l.length≤9223372036854775807):ValsOf (w.alloc (.cells (l.flatMap valCells).toArray T)) (.slice (some ⟨w.heap.size,0,none⟩) l.length l.length) l :=
 (OwnE.new w T 2 valCells l (fun _=>rfl) hl).slice (fun _=>rfl) (fun _ _=>rfl)
theorem terms_new (w:World) (T:TypeId) (l:List TermD) (hl:l.length≤9223372036854775807):TermsOf (w.alloc (.cells (l.flatMap termCells).toArray T)) (.slice (some ⟨w.heap.size,0,none⟩) l.length l.length) l :=
 (OwnE.new w T 2 termCells l (fun _=>rfl) hl).slice (fun _=>rfl) (fun _ _=>rfl)
theorem known_c4 {w0 w:World} (hE:EnvOK w0) (e:Ext w0 w):n6c4 (retR fun r w'=>r = .bool true∧Ext w0 w') w:=by
 unfold n6c4
 refine callK_ret (given_ret w) ?_
 rintro v1 w1 ⟨hs1,e1⟩
 refine zcr (says_ret (hE.ext (e.trans e1)) v1 4 givenT _ hs1 ex10.1 ex9.1.symm (by unfold AsciiL;decide) (by decide)) fun w2 e2=>?_
 have E2:=(e.trans e1).trans e2
 unfold n6c3
 simp (disch:=try exact DI) only [↓PR,QR,simprocAttr]
 refine zcr (says_ret (hE.ext E2) _ 0 [] _ ⟨_,rfl,SliceOf.nil _ _ _⟩ ex10.2.1 ex9.2.1.symm (by unfold AsciiL;decide) (by decide)) fun w3 e3=>?_
 have E3:=E2.trans e3
 unfold n6c2
 simp (disch:=try exact DI) only [↓PR,QR,simprocAttr]
 have eA:Ext w3 (w3.alloc (.cells ([(⟨sN,1⟩:TermD)].flatMap termCells).toArray 32)):=(Ext.refl _).alloc _
 refine zcr (says_ret (hE.ext (E3.trans eA)) _ (-8) [⟨sN,1⟩] _ ⟨_,rfl,terms_new w3 32 [⟨sN,1⟩] (by decide)⟩ ex10.2.2.1 ex9.2.2.1.symm (by unfold AsciiL;decide) (by decide)) fun w4 e4=>?_
 have E4:=(E3.trans eA).trans e4
 unfold n6c1
 simp (disch:=try exact DI) only [↓PR,QR,simprocAttr]
 have eB:Ext w4 (w4.alloc (.cells ([(⟨sN,-1⟩:TermD)].flatMap termCells).toArray 32)):=(Ext.refl _).alloc _
 refine zcr (says_ret (hE.ext (E4.trans eB)) _ 3 [⟨sN,-1⟩] _ ⟨_,rfl,terms_new w4 32 [⟨sN,-1⟩] (by decide)⟩ ex10.2.2.2 ex9.2.2.2.symm (by unfold AsciiL;decide) (by decide)) fun w5 e5=>?_
 simp (disch:=try exact DI) only [↓PR,QR,simprocAttr]
 exact ⟨trivial,(E4.trans eB).trans e5⟩
abbrev VT:TypeId:=78
abbrev allocV (w:World) (l:List (ByteArray×Int)):World:=w.alloc (.cells (l.flatMap valCells).toArray VT)
theorem allocV_ext (w:World) (l:List (ByteArray×Int)):Ext w (allocV w l):=(Ext.refl _).alloc _
theorem solve_step {w:World} (n:Int) {v:Value} (hs:SizeVal w v 4 givenT) {K:Value→World→Prop} {R:RT} (hK:∀ w',Ext w w'→K (.tuple #[.int .i64 (solveP 4 givenT sN n [(sM,3)]).1,.int .i64 (solveP 4 givenT sN n [(sM,3)]).2]) w') :
 opV Pg (Instr.makeMap 35 none) (panK R) w fun t47 w=>opU Pg (Instr.mapUpdate 35 t47 (.string ⟨#[109]⟩) (.int .i64 3)) (panK R) w fun w=>callK Pg 28 #[v,.string ⟨#[110]⟩,.int .i64 n,t47] (panK R) w K:=by
 rw [op_makeMap]
 have eM:Ext w (w.alloc (.map #[] 0)):=(Ext.refl _).alloc _
 have hm0:MapOf (w.alloc (.map #[] 0)) w.heap.size []:=MapOf.new w
 generalize w.alloc (.map #[] 0)=W at *
 rw [op_updateO Tryz.underlying35 Tryz.underlying9 hm0 ⟨#[109]⟩]
 have eP:=eM.putW (ps:=[]) (Nat.le_refl _) ⟨#[109]⟩ (.int .i64 3)
 have hm1:=hm0.put ⟨#[109]⟩ (.int .i64 3)
 generalize putW W w.heap.size [] ⟨#[109]⟩ (.int .i64 3)=W1 at *
 refine zcr (Solve_ret W1 v 4 givenT sN n w.heap.size [(sM,3)] (hs.ext eP) (by decide) hm1) fun w2 e2=>?_
 exact hK w2 (eP.trans e2)
theorem known_c20 {w0 w5:World} {v5:Value} (hE:EnvOK w0) (E5:Ext w0 w5) (hs5:SizeVal w5 v5 4 givenT):n6c20 v5 (retR fun r w'=>r = .bool true∧Ext w0 w') w5:=by
 unfold n6c20
 rw [op_makeMap]
 have eM:Ext w5 (w5.alloc (.map #[] 0)):=(Ext.refl _).alloc _
 have hm0:MapOf (w5.alloc (.map #[] 0)) w5.heap.size []:=MapOf.new w5
 generalize w5.alloc (.map #[] 0)=W at *
 simp (disch:=try exact DI) only [↓PR,QR,simprocAttr]
 rw [op_updateO Tryz.underlying46 Tryz.underlying9 hm0 ⟨#[110]⟩]
 have eP:=eM.putW (ps:=[]) (Nat.le_refl _) ⟨#[110]⟩ (.agg #[.int .i64 0,.int .i64 10])
 have hm1:=hm0.put ⟨#[110]⟩ (.agg #[.int .i64 0,.int .i64 10])
 generalize putW W w5.heap.size [] ⟨#[110]⟩ (.agg #[.int .i64 0,.int .i64 10])=W1 at *
 simp (disch:=try exact DI) only [↓PR,QR,simprocAttr]
 rw [op_updateO Tryz.underlying46 Tryz.underlying9 hm1 ⟨#[109]⟩]
 have eQ:=eP.putW (ps:=[]++[(⟨#[110]⟩,(.agg #[.int .i64 0,.int .i64 10]))]) (Nat.le_refl _) ⟨#[109]⟩ (.agg #[.int .i64 1,.int .i64 4])
 have hm2:=hm1.put ⟨#[109]⟩ (.agg #[.int .i64 1,.int .i64 4])
 generalize putW W1 w5.heap.size ([]++[(⟨#[110]⟩,(.agg #[.int .i64 0,.int .i64 10]))]) ⟨#[109]⟩ (.agg #[.int .i64 1,.int .i64 4])=W2 at *
 refine zcr (Interval_ret W2 v5 4 givenT w5.heap.size [(sN,0,10),(sM,1,4)] (hs5.ext eQ) (by decide) hm2) fun w6 e6=>?_
 rw [ex5.1,ex5.2.1,ex5.2.2]
 have E6:=(E5.trans eQ).trans e6
 clear hm0 hm1 hm2 eM eP eQ e6 E5 hs5 W W1 W2
 unfold n6c19 rangeVal
 simp (disch:=try exact DI) only [↓PR,QR,simprocAttr]
 have oP:(w6.alloc (.cells #[.int .i64 0,.int .i64 23] 51)).heap[w6.heap.size]?=some (.cells #[.int .i64 0,.int .i64 23] 51 (0,0)):=World.alloc_heap_new w6 _
 have E7:=E6.trans ((Ext.refl w6).alloc (.cells #[.int .i64 0,.int .i64 23] 51))
 generalize w6.alloc (.cells #[.int .i64 0,.int .i64 23] 51)=w7 at *
 generalize w6.heap.size=p1 at *
 refine callK_ret (given_ret w7) ?_
 rintro v8 w8 ⟨hs8,e8⟩
 have oP8:=e8.obj oP
 have E8:=E7.trans e8
 clear e8 E7 oP E6
 unfold n6c18
 refine solve_step 11 hs8 fun w9 e9=>?_
 rw [ex6.1]
 have oP9:=e9.obj oP8
 have E9:=E8.trans e9
 clear e9 E8 oP8 hs8
 unfold n6c17
 simp (disch:=try exact DI) only [↓PR,QR,simprocAttr]
 refine callK_ret (given_ret w9) ?_
 rintro v10 w10 ⟨hs10,e10⟩
 unfold n6c16
 refine solve_step 12 hs10 fun w11 e11=>?_
 rw [ex6.2]
 have oP11:=e11.obj (e10.obj oP9)
 have E11:=(E9.trans e10).trans e11
 clear e10 e11 E9 oP9 hs10
 unfold n6c15
 simp (disch:=try exact DI) only [↓PR,QR,simprocAttr]
 refine callK_ret (Parse_ret (hE.ext E11) ⟨#[110,42,50]⟩ (by unfold AsciiL;decide) (by decide)) ?_
 rintro _ w12 ⟨⟨x12,rfl,hx12⟩,e12⟩
 rw [ex7]
 obtain ⟨tv12,rfl,hT12⟩:=hx12
 have h12:=SliceOf.oneCell hT12
 have oP12:=e12.obj oP11
 have E12:=E11.trans e12
 clear e12 E11 oP11
 unfold n6c14
 simp (disch:=try exact DI) only [↓PR,QR,simprocAttr]
 have eA:Ext w12 (w12.alloc (.cells #[.int .i64 (parseZ ⟨#[110,42,50]⟩).1,tv12] TSz)):=(Ext.refl _).alloc _
 refine callK_ret (given_ret (w12.alloc (.cells #[.int .i64 (parseZ ⟨#[110,42,50]⟩).1,tv12] TSz))) ?_
 rintro v13 w13 ⟨hs13,e13⟩
 have oP13:=e13.obj (eA.obj oP12)
 have E13:=(E12.trans eA).trans e13
 clear e13 eA E12 oP12 hT12 h12
 unfold n6c13
 simp (disch:=try exact DI) only [↓PR,QR,simprocAttr]
 have eB:Ext w13 (w13.alloc (.cells ([(⟨sM,1⟩:TermD),⟨sA,3⟩].flatMap termCells).toArray TTm)):=(Ext.refl _).alloc _
 refine callK_ret (Add_ret (w13.alloc (.cells ([(⟨sM,1⟩:TermD),⟨sA,3⟩].flatMap termCells).toArray TTm)) v13 _ 4 (-4) givenT [⟨sM,1⟩,⟨sA,3⟩] (hs13.ext eB) ⟨_,rfl,terms_new w13 TTm [⟨sM,1⟩,⟨sA,3⟩] (by decide)⟩ (by decide) (by decide)) ?_
 rintro _ w14 ⟨⟨x14,rfl,hx14⟩,e14⟩
 rw [ex8] at hx14 ⊢
 obtain ⟨tv14,rfl,hT14⟩:=hx14
 have h14:=SliceOf.oneCell hT14
 have oP14:=e14.obj (eB.obj oP13)
 have E14:=(E13.trans eB).trans e14
 clear e14 eB E13 oP13 hs13
 unfold n6c12
 have eC:Ext w14 (w14.alloc (.cells #[.int .i64 0,tv14] TSz)):=(Ext.refl _).alloc _
 have oC:(w14.alloc (.cells #[.int .i64 0,tv14] TSz)).heap[w14.heap.size]?=some (.cells #[.int .i64 0,tv14] TSz (0,0)):=World.alloc_heap_new w14 _
 simp (disch:=try exact DI) only [↓PR,QR,simprocAttr,(cells_of_heap (eC.obj oP14)).1,(cells_of_heap oC).1]
 have E15:=E14.trans eC
 have hT15:=TermsOf.ext hT14 eC
 generalize w14.alloc (.cells #[.int .i64 0,tv14] TSz)=w15 at *
 generalize w14.heap.size=p9 at *
 clear eC oP14 E14 hT14
 simp (disch:=try exact DI) only [↓PR,QR,simprocAttr,↓n6c11,↓n6c10,↓n6c9,↓n6c8,↓n6c7,↓n6c6,↓n6c5,(cells_of_heap oC).1]
 have eD:Ext w15 (w15.alloc (.cells ([(⟨sA,3⟩:TermD),⟨sN,2⟩].flatMap termCells).toArray TTm)):=(Ext.refl _).alloc _
 refine zcr (rSame_ret (w15.alloc (.cells ([(⟨sA,3⟩:TermD),⟨sN,2⟩].flatMap termCells).toArray TTm)) _ _ 0 0 [⟨sA,3⟩,⟨sN,2⟩] [⟨sA,3⟩,⟨sN,2⟩] ⟨tv14,rfl,TermsOf.ext hT15 eD⟩ ⟨_,rfl,terms_new w15 TTm [⟨sA,3⟩,⟨sN,2⟩] (by decide)⟩) fun w16 e16=>?_
 rw [decide_eq_true (p:=(0:Int)=0∧[(⟨sA,3⟩:TermD),⟨sN,2⟩]=[⟨sA,3⟩,⟨sN,2⟩]) ⟨rfl,rfl⟩,show ((0:Int) != 0)=false from rfl]
 simp (disch:=try exact DI) only [↓PR,QR,simprocAttr]
 exact known_c4 hE ((E15.trans eD).trans e16)
theorem known_ret {w0:World} (hE:EnvOK w0):Ret Pg 9 #[] w0 fun r w'=>r = .bool true∧Ext w0 w':=by
 refine n6s (R:=retR _) ?_;unfold n6
 simp (disch:=try exact DI) only [↓PR,QR,simprocAttr]
 refine zcr (evals_Eval (allocV w0 [(sN,5),(sM,3)]) 11 0 _ [(sN,5),(sM,3)] (vals_new w0 VT _ (by decide)) (by decide)) fun w1 e1=>?_
 rw [decide_eq_true ex1]
 have E1:=(allocV_ext w0 [(sN,5),(sM,3)]).trans e1
 clear e1
 unfold n6c25
 simp (disch:=try exact DI) only [↓PR,QR,simprocAttr]
 refine zcr (evals_Eval (allocV w1 [(sN,5)]) 0 9 _ [(sN,5)] (vals_new w1 VT _ (by decide)) (by decide)) fun w2 e2=>?_
 rw [decide_eq_true ex2]
 have E2:=(E1.trans (allocV_ext w1 [(sN,5)])).trans e2
 clear e2 E1
 simp (disch:=try exact DI) only [↓PR,QR,simprocAttr,↓n6c24,↓n6c23]
 refine zcr (evals_Eval (allocV w2 [(sN,-1),(sM,0)]) 0 2 _ [(sN,-1),(sM,0)] (vals_new w2 VT _ (by decide)) (by decide)) fun w3 e3=>?_
 rw [decide_eq_true ex3]
 have E3:=(E2.trans (allocV_ext w2 [(sN,-1),(sM,0)])).trans e3
 clear e3 E2
 simp (disch:=try exact DI) only [↓PR,QR,simprocAttr,↓n6c22,↓n6c21]
 refine zcr (evals_Length (allocV w3 [(sN,0),(sM,5)]) 0 3 _ [(sN,0),(sM,5)] (vals_new w3 VT _ (by decide)) (by decide)) fun w4 e4=>?_
 rw [decide_eq_true ex4]
 have E4:=(E3.trans (allocV_ext w3 [(sN,0),(sM,5)])).trans e4
 clear e4 E3
 simp (disch:=try exact DI) only [↓PR,QR,simprocAttr]
 refine callK_ret (given_ret w4) ?_
 rintro v5 w5 ⟨hs5,e5⟩
 have E5:=E4.trans e5
 clear e5 E4
 exact known_c20 hE E5 hs5
def n3c1 (t66 t70:Value) (R:RT) (w:World):Prop :=
 pickK t66 t70 (.bool false) fun t71 =>
 joinK (fun (t73:Value) (w:World) =>
 pickK t71 t73 (.bool false) fun t74 =>
 R (.returned t74) w) fun K5 =>
 guardP t71 true (
 callK Pg 9 #[] (panK R) w fun t73 w =>
 K5 t73 w) (
 K5 undef w)
def n3c2 (t41 t53 t61 t65:Value) (R:RT) (w:World):Prop :=
 pickK t61 t65 (.bool false) fun t66 =>
 joinK (fun (t70:Value) (w:World) =>
 n3c1 t66 t70 R w) fun K4 =>
 guardP t66 true (
 opV Pg (binS .eql 3 false t41 t53) (panK R) w fun t70 w =>
 K4 t70 w) (
 K4 undef w)
def n3c3 (t40 t41 t52 t53 t56 t60:Value) (R:RT) (w:World):Prop :=
 pickK t56 t60 (.bool false) fun t61 =>
 joinK (fun (t65:Value) (w:World) =>
 n3c2 t41 t53 t61 t65 R w) fun K3 =>
 guardP t61 true (
 opV Pg (binS .eql 3 false t40 t52) (panK R) w fun t65 w =>
 K3 t65 w) (
 K3 undef w)
def n3c4 (t34 t35 t40 t41 t46 t47 t51:Value) (R:RT) (w:World):Prop :=
 opV Pg (Instr.extract t51 0) (panK R) w fun t52 w =>
 opV Pg (Instr.extract t51 1) (panK R) w fun t53 w =>
 opV Pg (binS .eql 3 false t34 t46) (panK R) w fun t56 w =>
 joinK (fun (t60:Value) (w:World) =>
 n3c3 t40 t41 t52 t53 t56 t60 R w) fun K2 =>
 guardP t56 true (
 opV Pg (binS .eql 3 false t35 t47) (panK R) w fun t60 w =>
 K2 t60 w) (
 K2 undef w)
def n3c5 (t2 t29 t34 t35 t40 t41 t45:Value) (R:RT) (w:World):Prop :=
 opV Pg (Instr.extract t45 0) (panK R) w fun t46 w =>
 opV Pg (Instr.extract t45 1) (panK R) w fun t47 w =>
 opV Pg (Instr.loadAt 24 t2) (panK R) w fun t49 w =>
 callK Pg 19 #[t49,t29] (panK R) w fun t51 w =>
 n3c4 t34 t35 t40 t41 t46 t47 t51 R w
def n3c6 (t2 t29 t34 t35 t39:Value) (R:RT) (w:World):Prop :=
 opV Pg (Instr.extract t39 0) (panK R) w fun t40 w =>
 opV Pg (Instr.extract t39 1) (panK R) w fun t41 w =>
 opV Pg (Instr.loadAt 24 t2) (panK R) w fun t43 w =>
 callK Pg 18 #[t43,t29] (panK R) w fun t45 w =>
 n3c5 t2 t29 t34 t35 t40 t41 t45 R w
def n3c7 (t2 t28 t29 t33:Value) (R:RT) (w:World):Prop :=
 opV Pg (Instr.extract t33 0) (panK R) w fun t34 w =>
 opV Pg (Instr.extract t33 1) (panK R) w fun t35 w =>
 opV Pg (Instr.loadAt 24 t2) (panK R) w fun t37 w =>
 callK Pg 17 #[t37,t28] (panK R) w fun t39 w =>
 n3c6 t2 t29 t34 t35 t39 R w
def n3c8 (t2 t27:Value) (R:RT) (w:World):Prop :=
 opV Pg (Instr.extract t27 0) (panK R) w fun t28 w =>
 opV Pg (Instr.extract t27 1) (panK R) w fun t29 w =>
 opV Pg (Instr.loadAt 24 t2) (panK R) w fun t31 w =>
 callK Pg 16 #[t31,t28] (panK R) w fun t33 w =>
 n3c7 t2 t28 t29 t33 R w
def n3c9 (t1 t2 t18 t22:Value) (R:RT) (w:World):Prop :=
 pickK t18 (.bool true) t22 fun t23 =>
 condP t23 (
 callK Pg 9 #[] (panK R) w fun t24 w =>
 R (.returned t24) w) (
 callK Pg 15 #[t1] (panK R) w fun t27 w =>
 n3c8 t2 t27 R w)
def n3 (t0 t1:Value) (R:RT) (w:World):Prop :=
 opV Pg (Instr.box 24 t0) (panK R) w fun t2 w =>
 opV Pg (Instr.fieldAt 24 t2 1) (panK R) w fun t15 w =>
 opV Pg (Instr.loadAt 22 t15) (panK R) w fun t16 w =>
 opV Pg (Builtin.len_ #[22] 3 #[t16]) (panK R) w fun t17 w =>
 opV Pg (binS .gtr 3 true t17 (.int .i64 10)) (panK R) w fun t18 w =>
 joinK (fun (t22:Value) (w:World) =>
 n3c9 t1 t2 t18 t22 R w) fun K1 =>
 guardP t18 false (
 opV Pg (Builtin.len_ #[34] 3 #[t1]) (panK R) w fun t21 w =>
 opV Pg (binS .gtr 3 true t21 (.int .i64 12)) (panK R) w fun t22 w =>
 K1 t22 w) (
 K1 undef w)
theorem n3s {t0 t1:Value} {R:RT} {w:World} (h:n3 t0 t1 R w):Calls Pg 4 #[t0,t1] w R:=by
 refine yD Tryz.func4 ?_
 refine zs<|zr<|yv h fun _ w h=>zm<|zn<|zk<|zs<|zs<|sim_regionG<|yG 5<|yv h fun _ w h=>yv h fun _ w h=>yx h fun _ w h=>yb h fun _ w h=>zm ?_
 refine zn<|yg1 3 4 false [20,21,22] 22 h (fun _ T hT h=>?_) fun σ w h=>?_
 · refine zm<|yx h fun _ w h=>yb h fun _ w h=>zn ?_
   exact zt hT h
 refine yG 1<|yp h fun _ h=>zn<|sim_end<|zk<|yC h (fun h=>zs<|zr<|yc h c9 fun _ w h=>zm<|zn<|zk<|sim_ret<|sim_then_ret<|body_ret1 rfl rfl h) fun h=>sim_skip<|zk<|zs<|zr<|zm<|yc h c15 fun _ w h=>zm<|yv h fun _ w h=>?_
 refine yv h fun _ w h=>zm<|zm<|zn<|zk<|zs<|zr<|yv h fun _ w h=>zm<|yc h c16 fun _ w h=>zm<|yv h fun _ w h=>yv h fun _ w h=>zm<|zm ?_
 refine zn<|zk<|zs<|zr<|yv h fun _ w h=>zm<|yc h c17 fun _ w h=>zm<|yv h fun _ w h=>yv h fun _ w h=>zm<|zm<|zn<|zk<|zs ?_
 refine zr<|yv h fun _ w h=>zm<|yc h c18 fun _ w h=>zm<|yv h fun _ w h=>yv h fun _ w h=>zm<|zm<|zn<|zk<|zs<|zr<|yv h fun _ w h=>zm ?_
 refine yc h c19 fun _ w h=>zm<|yv h fun _ w h=>yv h fun _ w h=>zm<|zm<|zn<|zk<|zs<|sim_regionG<|yG 4<|zm<|zm<|yb h fun _ w h=>zm ?_
 refine zn<|yg1 3 3 true [58,59,60] 60 h (fun _ T hT h=>?_) fun σ w h=>?_
 · refine zm<|zm<|yb h fun _ w h=>zn ?_
   exact zt hT h
 refine yG 2<|yp h fun _ h=>zm<|zn<|yg1 3 8 true [63,64,65] 65 h (fun _ T hT h=>?_) fun σ w h=>?_
 · refine zm<|zm<|yb h fun _ w h=>zn ?_
   exact zt hT h
 refine yG 2<|yp h fun _ h=>zm<|zn<|yg1 3 13 true [68,69,70] 70 h (fun _ T hT h=>?_) fun σ w h=>?_
 · refine zm<|zm<|yb h fun _ w h=>zn ?_
   exact zt hT h
 refine yG 2<|yp h fun _ h=>zm<|zn<|yg1 1 18 true [73] 73 h (fun _ T hT h=>?_) fun σ w h=>?_
 · refine yc h c9 fun _ w h=>zn ?_
   exact zt hT h
 exact yG 2<|yp h fun _ h=>zm<|zn<|sim_end<|zk<|sim_ret<|body_ret1 rfl rfl h
theorem SizeEvals_ret (W:World) (v0 v1:Value) (base:Int) (ts:List TermD) (vp:List (ByteArray×Int)) (hs:SizeVal W v0 base ts) (hV:ValsOf W v1 vp) (hE:EnvOK W) :
 Ret Pg 4 #[v0,v1] W fun r w'=>r = .bool true∧Ext W w':=by
 obtain ⟨tv,rfl,hT⟩:=hs
 have hV0:=hV
 obtain ⟨A,c,rfl,_,_,_,_⟩:=SliceOf.open hT
 obtain ⟨A1,c1,rfl,_,_,_,_⟩:=SliceOf.open hV
 refine n3s (R:=retR _) ?_;unfold n3
 simp (disch:=try exact DI) only [↓PR,QR,simprocAttr]
 generalize hW:World.alloc W _=D
 have e0:Ext W D:=by rw [← hW];exact ee
 have o2:D.heap[W.heap.size]?=some (.cells #[.int .i64 base,.slice A ts.length c] TSz (0,0)):=by rw [← hW];simp (disch:=try exact DI) only [↓PR,QR,simprocAttr]
 clear hW
 by_cases hbig:ts.length > 10∨vp.length > 12
 · have known:callK Pg 9 #[] (panK (retR fun r w'=>r = .bool true∧Ext W w')) D fun t24 w=>(retR fun r w'=>r = .bool true∧Ext W w') (.returned t24) w:=by
    refine zcr (known_ret (hE.ext e0)) fun w1 e1=>?_
    exact ⟨_,rfl,rfl,e0.trans e1⟩
   by_cases h1:ts.length > 10
   · have d1:decide ((ts.length:Int) > 10)=true:=decide_eq_true (by omega)
     simp (disch:=try exact DI) only [↓PR,QR,simprocAttr,(cells_of_heap o2).1,d1,↓n3c9]
     exact known
   · have d1:decide ((ts.length:Int) > 10)=false:=decide_eq_false (by omega)
     have d2:decide ((vp.length:Int) > 12)=true:=decide_eq_true (by omega)
     simp (disch:=try exact DI) only [↓PR,QR,simprocAttr,(cells_of_heap o2).1,d1,d2,↓n3c9]
     exact known
 · have d1:decide ((ts.length:Int) > 10)=false:=decide_eq_false (by omega)
   have d2:decide ((vp.length:Int) > 12)=false:=decide_eq_false (by omega)
   simp (disch:=try exact DI) only [↓PR,QR,simprocAttr,(cells_of_heap o2).1,d1,d2,↓n3c9]
   refine callK_ret (values_ret D _ vp (hV0.ext e0) (by omega)) ?_
   rintro _ w1 ⟨⟨m,rv,rfl,hm,hrv⟩,e1⟩
   have o3:=e1.obj o2
   have E1:=e0.trans e1
   clear o2 e1 e0
   unfold n3c8
   simp (disch:=try exact DI) only [↓PR,QR,simprocAttr,(cells_of_heap o3).1]
   refine zcr (Eval_ret w1 _ base ts m vp ⟨_,rfl,TermsOf.ext hT E1⟩ (by omega) hm) fun w2 e2=>?_
   have o4:=e2.obj o3
   unfold n3c7
   simp (disch:=try exact DI) only [↓PR,QR,simprocAttr,(cells_of_heap o4).1]
   refine zcr (Length_ret w2 _ base ts m vp ⟨_,rfl,(TermsOf.ext hT E1).ext e2⟩ (by omega) (hm.ext e2)) fun w3 e3=>?_
   have o5:=e3.obj o4
   have e23:=e2.trans e3
   unfold n3c6
   simp (disch:=try exact DI) only [↓PR,QR,simprocAttr,(cells_of_heap o5).1]
   refine zcr (rEval_ret w3 _ rv base ts vp ⟨_,rfl,(TermsOf.ext hT E1).ext e23⟩ (hrv.ext e23)) fun w4 e4=>?_
   have o6:=e4.obj o5
   have e24:=e23.trans e4
   unfold n3c5
   simp (disch:=try exact DI) only [↓PR,QR,simprocAttr,(cells_of_heap o6).1]
   refine zcr (rLength_ret w4 _ rv base ts vp ⟨_,rfl,(TermsOf.ext hT E1).ext e24⟩ (hrv.ext e24)) fun w5 e5=>?_
   have E5:=(E1.trans e24).trans e5
   have self:∀ n:Int,(n == n)=true:=fun n=>by simp
   simp (disch:=try exact DI) only [↓PR,QR,simprocAttr,↓n3c1,↓n3c2,↓n3c3,↓n3c4,↓n3c5,↓n3c6,↓n3c7,↓n3c8,↓n3c9,self]
   refine zcr (known_ret (hE.ext E5)) fun w6 e6=>?_
   simp (disch:=try exact DI) only [↓PR,QR,simprocAttr]
   exact ⟨trivial,E5.trans e6⟩
end Go.Proofs.YtpgkjhikdhdffaaGreatDoor
namespace Go.Sw
open Go.ChangeShapes Go.WideShapes Go.RowKit Go.ChangeAt Go.Deep
theorem list_of {α:Type} {p:Nat→α→Prop}:∀ (n:Nat),(∀ i,i < n→∃ x,p i x)→∃ l:List α,l.length=n∧∀ k x,l[k]?=some x→p k x
 | 0,_=>⟨[],rfl,fun k x h=>by simp at h⟩
 | n+1,h=>by
  obtain ⟨l,hl,hp⟩:=list_of n (fun i hi=>h i (by omega))
  obtain ⟨x,hx⟩:=h n (by omega)
  refine ⟨l++[x],by simp [hl],fun k y hy=>?_⟩
  rw [List.getElem?_append] at hy
  split at hy
  · exact hp k y hy
  · have hk:k=n:=by
     have:=(List.getElem?_eq_some_iff.1 hy).1
     simp at this
     omega
    subst hk
    simp [hl] at hy
    subst hy
    exact hx
section
variable {H:Type} {enc:TypeId×Value→H} {P:Program} {w:World} {base:Nat} {spare:Nat→Bool} {held:Bool}
theorem weightsAll_mem {e:TypeId} {m:Nat} {d:DataW H}:∀ {l:List (DataW H)},d∈l→m∈d.weights P e→m∈DataW.weightsAll P e l
 | [],h,_=>by cases h
 | a::l,h,hm=>by
  rw [DataW.weightsAll,List.mem_append]
  rcases List.mem_cons.1 h with rfl | h
  · exact .inl hm
  · exact .inr (weightsAll_mem h hm)
def Reached (P:Program) (t:TypeId) (d:DataW H):Prop:=∀ m∈d.weights P t,m≤reachBytes
theorem reached_of {ts:List TypeId} {ds:List (DataW H)} (h:(DataW.weightsEach P ts ds).all (· ≤ reachBytes)=true) {j:Nat} {t:TypeId} {d:DataW H} (ht:ts[j]?=some t) (hd:ds[j]?=some d):Reached P t d:=fun m hm=>by
 have:=List.all_eq_true.1 h _ (DataW.weights_mem_each ht hd m hm)
 simpa using this
theorem slice_of_trod {α:Type} {E:World→List Value→α→Prop} {Q:α→Prop} {t e:TypeId} {n fuel:Nat} {cs:List Value} {x:DataW H×List MemPlace} (ht:P.underlying t=some (.slice e)) (hn:P.cellsOf e=n) (hb1:1≤P.bytesOf e) (h0:0 < n)
 (hE:∀ m cs' y,DataW.trod enc P w base spare held m e cs'=some y→Reached P e y.1→∃ x,E w cs' x∧Q x) (h:DataW.trod enc P w base spare held fuel t cs=some x) (hr:Reached P t x.1):∃ v l,cs=[v]∧SliceOf w n E v l∧(∀ x∈l,Q x)∧l.length≤140737488355328:=by
 rcases open_slice ht h with ⟨rfl,_⟩ | ⟨a,len,cap,m,k,D,Pl,rfl,hb,hl,hm,hmm,hx,hel⟩
 · exact ⟨_,[],rfl,SliceOf.nil _ _ _,fun x hx=>by (cases hx),Nat.zero_le _⟩
 · have hlm:len≤m:=by rw [hmm];split<;>omega
   subst hx
   have hw0:=hr ((len+(m - len))*P.bytesOf e) (by simp only [DataW.weights,ht];simp)
   have hlen:len≤140737488355328:=by
    have:len*1≤(len+(m - len))*P.bytesOf e:=Nat.mul_le_mul (by omega) hb1
    simp only [reachBytes] at hw0
    omega
   have hD:∀ i,i < len→Reached P e (D i):=fun i hi q hq=>hr q (by
    simp only [DataW.weights,ht,List.mem_cons,List.mem_append]
    exact .inr (.inl (weightsAll_mem (List.mem_map.2 ⟨i,List.mem_range.2 hi,rfl⟩) hq)))
   obtain ⟨l,hll,hp⟩:=list_of (p:=fun i (x:α)=>∃ cs',w.cells? base (a.add (i*n)) n=some cs'∧E w cs' x∧Q x) len (fun i hi=>by
    obtain ⟨cs',h1,h2⟩:=hel i (by omega)
    rw [hn] at h1
    obtain ⟨x,hx⟩:=hE _ _ _ h2 (hD i hi)
    exact ⟨x,cs',h1,hx⟩)
   refine ⟨_,l,rfl,⟨some a,cap,by rw [hll],by rw [hll];exact hl,by simp only [maxLen] at hm;omega,fun hne=>?_⟩,fun x hx=>?_,by omega⟩
   · obtain ⟨b,o,spot⟩:=a
     have hspot:spot=none:=by
      have:0 < l.length:=List.length_pos_iff.2 hne
      obtain ⟨y,hy⟩:=getElem?_lt this
      obtain ⟨cs',h1,_⟩:=hp 0 y hy
      obtain ⟨_,h2,h3⟩:=World.cells?_some h1
      have h4:=h3 0 h0
      rw [List.getElem?_eq_getElem (by omega)] at h4
      simpa [Addr.add] using World.cell?_spot h4
     subst hspot
     refine ⟨b,o,rfl,fun k x hx=>?_⟩
     obtain ⟨cs',h1,h2,_⟩:=hp k x hx
     obtain ⟨_,h3,h4⟩:=World.cells?_some h1
     refine ⟨cs',h3,fun j v hv=>?_,h2⟩
     have h5:=h4 j (by have:=(List.getElem?_eq_some_iff.1 hv).1;omega)
     rw [hv] at h5
     simpa [Addr.add_lit] using h5
   · obtain ⟨k,hk⟩:=List.getElem?_of_mem hx
     obtain ⟨_,_,_,hq⟩:=hp k x hk
     exact hq
theorem struct_of_trod {fs:Array Field} {t:TypeId} {n fuel:Nat} {cs:List Value} {x:DataW H×List MemPlace} (ht:P.underlying t=some (.struct fs)) (hn:P.cellsOf t=n) (h:DataW.trod enc P w base spare held fuel t cs=some x) (hr:Reached P t x.1) :
 cs.length=n∧∃ m,∀ (i:Nat) (ty off k:Nat),(fs[i]?).map (fun f=>(f.type,f.offset))=some (ty,off)→P.cellsOf ty=k→∃ y,DataW.trod enc P w base spare held m ty ((cs.drop off).take k)=some y∧Reached P ty y.1:=by
 obtain ⟨xs,m,_,rfl,hl,hlen,hf⟩:=DataW.trod_struct ht h
 refine ⟨hl.trans hn,m,fun i ty off k hi hk=>?_⟩
 obtain ⟨f,hfi,he⟩:=Option.map_eq_some_iff.1 hi
 injection he with h1 h2
 subst h1 h2 hk
 have hil:i < xs.length:=by rw [hlen];exact (Array.getElem?_eq_some_iff.1 hfi).1
 refine ⟨xs[i],(hf i f hfi).trans (List.getElem?_eq_getElem hil),fun q hq=>hr q ?_⟩
 simp only [DataW.weights,ht]
 refine DataW.weights_mem_each (j:=i) (t:=f.type) (d:=xs[i].1) ?_ ?_ q hq
 · rw [List.getElem?_map,Array.getElem?_toList,hfi];rfl
 · rw [List.getElem?_map,List.getElem?_eq_getElem hil];rfl
theorem trodAll_stays (hl:laidOutB P=true) {W W':World} (he:Ext W W'):∀ {ts:List TypeId} {vs:List Value} {ds:List (DataW H)} {ps:List MemPlace},(∀ t∈ts,P.readableRec t=true∧t < P.types.size)→(∀ x∈ps,x.block < W.heap.size) →
 DataW.TrodAll enc P W 0 (fun _=>true) true ts vs ds ps→DataW.TrodAll enc P W' 0 (fun b=>decide (b < W.heap.size)) true ts vs ds ps
 | [],_,_,_,_,_,h=>by obtain ⟨rfl,rfl,rfl⟩:=trodAll_nil h;exact trodAll_mk0
 | t::ts,_,_,_,hr,hlt,h=>by
  obtain ⟨v,vs1,d,ds1,a,b,rfl,rfl,rfl,h1,h2⟩:=trodAll_cons h
  refine ⟨a,b,?_,trodAll_stays hl he (fun t ht=>hr t (List.mem_cons_of_mem _ ht)) (fun x hx=>hlt x (List.mem_append_right _ hx)) h2,rfl⟩
  exact Below.trod hl (hr t (List.mem_cons_self ..)).1 (hr t (List.mem_cons_self ..)).2 h1 ⟨he.os,he.tape,he.output,he.size,he.block⟩ (fun x hx=>hlt x (List.mem_append_left _ hx))
theorem law_post {f:Func} {s:ChangeSpec} {W W':World} {args:Array Value} {ds gs:List (DataW H)} {before:List MemPlace} {tb:TypeId} (hl:laidOutB P=true) (hr:∀ t∈f.params.toList,P.readableRec t=true∧t < P.types.size) (hs:s.vars=[])
 (hW:DataW.Whole enc P f.params.toList s.vars false W args.toList ds gs before) (he:Ext W W') (hres:f.resultTypes = #[tb]) (htb:P.underlying tb=some .bool) (hfn:(s.fn H ds).results=[.lit (.bool true)]) (hargs:(s.fn H ds).args=ds) (hvars:(s.fn H ds).vars=[]) :
 s.post enc P f false true false false W args (.bool true) W':=by
 have hW':=hW
 obtain ⟨p,q,hA,hV,rfl,_,_⟩:=hW
 rw [hs] at hV
 obtain ⟨rfl,rfl⟩:=trodVars_none hV
 have hlt:∀ x∈p,x.block < W.heap.size:=fun x hx=>hW'.lt x (by simpa using hx)
 rw [List.append_nil] at hW'
 refine ⟨ds,[],p,[],p,[],hW',?_,?_,?_,Below.frame ⟨he.os,he.tape,he.output,he.size,he.block⟩ _,fun h=>by cases h⟩
 · rw [List.append_nil,hfn,hres]
   exact trodAll_mk1 (shut_bool htb _)
 · rw [List.append_nil,hargs]
   exact trodAll_stays hl he hr hlt hA
 · rw [List.append_nil,hvars,hs]
   exact rfl
end
end Go.Sw
namespace Go.Proofs.YtpgkjhikdhdffaaGreatDoor
open Sw
open Go.RowKit Go.Deep
def role_laid:List (String×DataW Unit):=[("math/bits.deBruijn32tab", Rows.laid_math_bits_deBruijn32tab),("math/bits.deBruijn64tab", Rows.laid_math_bits_deBruijn64tab),("internal/strconv.uint64pow10", Rows.laid_internal_strconv_uint64pow10),("strconv.ErrRange", Rows.laid_strconv_ErrRange),("strconv.ErrSyntax", Rows.laid_strconv_ErrSyntax)]
theorem role_own:ownKnob Pg.godebug=none:=by kernel_rfl
theorem role_laidOut:laidOutB Pg=true:=by kernel_rfl
theorem role_met (os:Os) (args:Array Value):laidMetH Pg role_laid ((World.laidAll Pg os role_laid).forCall (fun _ _=>0) ⟨#[],args,[]⟩).memory:=by
 rw [MakeChecks.laidMetH_plain _ _ _ (by kernel_rfl)]
 exact laidMet_laidAll _ (by kernel_rfl) (by kernel_rfl)
theorem role_tab {W:World} (h:laidMetH Pg role_laid W):TabOK W:=by
 rw [MakeChecks.laidMetH_plain _ _ _ (by kernel_rfl)] at h
 have h3:=laidMet.tail (laidMet.tail h)
 have he:(Rows.laid_internal_strconv_uint64pow10:DataW Unit)=Go.Lib.tabData .u64 Go.Lib.pow10Tab:=by kernel_rfl
 rw [he] at h3
 obtain ⟨g,hg⟩:=Option.isSome_iff_exists.1 gPow
 have hty:(Pg.globals[g]?).map (·.type)=some 178:=by
  have h1:(Pg.globalNamed "internal/strconv.uint64pow10").bind (fun g=>(Pg.globals[g]?).map (·.type))=some 178:=by kernel_rfl
  rw [hg] at h1
  exact h1
 exact Go.Lib.tabIs_of_head hg hty Tryz.underlying178 Tryz.underlying146 (by kernel_rfl) (by kernel_rfl) h3
theorem role_star : "*" ++ "errors.errorString" = "*errors.errorString" := by decide
theorem role_rowErr (u:TypeId) (h:Pg.typeName? 3 u=some "*errors.errorString"):u=166 :=
 typeName_ptr_named (nm := "errors.errorString") (by rw [role_star];kernel_rfl) (by kernel_rfl) (by decide) u (by rw [role_star];exact h)
theorem role_env {W:World} (hs:W.ShapedOpen Pg) (h:laidMetH Pg role_laid W):EnvOK W:=by
 refine ⟨role_tab h,Go.Proofs.cell_of_shapedOpen_int (k := .i64) hs (of_decide_eq_true (by kernel_rfl)) (zero := #[.int .i64 0]) (t:=3) (by kernel_rfl) rfl (by kernel_rfl) (by kernel_rfl) Tryz.underlying3,?_,?_⟩
 · rw [MakeChecks.laidMetH_plain _ _ _ (by kernel_rfl)] at h
   have h5:=h.tail.tail.tail.tail
   obtain ⟨a,s,hv,_⟩:=laid_sentinel (g:=1) h5 (by kernel_rfl) (by kernel_rfl) Tryz.underlying107 role_rowErr Tryz.underlying166 Tryz.underlying168 rfl rfl Tryz.underlying9 (by kernel_rfl) (by kernel_rfl)
   refine ⟨_,by rw [World.var?_cell (show Pg.globalNamed "strconv.ErrSyntax" = some 1 by kernel_rfl) hv 0];rfl,.inr ⟨_,_,rfl⟩⟩
 · rw [MakeChecks.laidMetH_plain _ _ _ (by kernel_rfl)] at h
   have h5:=h.tail.tail.tail
   obtain ⟨a,s,hv,_⟩:=laid_sentinel (g:=2) h5 (by kernel_rfl) (by kernel_rfl) Tryz.underlying107 role_rowErr Tryz.underlying166 Tryz.underlying168 rfl rfl Tryz.underlying9 (by kernel_rfl) (by kernel_rfl)
   refine ⟨_,by rw [World.var?_cell (show Pg.globalNamed "strconv.ErrRange" = some 2 by kernel_rfl) hv 0];rfl,.inr ⟨_,_,rfl⟩⟩
theorem handed_and {H:Type} {enc:TypeId×Value→H} {a:Assume} {C:Checked} {os:Os} {f:FuncId} {fn:Func} {s:ChangeSpec} {conds:List PathCond} {apart fresh handsOn again:Bool} {X:World→Array Value→Prop}
 (hX:∀ (w w':World) (args:Array Value),w.heap=w'.heap→X w args→X w' args)
 (own:ownKnob C.prog.godebug=none) (started:os.Started) (noInit:C.prog.inits.idxOf? f=none) (hfn:C.prog.funcs[f]?=some fn)
 (witness:∃ (w:World) (tape:Tape) (i:Input),w.os=os∧(w.forCall tape i).Shaped C.prog∧i.vars=[]∧Input.okWide C.prog (w.forCall tape i) .any w.heap.size f i ∧
  ((s.pre enc C.prog fn conds apart (w.forCall tape i).memory i.args∧X (w.forCall tape i).memory i.args)∧sizedMet enc C.prog fn (OpenSpec.ofChange s) apart (w.forCall tape i).memory i.args)∧a.holds C.prog (lone (Frame.enter C.prog f i.args .normal) [] (w.forCall tape i)))
 (contract:∀ (W:World) (base:Nat) (args:Array Value) (ds gs:List (DataW H)) (before:List MemPlace),
  (∀ (j:Nat) t v,fn.params[j]?=some t→args[j]?=some v→Value.okWide C.prog W .any base t v) →
  DataW.Whole enc C.prog fn.params.toList s.vars apart W args.toList ds gs before →
  conds.all (PathCond.test C.prog ⟨fn.params.toList,ds,s.plain.varTypes C.prog,gs⟩)=true →
  (DataW.weightsEach C.prog (fn.params.toList++s.plain.varTypes C.prog) (ds++gs)).all (· ≤ reachBytes)=true→X W args→W.ShapedOpen C.prog →
  a.holds C.prog (lone (Frame.enter C.prog f args .normal) [] W) →
  Calls C.prog f args W fun e W'=>∃ v,e = .returned v∧s.post enc C.prog fn apart fresh handsOn again W args v W') :
 ReturnsInHanded a C os f .any (fun w args=>(s.pre enc C.prog fn conds apart w args∧X w args)∧sizedMet enc C.prog fn (OpenSpec.ofChange s) apart w args) (s.post enc C.prog fn apart fresh handsOn again):=by
 refine returnsInHanded_of_calls own started noInit witness ?_
 intro w tape i _ hsh _ hok hpre hholds
 obtain ⟨_,_,_,fn',hfn',_,_,_,_,hval⟩:=hok
 have e:fn'=fn:=Option.some.inj (hfn'.symm.trans hfn)
 subst e
 obtain ⟨⟨⟨ds,gs,before,hw,hc⟩,hx⟩,hz⟩:=hpre
 have hw':=DataW.Whole.of_heap (w':=w.forCall tape i) (by rfl) hw
 refine (contract (w.forCall tape i) w.heap.size i.args ds gs before hval hw' hc (hz.weights hw) (hX _ _ _ (by rfl) hx) hsh hholds).mono fun e W' ⟨v,he,hp⟩=>?_
 subst he
 exact ChangeSpec.post_blind hp
open Go.ChangeShapes Go.WideShapes Go.ChangeAt
theorem cellsTerm:Pg.cellsOf 32=2:=by kernel_rfl
theorem cellsSize:Pg.cellsOf 24=2:=by kernel_rfl
theorem cellsString:Pg.cellsOf 9=1:=by kernel_rfl
theorem cellsInt:Pg.cellsOf 3=1:=by kernel_rfl
theorem cellsTerms:Pg.cellsOf 22=1:=by kernel_rfl
theorem bytesTerm:1≤Pg.bytesOf 32:=Nat.le_of_ble_eq_true (by kernel_rfl)
theorem cellsVal:Pg.cellsOf 78=2:=by kernel_rfl
theorem bytesVal:1≤Pg.bytesOf 78:=Nat.le_of_ble_eq_true (by kernel_rfl)
section
variable {H:Type} {enc:TypeId×Value→H} {w:World} {base:Nat} {spare:Nat→Bool} {held:Bool}
theorem term_of {m:Nat} {cs:List Value} {y:DataW H×List MemPlace} (h:DataW.trod enc Pg w base spare held m 32 cs=some y) (hr:Reached Pg 32 y.1):∃ x,ETerm w cs x:=by
 obtain ⟨hl,n,hf⟩:=struct_of_trod Tryz.underlying32 cellsTerm h hr
 obtain ⟨y0,h0,r0⟩:=hf 0 9 0 1 rfl cellsString
 obtain ⟨y1,h1,r1⟩:=hf 1 3 1 1 rfl cellsInt
 match cs,hl with
 | [c0,c1],_ =>
  obtain ⟨s,e0,_⟩:=DataW.trod_string Tryz.underlying9 h0
  obtain ⟨k,e1,_⟩:=DataW.trod_int Tryz.underlying3 h1
  simp at e0 e1
  subst e0 e1
  exact ⟨⟨s,k⟩,rfl⟩
theorem size_of {m:Nat} {cs:List Value} {y:DataW H×List MemPlace} (h:DataW.trod enc Pg w base spare held m 24 cs=some y) (hr:Reached Pg 24 y.1):∃ b tv ts,cs=[.int .i64 b,tv]∧TermsOf w tv ts∧ts.length≤140737488355328:=by
 obtain ⟨hl,n,hf⟩:=struct_of_trod Tryz.underlying24 cellsSize h hr
 obtain ⟨y0,h0,r0⟩:=hf 0 3 0 1 rfl cellsInt
 obtain ⟨y1,h1,r1⟩:=hf 1 22 1 1 rfl cellsTerms
 match cs,hl with
 | [c0,c1],_ =>
  obtain ⟨a,e0,_⟩:=DataW.trod_int Tryz.underlying3 h0
  obtain ⟨v,l,e1,hS,_,hL⟩:=slice_of_trod (E:=ETerm) (Q:=fun _=>True) Tryz.underlying22 cellsTerm bytesTerm (by decide) (fun _ _ _ h hr=>let ⟨x,hx⟩:=term_of h hr; ⟨x,hx,trivial⟩) h1 r1
  simp at e0 e1
  subst e0 e1
  exact ⟨a,_,l,rfl,hS,hL⟩
theorem val_of {m:Nat} {cs:List Value} {y:DataW H×List MemPlace} (h:DataW.trod enc Pg w base spare held m 78 cs=some y) (hr:Reached Pg 78 y.1):∃ x,EVal w cs x:=by
 obtain ⟨hl,n,hf⟩:=struct_of_trod Tryz.underlying78 cellsVal h hr
 obtain ⟨y0,h0,r0⟩:=hf 0 9 0 1 rfl cellsString
 obtain ⟨y1,h1,r1⟩:=hf 1 3 1 1 rfl cellsInt
 match cs,hl with
 | [c0,c1],_ =>
  obtain ⟨s,e0,_⟩:=DataW.trod_string Tryz.underlying9 h0
  obtain ⟨k,e1,_⟩:=DataW.trod_int Tryz.underlying3 h1
  simp at e0 e1
  subst e0 e1
  exact ⟨⟨s,k⟩,rfl⟩
theorem siz_val {r:Reach} {b0:Nat} {v:Value} {d:DataW H} {ps:List MemPlace} (hval:Value.okWide Pg w r b0 24 v) (h:DataW.Trod enc Pg w base spare held 24 v d ps) (hr:Reached Pg 24 d):∃ f:Int×List TermD,SizeVal w v f.1 f.2∧True:=by
 obtain ⟨cs,rfl,_⟩:=okWide_struct Tryz.underlying24 hval
 obtain ⟨fuel,hf⟩:=h
 obtain ⟨b,tv,ts,h1,h2,_⟩:=size_of hf hr
 exact ⟨(b,ts),⟨tv,congrArg Value.agg (by rw [← Array.toArray_toList (xs := #[.int .i64 b,tv]),← h1,cells_agg]),h2⟩,trivial⟩
theorem vals_val {r:Reach} {b0:Nat} {v:Value} {d:DataW H} {ps:List MemPlace} (hval:Value.okWide Pg w r b0 34 v) (h:DataW.Trod enc Pg w base spare held 34 v d ps) (hr:Reached Pg 34 d):∃ f:List (ByteArray×Int),ValsOf w v f∧True:=by
 obtain ⟨a,len,cap,rfl⟩:=okWide_slice Tryz.underlying34 hval
 obtain ⟨fuel,hf⟩:=h
 obtain ⟨v',l,e1,hS,_,_⟩:=slice_of_trod (E:=EVal) (Q:=fun _=>True) Tryz.underlying34 cellsVal bytesVal (by decide) (fun _ _ _ h hr=>let ⟨x,hx⟩:=val_of h hr; ⟨x,hx,trivial⟩) hf hr
 have e2:[Value.slice a len cap]=[v']:=e1
 injection e2 with e2 _
 subst e2
 exact ⟨l,hS,trivial⟩
end
theorem SizeEvals_at (W:World) (v0:Value) (f0:Int×List TermD) (v1:Value) (f1:List (ByteArray×Int)) (h0:SizeVal W v0 f0.1 f0.2) (_:True) (h1:ValsOf W v1 f1) (_:True) (hE:EnvOK W):Ret Pg 4 #[v0,v1] W fun r w'=>r = .bool true∧Ext W w':=SizeEvals_ret W v0 v1 f0.1 f0.2 f1 h0 h1 hE
end Go.Proofs.YtpgkjhikdhdffaaGreatDoor
namespace Go.Proofs.YtpgkjhikdhdffaaGreatDoor
open Sw
open Go.ChangeShapes Go.WideShapes Go.RowKit Go.ChangeAt Go.Deep
theorem zevals_lifted (os:Os) (started:os.Started) (H:Type) (enc:TypeId×Value→H) :
 ReturnsInHanded {} Tryz.checked os 4 .any (fun w args=>(Rows.sizeEvalsSpec.pre enc Pg Tryz.f4 Rows.sizeEvalsRow.domain false w args∧laidMetH Pg role_laid w)∧sizedMet enc Pg Tryz.f4 (OpenSpec.ofChange Rows.sizeEvalsSpec) false w args) (Rows.sizeEvalsSpec.post enc Pg Tryz.f4 false true false false):=by
 refine handed_and (C:=Tryz.checked) (X:=fun w _=>laidMetH Pg role_laid w) (fun _ _ _ hh h=>h.of_heap hh) role_own started (by kernel_rfl) Tryz.func4
  (ChangeSpec.witness_shaped (enc:=enc) (C:=Tryz.checked) (os:=os) (X:=fun w _=>laidMetH Pg role_laid w) false (World.laidAll Pg os role_laid) #[.agg #[.int .i64 0,.slice none 0 0],.slice none 0 0] 8 (World.laidAll_os _ _ _) (World.shaped_of_ZipB (by kernel_rfl) (by kernel_rfl)) (by kernel_rfl) (by kernel_rfl) (by kernel_rfl) (role_met os _)) ?_
 intro W base args ds gs before hval hW _ hsz hL hsh _
 have hW':=hW
 obtain ⟨p,q,hA0,hV,rfl,_,_⟩:=hW
 have hA:DataW.TrodAll enc Pg W 0 (fun _=>true) true Tryz.f4.params.toList args.toList ds p:=hA0
 rw [Tryz.params4] at hA hval hsz
 obtain ⟨v0,vs0,d0,ds0,p0,q0,ha0,rfl,rfl,h0,r0⟩:=trodAll_cons hA
 obtain ⟨v1,vs1,d1,ds1,p1,q1,ha1,rfl,rfl,h1,r1⟩:=trodAll_cons r0
 obtain ⟨rfl,rfl,rfl⟩:=trodAll_nil r1
 subst ha1
 obtain rfl:args = #[v0,v1]:=by cases args;simp_all
 obtain ⟨f0,hf0,hs0⟩:=siz_val (hval 0 _ v0 rfl rfl) h0 (reached_of (j:=0) hsz rfl rfl)
 obtain ⟨f1,hf1,hs1⟩:=vals_val (hval 1 _ v1 rfl rfl) h1 (reached_of (j:=1) hsz rfl rfl)
 refine Calls.mono (SizeEvals_at W v0 f0 v1 f1 hf0 hs0 hf1 hs1 (role_env hsh hL)) fun e W' ⟨v,he,hv,hx⟩=>?_
 subst he hv
 exact ⟨_,rfl,law_post role_laidOut (by decide +kernel) rfl hW' hx rfl Tryz.underlying4 rfl rfl rfl⟩
theorem zevals_holds:Rows.SizeEvalsSaid :=
 OpenClaim.holds_of_wide 4 Tryz.f4 rfl rfl rfl rfl rfl rfl rfl ⟨rfl,rfl,rfl,rfl,rfl⟩ rfl rfl rfl rfl rfl (by kernel_rfl) Tryz.func4 (by kernel_rfl)
  (of_decide_eq_true (by kernel_rfl)) (by unfold Func.isWrapper;first | (rw [if_pos (by decide +kernel)];kernel_rfl) | (rw [if_neg (by decide +kernel)];exact ⟨rfl,rfl⟩))
  (fun os started H enc _=>zevals_lifted os started H enc)
theorem zevals_card:Rows.SizeEvalsCardSaid :=
 Claim7.holds_tied_plain_at .later [] [.data,.data,.data,.sentinel,.sentinel] true (true, "b28e11fa6ee41b26e56fb3f3301f1cebdb04d4d8f758d2c888fe09ee37c1016c") true
  zevals_holds (fun _ h=>by cases h) (by kernel_rfl) (fun _ h=>by cases h) sizeEvals_row_tie rfl ⟨rfl,rfl⟩ (by kernel_rfl) rfl
  (fun f fn hf hfn=>by
   obtain rfl:f=4:=Option.some.inj ((show Pg.funcNamed "phrasebook/phrasebooklaw04.SizeEvals" = some 4 by kernel_rfl).symm.trans hf) |>.symm
   obtain rfl:fn=Tryz.f4:=(Option.some.inj (Tryz.func4.symm.trans hfn)).symm
   exact ⟨by kernel_rfl,fun j t ht=>by
    rw [Tryz.params4] at ht
    have hm:t∈[24,34]:=by simpa using Array.mem_of_getElem? ht
    have hall:([24,34].all fun u=>!Pg.wantsStandIn u)=true:=by kernel_rfl
    exact (show Pg.wantsStandIn t=false by simpa using List.all_eq_true.1 hall t hm)⟩)
  (by kernel_rfl)
end Go.Proofs.YtpgkjhikdhdffaaGreatDoor
