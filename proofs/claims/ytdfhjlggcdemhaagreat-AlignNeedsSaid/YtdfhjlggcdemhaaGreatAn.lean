/-
  phrasebooklaw14.AlignNeeds returns true for every kind, either order of bytes and every number of bits, and leaves its arguments as they were; no condition is asked.
-/
import Derived.Test.YtdfhjlggcdemhaaGreatAn4
set_option linter.all false
set_option maxHeartbeats 4000000
set_option maxRecDepth 100000
namespace Go.Proofs.YtdfhjlggcdemhaaGreat
open Sw
open Go.RowKit (intOf Below)
theorem pads_true (w0:World) (n p want no:Int) (h:padP n p=(want,no)):Ret Pg 48 #[.int .i64 n,.int .i64 p,.int .i64 want,.int .i64 no] w0 fun r w'=>r = .bool true∧Ext w0 w':=by
 refine n28s (R:=retR _) ?_;unfold n28
 refine zcr (Padding_ret n p) fun w1 e1=>?_
 rw [h]
 have d1:(want == want)=true:=by simp
 have d2:(no == no)=true:=by simp
 unfold n28c1
 simp (disch:=try exact DI) only [↓PR,QR,simprocAttr,d1,d2]
 exact ⟨by trivial,e1⟩
theorem known14_ret (w0:World):Ret Pg 15 #[] w0 fun r w'=>r = .bool true∧Ext w0 w':=by
 have hcg:calm (gD gF):=calm_g gF_plain (by decide)
 have hc1:calm (gD (gL 1)):=calm_g (by decide) (by decide)
 have hc2:calm (gD (gL 2)):=calm_g (by decide) (by decide)
 have hE:msgE (gD gF) 0=0:=by decide +kernel
 have hL:msgL (gD gF) 0=gF:=by decide +kernel
 have f1:flawedA (gD (gL 1))=true:=by unfold flawedA;rw [al_1];rfl
 have f2:flawedA (gD (gL 2))=true:=by unfold flawedA;rw [al_2];rfl
 have fg:flawedA (gD gF)=false:=by unfold flawedA;rw [al_g];rfl
 refine n26s (R:=retR _) ?_;unfold n26
 refine callK_ret (given_ret _) ?_
 rintro _ w1 ⟨bf1,bm1,rfl,_,_,_,hO1,hm1,e1⟩
 refine zcr (End_ret _ (gD gF) 0 (one_def hm1 (own_fields hO1 gF_plain)) hcg) fun w2 e2=>?_
 rw [hE,hL,en_g]
 unfold n26c17
 simp (disch:=try exact DI) only [↓PR,QR,simprocAttr]
 refine callK_ret (given_ret _) ?_
 rintro _ w3 ⟨bf3,bm3,rfl,_,_,_,hO3,hm3,e3⟩
 refine zcr (Fixed_ret _ (gD gF) 0 (one_def hm3 (own_fields hO3 gF_plain)) hcg) fun w4 e4=>?_
 rw [hE,hL,fx_g]
 have E4:=e1.trans (e2.trans (e3.trans e4))
 unfold n26c16
 simp (disch:=try exact DI) only [↓PR,QR,simprocAttr]
 refine callK_ret (less_ret _ 1 (.inl rfl)) ?_
 rintro v5 w5 ⟨hd5,e5⟩
 refine zcr (alCheck_ret _ v5 _ hd5 hc1) fun w6 e6=>?_
 rw [al_1,f1]
 have E6:=E4.trans (e5.trans e6)
 unfold n26c15
 simp (disch:=try exact DI) only [↓PR,QR,simprocAttr]
 have eX:Ext w6 (w6.alloc (.cells #[.int .i64 0,.int .i64 2,.int .i64 12] 29)):=ee
 have oX:=heap_new w6 #[.int .i64 0,.int .i64 2,.int .i64 12] 29
 generalize (w6.alloc (.cells #[.int .i64 0,.int .i64 2,.int .i64 12] 29))=X at eX oX ⊢
 refine callK_ret (less_ret _ 2 (.inr rfl)) ?_
 rintro v7 w7 ⟨hd7,e7⟩
 refine zcr (alCheck_ret _ v7 _ hd7 hc2) fun w8 e8=>?_
 rw [al_2,f2]
 unfold n26c14
 simp (disch:=try exact DI) only [↓PR,QR,simprocAttr]
 simp only [World.size_setCell,World.size_alloc]
 generalize hY:World.alloc (World.alloc w8 _) _=Y
 have eY:Ext w8 Y:=by rw [← hY];exact ee
 have o7:Y.heap[w8.heap.size]?=some (.cells #[.int .i64 0,.int .i64 2,.int .i64 12] 29 (0,0)):=by rw [← hY];simp (disch:=try exact DI) only [↓PR,QR,simprocAttr]
 have o9:Y.heap[w8.heap.size+1]?=some (.cells #[.int .i64 0,.int .i64 2,.int .i64 12] 29 (0,0)):=by rw [← hY];simp (disch:=try exact DI) only [↓PR,QR,simprocAttr]
 clear hY
 have x5:=(e7.trans (e8.trans eY)).obj oX
 have E9:=E6.trans (eX.trans (e7.trans (e8.trans eY)))
 clear e7 e8 eY hd7 hd5 e5 e6 oX eX E4 E6 hO1 hO3 hm1 hm3 e1 e2 e3 e4
 generalize w8.heap.size=p7 at o7 o9 ⊢
 generalize w6.heap.size=p5 at x5 ⊢
 refine callK_ret (given_ret _) ?_
 rintro _ w10 ⟨bf,bm,rfl,_,_,_,hO,hm,e10⟩
 unfold n26c13
 simp (disch:=try exact DI) only [↓PR,QR,simprocAttr]
 have hS:=SliceOf.new1 (E:=EInt) (fun n=>Value.int .i64 n) (fun _ _=>rfl) w10 [0,3,4,0] 3 (by decide)
 have eZ:Ext w10 (w10.alloc (.cells (([0,3,4,0]:List Int).map (fun n=>Value.int .i64 n)).toArray 3)):=ee
 refine zcr (yields_ret (w10.alloc (.cells (([0,3,4,0]:List Int).map (fun n=>Value.int .i64 n)).toArray 3)) _ (gD gF) 0 9 _ ((one_def hm (own_fields hO gF_plain)).ext eZ) hcg (by rw [hL,of_g];exact hS)) fun w11 e11=>?_
 have E11:=E9.trans (e10.trans (eZ.trans e11))
 have y5:=(e10.trans (eZ.trans e11)).obj x5
 have y7:=(e10.trans (eZ.trans e11)).obj o7
 have y9:=(e10.trans (eZ.trans e11)).obj o9
 clear e10 eZ e11 x5 o7 o9 hO hm hS E9
 simp (disch:=try exact DI) only [↓PR,QR,simprocAttr,↓n26c12,↓n26c11,↓n26c10,↓n26c9,↓n26c8]
 refine callK_ret (given_ret _) ?_
 rintro _ w12 ⟨bf2,bm2,rfl,_,_,_,hO,hm,e12⟩
 refine zcr (Aligned_ret _ (gD gF) (one_def hm (own_fields hO gF_plain)) hcg) fun w13 e13=>?_
 rw [fg]
 have z5:=(e12.trans e13).obj y5
 have z7:=(e12.trans e13).obj y7
 have z9:=(e12.trans e13).obj y9
 have E13:=E11.trans (e12.trans e13)
 simp (disch:=try exact DI) only [↓PR,QR,simprocAttr,↓n26c7,↓n26c6,↓n26c5,↓n26c4,(cells_of_heap z5).1,(cells_of_heap z7).1,(cells_of_heap z9).1]
 refine zcr (pads_true _ 4 3 1 0 (by decide +kernel)) fun w14 e14=>?_
 simp (disch:=try exact DI) only [↓PR,QR,simprocAttr,↓n26c3]
 refine zcr (pads_true _ 16 24 8 0 (by decide +kernel)) fun w15 e15=>?_
 simp (disch:=try exact DI) only [↓PR,QR,simprocAttr,↓n26c2]
 refine zcr (pads_true _ 8 8 0 0 (by decide +kernel)) fun w16 e16=>?_
 simp (disch:=try exact DI) only [↓PR,QR,simprocAttr,↓n26c1]
 refine zcr (pads_true _ 3 0 0 2 (by decide +kernel)) fun w17 e17=>?_
 simp (disch:=try exact DI) only [↓PR,QR,simprocAttr]
 exact ⟨by trivial,E13.trans (e14.trans (e15.trans (e16.trans e17)))⟩
end Go.Proofs.YtdfhjlggcdemhaaGreat
namespace Go.Proofs.YtdfhjlggcdemhaaGreat
open Sw
def n24c1 (t13 t15:Value) (C1:World→Prop) (R:RT) (w:World):Prop :=
 qV Pg C1 (binS .eql 4 false t13 t15) fun t16 =>
 joinK (fun (t18:Value) (w:World) =>
 pickK t16 t18 (.bool false) fun t19 =>
 R (.returned t19) w) fun K2 =>
 guardP t16 true (
 C0 15 #[] R w fun t18 w =>
 C1 w∧(
 K2 t18 w)) (
 K2 undef w)
def n24c2 (t7:Value) (C1:World→Prop) (R:RT) (w:World):Prop :=
 qV Pg C1 (Instr.loadAt 38 t7) fun t12 =>
 qV Pg C1 (Instr.loadAt 38 t7) fun t14 =>
 C0 19 #[t12] R w fun t13 w =>
 C1 w∧(
 C0 20 #[t14] R w fun t15 w =>
 C1 w∧(
 n24c1 t13 t15 C1 R w))
def n24 (t0 t1 t2:Value) (R:RT) (w:World):Prop :=
 opV Pg (Instr.build 38 #[(1,t0),(3,t1),(2,t2)]) (panK R) w fun t11 w =>
 opV Pg (Instr.alloc 38 true (.tuple #[])) (panK R) w fun t7 w =>
 opU Pg (Instr.storeAt 38 t7 t11) (panK R) w fun w =>
 drawK w fun C1 w =>
 n24c2 t7 C1 R w
theorem n24s {t0 t1 t2:Value} {R:RT} {w:World} (h:n24 t0 t1 t2 R w):Calls Pg 4 #[t0,t1,t2] w R:=by
 refine yD Tryz.func4 ?_
 refine zs<|zr<|zm<|zn<|zk<|zs<|zr<|zm<|zm<|zm<|yB h fun _ w h=>yv h fun _ w h=>yu h fun w h=>zn<|zk ?_
 refine zs<|yh [6,12,13,14,15,16,17,18,19] h fun C hC h=>ye 0 hC h fun _ h=>?_
 refine ye 2 hC h fun _ h=>?_
 refine yo 1 ?_
 refine yc h c19 fun _ w h=>zn ?_
 obtain ⟨hC,h⟩:=h
 refine ⟨hC,?_⟩
 refine yo 3 ?_
 refine yc h c20 fun _ w h=>zn ?_
 obtain ⟨hC,h⟩:=h
 refine ⟨hC,?_⟩
 refine ye 4 hC h fun _ h=>?_
 refine yw 5 hC ?_
 refine yj1 2 [6,5,4,3,1,2,0] [18] 18 h (fun _ hT hb h=>?_) (fun _ hT hb h=>?_) fun σ w hC h=>?_
 · refine yo 6 ?_
   refine yc h c15 fun _ w h=>zn ?_
   obtain ⟨hC,h⟩:=h
   refine ⟨hC,?_⟩
   exact yt hT hC h
 · refine yi 6 hC ?_
   exact yt hT hC h
 refine yP 7 hC h fun _ h=>?_
 refine yw 8 hC ?_
 exact yz<|zk<|sim_ret<|body_ret1 rfl rfl h
end Go.Proofs.YtdfhjlggcdemhaaGreat
namespace Go.Proofs.YtdfhjlggcdemhaaGreat
open Sw
open Go.RowKit (intOf Below)
theorem beq_refl_bool (b:Bool):(b == b)=true:=by cases b<;>rfl
theorem AlignNeeds_ret (w0:World) (kind:Int) (little:Bool) (bits:Int):Ret Pg 4 #[.int .i64 kind,.bool little,.int .i64 bits] w0 fun r w'=>r = .bool true∧Ext w0 w':=by
 refine n24s (R:=retR _) ?_;unfold n24
 simp (disch:=try exact DI) only [↓PR,QR,simprocAttr]
 have hf:∀ w,FieldVal w (.agg (encP { zeroF with kind:=kind,little:=little,bits:=bits }).toArray) { zeroF with kind:=kind,little:=little,bits:=bits }:=fun w=>⟨_,_,rfl,SliceOf.nil _ _ _,SliceOf.nil _ _ _⟩
 have eX:Ext w0 (w0.alloc (.cells (encP { zeroF with kind:=kind,little:=little,bits:=bits }).toArray 38)):=ee
 have oX:=heap_new w0 (encP { zeroF with kind:=kind,little:=little,bits:=bits }).toArray 38
 refine drawK_intro ?_
 unfold n24c2
 simp (disch:=try exact DI) only [↓PR,QR,simprocAttr]
 refine zcr (Needs_ret _ _ _ (hf _)) fun w1 e1=>?_
 refine ⟨e1,?_⟩
 refine zcr (rNeeds_ret _ _ _ (hf _)) fun w2 e2=>?_
 refine ⟨e1.trans e2,?_⟩
 unfold n24c1
 simp (disch:=try exact DI) only [↓PR,QR,simprocAttr,beq_refl_bool]
 refine zcr (known14_ret _) fun w3 e3=>?_
 refine ⟨e1.trans (e2.trans e3),?_⟩
 simp (disch:=try exact DI) only [↓PR,QR,simprocAttr,beq_refl_bool]
 exact ⟨by trivial,(eX.wdrew).trans (e1.trans (e2.trans e3))⟩
end Go.Proofs.YtdfhjlggcdemhaaGreat
namespace Go.Proofs.YtdfhjlggcdemhaaGreat
open Sw
open Go.ChangeShapes Go.WideShapes Go.RowKit Go.ChangeAt Go.Deep
theorem aneeds_own:ownKnob Pg.godebug=none:=by kernel_rfl
theorem aneeds_laidOut:laidOutB Pg=true:=by kernel_rfl
theorem aneeds_lifted (os:Os) (started:os.Started) (H:Type) (enc:TypeId×Value→H) :
 ReturnsInHanded {} Tryz.checked os 4 .any (Rows.alignNeedsSpec.pre6 enc Pg Tryz.f4 Rows.alignNeedsRow.domain false) (Rows.alignNeedsSpec.post enc Pg Tryz.f4 false true false false):=by
 refine returnsInHanded_of_change_sized (C:=Tryz.checked) aneeds_own started (by kernel_rfl) Tryz.func4
  (ChangeSpec.witness6 (enc:=enc) (C:=Tryz.checked) false ⟨#[],#[.int .i64 0,.bool false,.int .i64 0],[]⟩ 8 (by kernel_rfl) (by kernel_rfl) (by kernel_rfl) (by kernel_rfl)) ?_
 intro W base args ds gs before hval hW _ hsz _
 have hW':=hW
 obtain ⟨p,q,hA0,hV,rfl,_,_⟩:=hW
 have hA:DataW.TrodAll enc Pg W 0 (fun _=>true) true Tryz.f4.params.toList args.toList ds p:=hA0
 rw [Tryz.params4] at hA hval hsz
 obtain ⟨v0,vs0,d0,ds0,p0,q0,ha0,rfl,rfl,h0,r0⟩:=trodAll_cons hA
 obtain ⟨v1,vs1,d1,ds1,p1,q1,ha1,rfl,rfl,h1,r1⟩:=trodAll_cons r0
 obtain ⟨v2,vs2,d2,ds2,p2,q2,ha2,rfl,rfl,h2,r2⟩:=trodAll_cons r1
 obtain ⟨rfl,rfl,rfl⟩:=trodAll_nil r2
 subst ha2 ha1
 obtain rfl:args = #[v0,v1,v2]:=by cases args;simp_all
 obtain ⟨n0,rfl,_,_,hw0⟩:=open_int Tryz.underlying3 (hval 0 _ v0 rfl rfl) h0
 obtain ⟨n1,rfl,_⟩:=open_bool Tryz.underlying4 (hval 1 _ v1 rfl rfl) h1
 obtain ⟨n2,rfl,_,_,hw2⟩:=open_int Tryz.underlying3 (hval 2 _ v2 rfl rfl) h2
 refine Calls.mono (AlignNeeds_ret W n0 n1 n2 ) fun e W' ⟨v,he,hv,hx⟩=>?_
 subst he hv
 exact ⟨_,rfl,law_post aneeds_laidOut (by decide +kernel) rfl hW' hx rfl Tryz.underlying4 rfl rfl rfl⟩
theorem aneeds_holds:Rows.AlignNeedsSaid :=
 OpenClaim.holds_of_wide 4 Tryz.f4 rfl rfl rfl rfl rfl rfl rfl ⟨rfl,rfl,rfl,rfl,rfl⟩ rfl rfl rfl rfl rfl (by kernel_rfl) Tryz.func4 (by kernel_rfl)
  (of_decide_eq_true (by kernel_rfl)) (by unfold Func.isWrapper;first | (rw [if_pos (by decide +kernel)];kernel_rfl) | (rw [if_neg (by decide +kernel)];exact ⟨rfl,rfl⟩))
  (fun os started H enc _=>aneeds_lifted os started H enc)
end Go.Proofs.YtdfhjlggcdemhaaGreat
