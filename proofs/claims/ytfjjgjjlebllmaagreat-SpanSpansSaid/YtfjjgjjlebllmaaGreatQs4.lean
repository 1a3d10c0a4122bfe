/-
  Lemmas for the claim.
-/
import Derived.Test.YtfjjgjjlebllmaaGreatQs3
set_option linter.all false
set_option maxHeartbeats 4000000
set_option maxRecDepth 100000
open Go.Instr (loadAt storeAt fieldAt indexAt buildSlice mapUpdate makeFunc)
open Go.Proofs.Tryz
namespace Go.Proofs.YtfjjgjjlebllmaaGreat
open Sw
def Zbd (a b c:Vl) (R:RT) (w:Wd):Prop:=
 F0 219 c 1 R w λ d w=>
 L0 217 d R w λ e w=>
 L0 48 b R w λ f w=>
 XB Pg e #[a,f] (Zh R) w λ g w=>
 R (.returned (.tuple #[])) w
def Zbe (b a c d:Vl) (R:RT) (w:Wd):Prop:=
 L0 48 d R w λ e w=>
 F0 48 a 0 R w λ f w=>
 L0 9 f R w λ g w=>
 F0 48 a 1 R w λ h w=>
 L0 42 h R w λ i w=>
 opV Pg (Instr.build 48 #[(0,g),(1,i)]) (Zh R) w λ j w=>
 C0 66 #[e,j] R w λ k w=>
 C0 122 #[b,k,(.int .i64 5)] R w λ l w=>
 Zbd b a c R w
def Fu (d b c:Vl) (R:RT) (w:Wd):Prop:=
 L0 48 b R w λ e w=>
 opV Pg (Instr.alloc 48 true (.tuple #[])) (Zh R) w λ a w=>
 S0 48 a e R w λ w=>
 F0 219 c 0 R w λ f w=>
 L0 216 f R w λ g w=>
 XB Pg g #[a] (Zh R) w λ h w=>
 Zbe d b c a R w
def Zbf (d e:Vl) (a:WPr) (f:KW) (R:RT) (w:Wd):Prop:=
 qV Pg a (Instr.lookup 221 d e true) λ b=>
 qV Pg a (Instr.extract b 0) λ g=>
 qV Pg a (Instr.extract b 1) λ h=>
 opV Pg (Instr.alloc 219 true (.tuple #[])) (Zh R) w λ c w=>
 a w∧(
 S0 219 c g R w λ w=>
 a w∧(
 f h c w))
def LK (b d e:Vl) (a:WPr) (f:KW) (R:RT) (w:Wd):Prop:=
 qV Pg a (Instr.lookup 221 d e true) λ c=>
 qV Pg a (Instr.extract c 0) λ g=>
 qV Pg a (Instr.extract c 1) λ h=>
 S0 219 b g R w λ w=>
 a w∧(
 f h b w)
def Zbg (d e:Vl) (a:WPr) (R:RT) (w:Wd):Prop:=
 J0 48 e 1 a λ h=>
 I0 42 h a λ f=>
 Zr (λ (i:Vl) (b:Vl) (w:Wd)=>
 C0 122 #[d,i,(.int .i64 4)] R w λ l w=>
 Fu d e b R w) λ g=>
 (
 C0 185 #[] R w λ c w=>
 Wz a w λ j w=>
 Zbf c f j g R w)∧(
 opV Pg (Instr.alloc 219 true (.tuple #[])) (Zh R) w λ b w=>
 a w∧(
 C0 185 #[] R w λ c w=>
 Wz a w λ k w=>
 LK b c f k g R w))
def Zbh (a d b:Vl) (c:WPr) (R:RT) (w:Wd):Prop:=
 qV Pg c (Instr.extract b 0) λ h=>
 qV Pg c (Instr.extract b 1) λ e=>
 N0 e R w λ f w=>
 C0 122 #[a,f,(.int .i64 2)] R w λ i w=>
 Yy w λ g w=>
 Zbg a d g R w
def Zbi (b c:Vl) (a:WPr) (R:RT) (w:Wd):Prop:=
 J0 48 c 0 a λ d=>
 I0 9 d a λ e=>
 C0 184 #[b] R w λ f w=>
 a w∧(
 qV Pg a (Instr.build 24 #[(1,f)]) λ g=>
 C0 82 #[g,e] R w λ h w=>
 a w∧(
 Zbh b c h a R w))
def n68 (a c:Vl) (R:RT) (w:Wd):Prop:=
 opV Pg (Instr.box 48 c) (Zh R) w λ b w=>
 F0 48 b 0 R w λ d w=>
 L0 9 d R w λ e w=>
 C0 123 #[e] R w λ f w=>
 C0 122 #[a,f,(.int .i64 1)] R w λ h w=>
 Yy w λ g w=>
 Zbi a b g R w
theorem ZiM {t0 t1:Vl} {R:RT} {w:Wd} (h:n68 t0 t1 R w):Calls Pg 160 #[t0,t1] w R:=by
 refine yD func160 ?_
 refine zs<|zr<|yv h λ _ w h=>zn<|zk<|zs<|zr<|zm<|yv h λ _ w h=>yv h λ _ w h=>yc h SO λ _ w h=>yc h UZ λ _ w h=>zn<|zk<|zs ?_
 refine yh [4,5,13,14,15,16,17,18,19,20,21] h λ C hC h=>yw 0 hC ?_
 refine ye 3 hC h λ _ h=>?_
 refine ye 4 hC h λ _ h=>?_
 refine yo 1 ?_
 refine yc h Mx λ _ w h=>zn ?_
 obtain ⟨hC,h⟩:=h
 refine ⟨hC,?_⟩
 refine ye 2 hC h λ _ h=>?_
 refine yo 5 ?_
 refine yc h c82 λ _ w h=>zn ?_
 obtain ⟨hC,h⟩:=h
 refine ⟨hC,?_⟩
 refine yw 6 hC ?_
 refine ye 7 hC h λ _ h=>?_
 refine ye 8 hC h λ _ h=>?_
 refine yw 9 hC ?_
 refine yw 10 hC ?_
 refine yz<|zk<|zs<|zr<|zm<|zm<|yv h λ _ w h=>yc h UZ λ _ w h=>zn<|zk<|zs<|yh [5,6,26,27,28,29,30,31,32] h λ C hC h=>ye 1 hC h λ _ h=>?_
 refine ye 2 hC h λ _ h=>?_
 refine VR h (λ K3 hK h=>?_)
 refine UF [5,6,26,27,30,31,32] (λ ρ w=>K3 (ρ 5) (ρ 6) w) (λ T hT=>?_) (λ σ w h=>?_)
 · obtain ⟨h0,h1⟩:=h
   refine QV 0 7 rfl rfl (by kernel_rfl) (λ _ _=>rfl) (λ _ _=>rfl) ?_ ?_
   · have h:=h0
     refine yc h Zc1 λ _ w h=>zn ?_
     obtain ⟨C4,hs,hC,h⟩:=h
     refine ⟨C4,hs,hC,?_⟩
     refine ye 3 hC h λ _ h=>?_
     refine yw 4 hC ?_
     refine ye 5 hC h λ _ h=>?_
     refine ye 6 hC h λ _ h=>?_
     refine yo 7 ?_
     refine yv h λ _ w h=>zn ?_
     obtain ⟨hC,h⟩:=h
     refine ⟨hC,?_⟩
     refine yo 8 ?_
     refine yu h λ w h=>zn ?_
     obtain ⟨hC,h⟩:=h
     refine ⟨hC,?_⟩
     refine yw 9 hC ?_
     refine yz ?_
     exact zt hT h
   have h:=h1
   refine yv h λ _ w h=>zn ?_
   obtain ⟨hC,h⟩:=h
   refine ⟨_,λ _ h=>h,hC,?_⟩
   refine yr 0 ?_
   refine yc h Zc1 λ _ w h=>zn ?_
   obtain ⟨C5,hs,hC,h⟩:=h
   refine ⟨C5,hs,hC,?_⟩
   refine ye 3 hC h λ _ h=>?_
   refine yw 4 hC ?_
   refine ye 5 hC h λ _ h=>?_
   refine ye 6 hC h λ _ h=>?_
   refine yo 8 ?_
   refine yu h λ w h=>zn ?_
   obtain ⟨hC,h⟩:=h
   refine ⟨hC,?_⟩
   refine yw 9 hC ?_
   refine yz ?_
   exact zt hT h
 subst hK
 refine zk<|zs<|zr<|zm<|zm<|yc h UZ λ _ w h=>zn<|zk<|zs<|zr<|yv h λ _ w h=>yv h λ _ w h=>yu h λ w h=>zn<|zk ?_
 refine zs<|zr<|yv h λ _ w h=>yv h λ _ w h=>yV h λ _ w h=>zn<|zk<|zs<|zr<|zm<|yv h λ _ w h=>yv h λ _ w h=>yv h λ _ w h=>yv h λ _ w h=>yv h λ _ w h=>?_
 exact yB h λ _ w h=>yc h c66 λ _ w h=>yc h UZ λ _ w h=>zn<|zk<|zr<|yv h λ _ w h=>yv h λ _ w h=>zm<|yv h λ _ w h=>yV h λ _ w h=>zn<|ZU<|Z1 rfl h
def Zfj (b:Vl) (R:RT) (w:Wd):Prop:=
 opV Pg (Instr.box 48 b) (Zh R) w λ c w=>
 opV Pg (Instr.alloc 74 true (.tuple #[])) (Zh R) w λ a w=>
 F0 48 c 2 R w λ d w=>
 L0 3 d R w λ e w=>
 C0 102 #[e] R w λ f w=>
 S0 74 a f R w λ w=>
 qW Pg 74 a w λ r0=>
 R (.returned r0) w
theorem Zfk {t0:Vl} {R:RT} {w:Wd} (h:Zfj t0 R w):Calls Pg 161 #[t0] w R:=by
 refine yD func161 ?_
 refine zs<|zr<|yv h λ _ w h=>yv h λ _ w h=>zn<|zk<|zs<|zr<|yv h λ _ w h=>yv h λ _ w h=>yc h Ex λ _ w h=>yu h λ w h=>zn<|zk<|Ze ?_
 exact Ya rfl rfl h
def Dz (d a b:Vl) (R:RT) (w:Wd):Prop:=
 F0 48 d 4 R w λ e w=>
 L0 4 e R w λ f w=>
 Zr (λ (w:Wd)=>
 L0 74 b R w λ g w=>
 S0 74 a g R w λ w=>
 qW Pg 74 a w λ r0=>
 R (.returned r0) w) λ c=>
 Zq f (
 F0 74 b 1 R w λ h w=>
 opU Pg (storeAt 3 h (.int .i64 40)) (Zh R) w λ w=>
 c w) (
 c w)
def Pt (d e:Vl) (b:WPr) (f:KV) (R:RT) (w:Wd):Prop:=
 (
 Yt Pg 101 #[d,e,(.func (.func 186) #[] #[])] (Zh R) w λ c w=>
 b w∧(
 opV Pg (Instr.alloc 74 true (.tuple #[])) (Zh R) w λ a w=>
 b w∧(
 S0 74 a c R w λ w=>
 Xt w λ g w=>
 f a w)))∧(
 opV Pg (Instr.alloc 74 true (.tuple #[])) (Zh R) w λ a w=>
 b w∧(
 Yt Pg 101 #[d,e,(.func (.func 186) #[] #[])] (Zh R) w λ c w=>
 b w∧(
 S0 74 a c R w λ w=>
 Xt w λ h w=>
 f a w)))
def Pu (a c d:Vl) (b:WPr) (e:KV) (R:RT) (w:Wd):Prop:=
 b w∧(
 Yt Pg 101 #[c,d,(.func (.func 186) #[] #[])] (Zh R) w λ f w=>
 b w∧(
 S0 74 a f R w λ w=>
 Xt w λ g w=>
 e a w))
def Pv (b g:Vl) (a:WPr) (R:RT) (w:Wd):Prop:=
 J0 48 b 5 a λ h=>
 I0 3 h a λ i=>
 J0 48 b 6 a λ j=>
 I0 3 j a λ k=>
 qV Pg a (Instr.build 74 #[(0,i),(1,k)]) λ e=>
 Zr (λ (c:Vl) (w:Wd)=>
 Dz b g c R w) λ f=>
 (
 C0 102 #[(.int .i64 8)] R w λ d w=>
 a w∧(
 Pt e d a f R w))∧(
 opV Pg (Instr.alloc 74 true (.tuple #[])) (Zh R) w λ c w=>
 a w∧(
 C0 102 #[(.int .i64 8)] R w λ d w=>
 Pu c e d a f R w))
def Zfd (a b:Vl) (R:RT) (w:Wd):Prop:=
 opV Pg (Instr.box 124 a) (Zh R) w λ f w=>
 opV Pg (Instr.box 48 b) (Zh R) w λ c w=>
 opV Pg (Instr.alloc 74 true (.tuple #[])) (Zh R) w λ d w=>
 Yy w λ e w=>
 Pv c d e R w
theorem Zfe {t0 t1:Vl} {R:RT} {w:Wd} (h:Zfd t0 t1 R w):Calls Pg 162 #[t0,t1] w R:=by
 refine yD func162 ?_
 refine zs<|zr<|yv h λ _ w h=>yv h λ _ w h=>yv h λ _ w h=>zn<|zk<|zs<|yh [5,6,7,8,9,10,11,12] h λ C hC h=>ye 0 hC h λ _ h=>?_
 refine ye 1 hC h λ _ h=>?_
 refine ye 2 hC h λ _ h=>?_
 refine ye 3 hC h λ _ h=>?_
 refine ye 4 hC h λ _ h=>?_
 refine VR h (λ K2 hK h=>?_)
 refine UF [5,11,12] (λ ρ w=>K2 (ρ 5) w) (λ T hT=>?_) (λ σ w h=>?_)
 · obtain ⟨h0,h1⟩:=h
   refine QV 5 7 rfl rfl (by kernel_rfl) (λ _ _=>rfl) (λ _ _=>rfl) ?_ ?_
   · have h:=h0
     refine yc h Ex λ _ w h=>zn ?_
     obtain ⟨hC,h⟩:=h
     refine ⟨_,λ _ h=>h,hC,?_⟩
     obtain ⟨h0,h1⟩:=h
     refine QV 6 7 rfl rfl (by kernel_rfl) (λ _ _=>rfl) (λ _ _=>rfl) ?_ ?_
     · have h:=h0
       refine yc h Ew λ _ w h=>zn ?_
       obtain ⟨hC,h⟩:=h
       refine ⟨_,λ _ h=>h,hC,?_⟩
       refine yo 7 ?_
       refine yv h λ _ w h=>zn ?_
       obtain ⟨hC,h⟩:=h
       refine ⟨hC,?_⟩
       refine yq 8 1 ?_
       refine yu h λ w h=>zn ?_
       obtain ⟨C4,hC,h⟩:=h
       refine ⟨C4,hC,?_⟩
       refine yz ?_
       exact zt hT h
     have h:=h1
     refine yv h λ _ w h=>zn ?_
     obtain ⟨hC,h⟩:=h
     refine ⟨_,λ _ h=>h,hC,?_⟩
     refine yo 6 ?_
     refine yc h Ew λ _ w h=>zn ?_
     obtain ⟨hC,h⟩:=h
     refine ⟨hC,?_⟩
     refine yq 8 1 ?_
     refine yu h λ w h=>zn ?_
     obtain ⟨C5,hC,h⟩:=h
     refine ⟨C5,hC,?_⟩
     refine yz ?_
     exact zt hT h
   have h:=h1
   refine yv h λ _ w h=>zn ?_
   obtain ⟨hC,h⟩:=h
   refine ⟨_,λ _ h=>h,hC,?_⟩
   refine yo 5 ?_
   refine yc h Ex λ _ w h=>zn ?_
   obtain ⟨hC,h⟩:=h
   refine ⟨hC,?_⟩
   refine yo 6 ?_
   refine yc h Ew λ _ w h=>zn ?_
   obtain ⟨hC,h⟩:=h
   refine ⟨hC,?_⟩
   refine yq 8 1 ?_
   refine yu h λ w h=>zn ?_
   obtain ⟨C6,hC,h⟩:=h
   refine ⟨C6,hC,?_⟩
   refine yz ?_
   exact zt hT h
 subst hK
 refine zk<|zs<|zs<|zr<|yv h λ _ w h=>yv h λ _ w h=>zn<|zk<|yJ0 [15] h (λ _ _ hkK3 h=>?_) λ σ w h=>?_
 · refine yC h (λ h=>?_) λ h=>?_
   · refine zr<|yv h λ _ w h=>yu h λ w h=>zn<|zk ?_
     exact zt hkK3 h
   refine Zi<|zk ?_
   exact zt hkK3 h
 exact zk<|zs<|zr<|yv h λ _ w h=>yu h λ w h=>zn<|zk<|Ze<|Ya rfl rfl h
def Pc (a b c:Vl) (R:RT) (w:Wd):Prop:=
 Yt Pg 101 #[b,c,(.func (.func 189) #[] #[])] (Zh R) w λ d w=>
 S0 74 a d R w λ w=>
 qW Pg 74 a w λ r0=>
 R (.returned r0) w
def Ze5 (a b:Vl) (R:RT) (w:Wd):Prop:=
 opV Pg (Instr.box 124 a) (Zh R) w λ c w=>
 opV Pg (Instr.box 48 b) (Zh R) w λ d w=>
 opV Pg (Instr.alloc 74 true (.tuple #[])) (Zh R) w λ e w=>
 L0 124 c R w λ f w=>
 L0 48 d R w λ g w=>
 C0 188 #[f,g] R w λ h w=>
 C0 102 #[(.int .i64 8)] R w λ i w=>
 Pc e h i R w
theorem Ze6 {t0 t1:Vl} {R:RT} {w:Wd} (h:Ze5 t0 t1 R w):Calls Pg 163 #[t0,t1] w R:=by
 refine yD func163 ?_
 refine zs<|zr<|yv h λ _ w h=>yv h λ _ w h=>yv h λ _ w h=>zn<|zk<|zs<|zr<|yv h λ _ w h=>yv h λ _ w h=>yc h Zc2 λ _ w h=>yc h Ex λ _ w h=>yc h Ew λ _ w h=>yu h λ w h=>?_
 exact zn<|zk<|Ze<|Ya rfl rfl h
def Zfl (b:Vl) (R:RT) (w:Wd):Prop:=
 opV Pg (Instr.box 48 b) (Zh R) w λ c w=>
 opV Pg (Instr.alloc 74 true (.tuple #[])) (Zh R) w λ a w=>
 F0 48 c 6 R w λ d w=>
 L0 3 d R w λ e w=>
 B0 .add 3 true e (.int .i64 1) R w λ f w=>
 B0 .mul 3 true (.int .i64 8) f R w λ g w=>
 opV Pg (Instr.build 74 #[(0,(.int .i64 8)),(1,g)]) (Zh R) w λ h w=>
 S0 74 a h R w λ w=>
 qW Pg 74 a w λ r0=>
 R (.returned r0) w
theorem Zfm {t0:Vl} {R:RT} {w:Wd} (h:Zfl t0 R w):Calls Pg 164 #[t0] w R:=by
 refine yD func164 ?_
 refine zs<|zr<|yv h λ _ w h=>yv h λ _ w h=>zn<|zk<|zs<|zr<|yv h λ _ w h=>yv h λ _ w h=>yb h λ _ w h=>yb h λ _ w h=>yB h λ _ w h=>yu h λ w h=>zn ?_
 exact zk<|Ze<|Ya rfl rfl h
def Zfn (b:Vl) (R:RT) (w:Wd):Prop:=
 opV Pg (Instr.box 48 b) (Zh R) w λ c w=>
 opV Pg (Instr.alloc 74 true (.tuple #[])) (Zh R) w λ a w=>
 F0 48 c 6 R w λ d w=>
 L0 3 d R w λ e w=>
 B0 .mul 3 true (.int .i64 8) e R w λ f w=>
 opV Pg (Instr.build 74 #[(0,(.int .i64 16)),(1,f)]) (Zh R) w λ g w=>
 S0 74 a g R w λ w=>
 qW Pg 74 a w λ r0=>
 R (.returned r0) w
theorem Zfo {t0:Vl} {R:RT} {w:Wd} (h:Zfn t0 R w):Calls Pg 165 #[t0] w R:=by
 refine yD func165 ?_
 refine zs<|zr<|yv h λ _ w h=>yv h λ _ w h=>zn<|zk<|zs<|zr<|yv h λ _ w h=>yv h λ _ w h=>yb h λ _ w h=>yB h λ _ w h=>yu h λ w h=>zn<|zk ?_
 exact Ze<|Ya rfl rfl h
def Pr (a b c:Vl) (d:WPr) (R:RT) (w:Wd):Prop:=
 Yt Pg 101 #[b,c,(.func (.func 189) #[] #[])] (Zh R) w λ e w=>
 d w∧(
 S0 74 a e R w λ w=>
 Xt w λ f w=>
 qW Pg 74 a w λ r0=>
 R (.returned r0) w)
def Ps (b c d:Vl) (a:WPr) (R:RT) (w:Wd):Prop:=
 I0 124 b a λ e=>
 I0 48 c a λ f=>
 J0 124 b 1 a λ g=>
 I0 122 g a λ h=>
 J0 48 c 8 a λ i=>
 I0 9 i a λ j=>
 qV Pg a (Instr.lookup 122 h j false) λ k=>
 C0 188 #[e,f] R w λ l w=>
 a w∧(
 Pr d l k a R w)
def Zfb (a b:Vl) (R:RT) (w:Wd):Prop:=
 opV Pg (Instr.box 124 a) (Zh R) w λ c w=>
 opV Pg (Instr.box 48 b) (Zh R) w λ d w=>
 opV Pg (Instr.alloc 74 true (.tuple #[])) (Zh R) w λ e w=>
 Yy w λ f w=>
 Ps c d e f R w
theorem Zfc {t0 t1:Vl} {R:RT} {w:Wd} (h:Zfb t0 t1 R w):Calls Pg 166 #[t0,t1] w R:=by
 refine yD func166 ?_
 refine zs<|zr<|yv h λ _ w h=>yv h λ _ w h=>yv h λ _ w h=>zn<|zk<|zs<|yh [5,6,7,8,9,10,11,12,13] h λ C hC h=>ye 0 hC h λ _ h=>?_
 refine ye 1 hC h λ _ h=>?_
 refine ye 3 hC h λ _ h=>?_
 refine ye 4 hC h λ _ h=>?_
 refine ye 5 hC h λ _ h=>?_
 refine ye 6 hC h λ _ h=>?_
 refine ye 7 hC h λ _ h=>?_
 refine yo 2 ?_
 refine yc h Zc2 λ _ w h=>zn ?_
 obtain ⟨hC,h⟩:=h
 refine ⟨hC,?_⟩
 refine yo 8 ?_
 refine yc h Ew λ _ w h=>zn ?_
 obtain ⟨hC,h⟩:=h
 refine ⟨hC,?_⟩
 refine yq 9 1 ?_
 refine yu h λ w h=>zn ?_
 obtain ⟨C2,hC,h⟩:=h
 refine ⟨C2,hC,?_⟩
 exact yz<|zk<|Ze<|Ya rfl rfl h
def Zfp (b c:Vl) (R:RT) (w:Wd):Prop:=
 opV Pg (Instr.box 48 b) (Zh R) w λ d w=>
 opV Pg (Instr.alloc 74 true (.tuple #[])) (Zh R) w λ a w=>
 F0 124 c 1 R w λ e w=>
 L0 122 e R w λ f w=>
 F0 48 d 8 R w λ g w=>
 L0 9 g R w λ h w=>
 opV Pg (Instr.lookup 122 f h false) (Zh R) w λ i w=>
 S0 74 a i R w λ w=>
 qW Pg 74 a w λ r0=>
 R (.returned r0) w
theorem Zfq {t0 t1:Vl} {R:RT} {w:Wd} (h:Zfp t0 t1 R w):Calls Pg 167 #[t0,t1] w R:=by
 refine yD func167 ?_
 refine zs<|zr<|yv h λ _ w h=>yv h λ _ w h=>zn<|zk<|zs<|zr<|yv h λ _ w h=>yv h λ _ w h=>yv h λ _ w h=>yv h λ _ w h=>yv h λ _ w h=>yu h λ w h=>zn ?_
 exact zk<|Ze<|Ya rfl rfl h
def Pn (e a f c:Vl) (Vw:KV) (R:RT) (w:Wd):Prop:=
 X0 46 f c R w λ g w=>
 L0 60 g R w λ h w=>
 opV Pg (Instr.alloc 60 true (.tuple #[])) (Zh R) w λ d w=>
 S0 60 d h R w λ w=>
 F0 124 e 1 R w λ i w=>
 L0 122 i R w λ j w=>
 F0 60 d 2 R w λ k w=>
 L0 9 k R w λ l w=>
 opV Pg (Instr.lookup 122 j l false) (Zh R) w λ m w=>
 opV Pg (Instr.alloc 74 true (.tuple #[])) (Zh R) w λ b w=>
 S0 74 b m R w λ w=>
 F0 74 a 0 R w λ n w=>
 L0 3 n R w λ o w=>
 F0 74 b 0 R w λ p w=>
 L0 3 p R w λ q w=>
 opV Pg (Builtin.min_ #[3,3] 3 #[o,q]) (Zh R) w λ r w=>
 F0 74 a 1 R w λ s w=>
 L0 3 s R w λ t w=>
 F0 74 b 1 R w λ u w=>
 L0 3 u R w λ v w=>
 opV Pg (Builtin.max_ #[3,3] 3 #[t,v]) (Zh R) w λ x w=>
 opV Pg (Instr.build 74 #[(0,r),(1,x)]) (Zh R) w λ y w=>
 S0 74 a y R w λ w=>
 B0 .add 3 true c (.int .i64 1) R w λ z w=>
 Vw z w
def Po (d a b e f c:Vl) (Vw:KV) (R:RT) (w:Wd):Prop:=
 B0 .lss 3 false c f R w λ g w=>
 Zq g (
 Pn d b e c Vw R w) (
 L0 74 b R w λ h w=>
 S0 74 a h R w λ w=>
 qW Pg 74 a w λ r0=>
 R (.returned r0) w)
def Pp (b c d e:Vl) (R:RT) (w:Wd):Prop:=
 F0 48 c 11 R w λ f w=>
 L0 46 f R w λ a w=>
 G0 46 3 a R w λ g w=>
 YS (λ h w Vw=>
 Po b d e a g h Vw R w) (.int .i64 0) w
def Pq (b c e:Vl) (a:WPr) (R:RT) (w:Wd):Prop:=
 J0 124 b 1 a λ f=>
 I0 122 f a λ g=>
 J0 48 c 11 a λ h=>
 I0 46 h a λ i=>
 qV Pg a (indexAt 46 i (.int .i64 0)) λ j=>
 J0 60 j 2 a λ k=>
 I0 9 k a λ l=>
 qV Pg a (Instr.lookup 122 g l false) λ m=>
 opV Pg (Instr.alloc 74 true (.tuple #[])) (Zh R) w λ d w=>
 a w∧(
 S0 74 d m R w λ w=>
 Xt w λ n w=>
 Pp b c e d R w)
def Ze9 (a b:Vl) (R:RT) (w:Wd):Prop:=
 opV Pg (Instr.box 124 a) (Zh R) w λ c w=>
 opV Pg (Instr.box 48 b) (Zh R) w λ d w=>
 opV Pg (Instr.alloc 74 true (.tuple #[])) (Zh R) w λ e w=>
 Yy w λ f w=>
 Pq c d e f R w
theorem Zfa {t0 t1:Vl} {R:RT} {w:Wd} (h:Ze9 t0 t1 R w):Calls Pg 168 #[t0,t1] w R:=by
 refine yD func168 ?_
 refine zs<|zr<|yv h λ _ w h=>yv h λ _ w h=>yv h λ _ w h=>zn<|zk<|zs<|yh [5,9,10,11,12,13,14,15,16] h λ C hC h=>ye 0 hC h λ _ h=>?_
 refine ye 1 hC h λ _ h=>?_
 refine ye 2 hC h λ _ h=>?_
 refine ye 3 hC h λ _ h=>?_
 refine ye 4 hC h λ _ h=>?_
 refine ye 5 hC h λ _ h=>?_
 refine ye 6 hC h λ _ h=>?_
 refine ye 7 hC h λ _ h=>?_
 refine yo 8 ?_
 refine yv h λ _ w h=>zn ?_
 obtain ⟨hC,h⟩:=h
 refine ⟨hC,?_⟩
 refine yq 9 1 ?_
 refine yu h λ w h=>zn ?_
 obtain ⟨C2,hC,h⟩:=h
 refine ⟨C2,hC,?_⟩
 refine yz<|zk<|zs<|zs<|zr<|yv h λ _ w h=>yv h λ _ w h=>yx h λ _ w h=>zm<|zn<|zk<|Zj<|yl1 [7,8,20,21,22,23,24,25,26,27,28,29,30,31,32,33,34,35,36,37,38,39,40] 20 h λ σ w next h=>zs<|zr ?_
 refine yb h λ _ w h=>zn<|zk<|zs<|yC h (λ h=>?_) λ h=>?_
 · refine Zi<|zk<|zs<|Zj<|zs<|zr<|yv h λ _ w h=>yv h λ _ w h=>yv h λ _ w h=>yu h λ w h=>zn<|zk<|zs<|zr<|yv h λ _ w h=>?_
   refine yv h λ _ w h=>yv h λ _ w h=>yv h λ _ w h=>yv h λ _ w h=>yv h λ _ w h=>yu h λ w h=>zn<|zk<|zr<|yv h λ _ w h=>yv h λ _ w h=>yv h λ _ w h=>yv h λ _ w h=>yx h λ _ w h=>yv h λ _ w h=>?_
   exact yv h λ _ w h=>yv h λ _ w h=>yv h λ _ w h=>yx h λ _ w h=>yB h λ _ w h=>yu h λ w h=>zn<|Zg<|zk<|zr<|yb h λ _ w h=>zm<|zn<|zk<|⟨rfl,h⟩
 exact ZA<|Zc<|Zc<|Zp<|zk<|zs<|zr<|yv h λ _ w h=>yu h λ w h=>zn<|zk<|Ze<|Ya rfl rfl h
def Zfr (b:Vl) (R:RT) (w:Wd):Prop:=
 opV Pg (Instr.box 48 b) (Zh R) w λ c w=>
 opV Pg (Instr.alloc 74 true (.tuple #[])) (Zh R) w λ a w=>
 F0 48 c 2 R w λ d w=>
 L0 3 d R w λ e w=>
 B0 .sub 3 true e (.int .i64 1) R w λ f w=>
 opV Pg (Instr.build 74 #[(1,f)]) (Zh R) w λ g w=>
 S0 74 a g R w λ w=>
 qW Pg 74 a w λ r0=>
 R (.returned r0) w
theorem Zfs {t0:Vl} {R:RT} {w:Wd} (h:Zfr t0 R w):Calls Pg 169 #[t0] w R:=by
 refine yD func169 ?_
 refine zs<|zr<|yv h λ _ w h=>yv h λ _ w h=>zn<|zk<|zs<|zr<|yv h λ _ w h=>yv h λ _ w h=>yb h λ _ w h=>yB h λ _ w h=>yu h λ w h=>zn<|zk ?_
 exact Ze<|Ya rfl rfl h
def Ze7 (b c:Vl) (R:RT) (w:Wd):Prop:=
 opV Pg (Instr.box 124 b) (Zh R) w λ j w=>
 opV Pg (Instr.box 48 c) (Zh R) w λ d w=>
 opV Pg (Instr.alloc 74 true (.tuple #[])) (Zh R) w λ a w=>
 F0 48 d 12 R w λ e w=>
 L0 3 e R w λ f w=>
 B0 .eql 3 true f (.int .i64 3) R w λ g w=>
 Zq g (
 C0 102 #[(.int .i64 32)] R w λ h w=>
 S0 74 a h R w λ w=>
 qW Pg 74 a w λ r0=>
 R (.returned r0) w) (
 C0 102 #[(.int .i64 16)] R w λ i w=>
 S0 74 a i R w λ w=>
 qW Pg 74 a w λ r0=>
 R (.returned r0) w)
theorem Ze8 {t0 t1:Vl} {R:RT} {w:Wd} (h:Ze7 t0 t1 R w):Calls Pg 170 #[t0,t1] w R:=by
 refine yD func170 ?_
 refine zs<|zr<|yv h λ _ w h=>yv h λ _ w h=>yv h λ _ w h=>zn<|zk<|zs<|zs<|zr<|yv h λ _ w h=>yv h λ _ w h=>yb h λ _ w h=>zn<|zk ?_
 exact yC h (λ h=>zs<|zr<|yc h Ex λ _ w h=>yu h λ w h=>zn<|zk<|Ze<|Zb<|Ya rfl rfl h) λ h=>Zi<|zk<|zs<|zr<|yc h Ex λ _ w h=>yu h λ w h=>zn<|zk<|Ze<|Ya rfl rfl h
open Go.RowKit (intOf Below)
def VN (g:FuncId) (cl:Zl→Zl) (ct cc:Bool):Prop:=∀ (w:Wd) (p:Nat) (f:Zl) (tv cv:Vl),tv.oneCell'=true→cv.oneCell'=true→w.heap[p]?=some (.cells (Zm f tv cv).toArray 48 (0,0)) →
 Ret Pg g #[.pointer (some ⟨p,0,none⟩)] w λ _ w'=>w'.heap[p]?=some (.cells (Zm (cl f) (if ct then .slice none 0 0 else tv) (if cc then .slice none 0 0 else cv)).toArray 48 (0,0))∧∀ a,Ext a w→a.heap.size≤p→Ext a w'
def xz (f:Zl):Zl:={ f with bits:=0,little:=false,low:=0,high:=0 }
theorem SU:VN 193 xz false false:=by
 intro w p f tv cv ht1 hc1 hp
 have Yv:=(Array.getElem?_eq_some_iff.1 hp).1
 refine ZiW (R:=ZO _) ?_;unfold n79
 simp (disch:=try exact DI) only [↓PR,QR,simprocAttr,Sw.joinK_eq,(Za hp).1,(Za hp).2]
 refine ⟨?_,λ a e hp'=>?_⟩
 · simp only [Y1,hp,Option.map_some,Y2,List.setIfInBounds_toArray,List.set_cons_zero,List.set_cons_succ,Bool.false_eq_true,if_false,if_true]
   try rfl
 · exact ee
def xC (f:Zl):Zl:={ f with bits:=0,little:=false,low:=0 }
theorem SV:VN 197 xC false false:=by
 intro w p f tv cv ht1 hc1 hp
 have Yv:=(Array.getElem?_eq_some_iff.1 hp).1
 refine Zjb (R:=ZO _) ?_;unfold n94
 simp (disch:=try exact DI) only [↓PR,QR,simprocAttr,Sw.joinK_eq,(Za hp).1,(Za hp).2]
 refine ⟨?_,λ a e hp'=>?_⟩
 · simp only [Y1,hp,Option.map_some,Y2,List.setIfInBounds_toArray,List.set_cons_zero,List.set_cons_succ,Bool.false_eq_true,if_false,if_true]
   try rfl
 · exact ee
def xD (f:Zl):Zl:={ f with loose:=false,low:=0,high:=0 }
theorem SW:VN 199 xD false false:=by
 intro w p f tv cv ht1 hc1 hp
 have Yv:=(Array.getElem?_eq_some_iff.1 hp).1
 refine Zjd (R:=ZO _) ?_;unfold n96
 simp (disch:=try exact DI) only [↓PR,QR,simprocAttr,Sw.joinK_eq,(Za hp).1,(Za hp).2]
 refine ⟨?_,λ a e hp'=>?_⟩
 · simp only [Y1,hp,Option.map_some,Y2,List.setIfInBounds_toArray,List.set_cons_zero,List.set_cons_succ,Bool.false_eq_true,if_false,if_true]
   try rfl
 · exact ee
def j6 (f:Zl):Zl:={ f with base:=0,terms:=[] }
theorem SX:VN 201 j6 true false:=by
 intro w p f tv cv ht1 hc1 hp
 have Yv:=(Array.getElem?_eq_some_iff.1 hp).1
 refine Zjf (R:=ZO _) ?_;unfold n98
 simp (disch:=try exact DI) only [↓PR,QR,simprocAttr,Sw.joinK_eq,(Za hp).1,(Za hp).2]
 refine ⟨?_,λ a e hp'=>?_⟩
 · simp only [Y1,hp,Option.map_some,Y2,List.setIfInBounds_toArray,List.set_cons_zero,List.set_cons_succ,Bool.false_eq_true,if_false,if_true]
   try rfl
 · exact ee
def xE (f:Zl):Zl:={ f with low:=0,high:=0 }
theorem SY:VN 203 xE false false:=by
 intro w p f tv cv ht1 hc1 hp
 have Yv:=(Array.getElem?_eq_some_iff.1 hp).1
 refine Zjg (R:=ZO _) ?_;unfold n99
 simp (disch:=try exact DI) only [↓PR,QR,simprocAttr,Sw.joinK_eq,(Za hp).1,(Za hp).2]
 refine ⟨?_,λ a e hp'=>?_⟩
 · simp only [Y1,hp,Option.map_some,Y2,List.setIfInBounds_toArray,List.set_cons_zero,List.set_cons_succ,Bool.false_eq_true,if_false,if_true]
   try rfl
 · exact ee
def xF (f:Zl):Zl:={ f with loose:=false,high:=0 }
theorem S1:VN 205 xF false false:=by
 intro w p f tv cv ht1 hc1 hp
 have Yv:=(Array.getElem?_eq_some_iff.1 hp).1
 refine ZiX (R:=ZO _) ?_;unfold n80
 simp (disch:=try exact DI) only [↓PR,QR,simprocAttr,Sw.joinK_eq,(Za hp).1,(Za hp).2]
 refine ⟨?_,λ a e hp'=>?_⟩
 · simp only [Y1,hp,Option.map_some,Y2,List.setIfInBounds_toArray,List.set_cons_zero,List.set_cons_succ,Bool.false_eq_true,if_false,if_true]
   try rfl
 · exact ee
def j7 (f:Zl):Zl:={ f with of:=ByteArray.empty,base:=0,terms:=[] }
theorem S2:VN 207 j7 true false:=by
 intro w p f tv cv ht1 hc1 hp
 have Yv:=(Array.getElem?_eq_some_iff.1 hp).1
 refine ZiZ (R:=ZO _) ?_;unfold n82
 simp (disch:=try exact DI) only [↓PR,QR,simprocAttr,Sw.joinK_eq,(Za hp).1,(Za hp).2]
 refine ⟨?_,λ a e hp'=>?_⟩
 · simp only [Y1,hp,Option.map_some,Y2,List.setIfInBounds_toArray,List.set_cons_zero,List.set_cons_succ,Bool.false_eq_true,if_false,if_true]
   try rfl
 · exact ee
def xG (f:Zl):Zl:={ f with of:=ByteArray.empty }
theorem S3:VN 210 xG false false:=by
 intro w p f tv cv ht1 hc1 hp
 have Yv:=(Array.getElem?_eq_some_iff.1 hp).1
 refine Zi1 (R:=ZO _) ?_;unfold n84
 simp (disch:=try exact DI) only [↓PR,QR,simprocAttr,Sw.joinK_eq,(Za hp).1,(Za hp).2]
 refine ⟨?_,λ a e hp'=>?_⟩
 · simp only [Y1,hp,Option.map_some,Y2,List.setIfInBounds_toArray,List.set_cons_zero,List.set_cons_succ,Bool.false_eq_true,if_false,if_true]
   try rfl
 · exact ee
def xH (f:Zl):Zl:={ f with tag:=ByteArray.empty,cases:=[] }
theorem S4:VN 212 xH false true:=by
 intro w p f tv cv ht1 hc1 hp
 have Yv:=(Array.getElem?_eq_some_iff.1 hp).1
 refine Zi3 (R:=ZO _) ?_;unfold n86
 simp (disch:=try exact DI) only [↓PR,QR,simprocAttr,Sw.joinK_eq,(Za hp).1,(Za hp).2]
 refine ⟨?_,λ a e hp'=>?_⟩
 · simp only [Y1,hp,Option.map_some,Y2,List.setIfInBounds_toArray,List.set_cons_zero,List.set_cons_succ,Bool.false_eq_true,if_false,if_true]
   try rfl
 · exact ee
def Gm (f:Zl):Zl:={ f with bits:=0 }
theorem NW:VN 214 Gm false false:=by
 intro w p f tv cv ht1 hc1 hp
 have Yv:=(Array.getElem?_eq_some_iff.1 hp).1
 refine Zi4 (R:=ZO _) ?_;unfold n87
 simp (disch:=try exact DI) only [↓PR,QR,simprocAttr,Sw.joinK_eq,(Za hp).1,(Za hp).2]
 refine ⟨?_,λ a e hp'=>?_⟩
 · simp only [Y1,hp,Option.map_some,Y2,List.setIfInBounds_toArray,List.set_cons_zero,List.set_cons_succ,Bool.false_eq_true,if_false,if_true]
   try rfl
 · exact ee
def Gn (f:Zl):Zl:={ f with fr:=ByteArray.empty,check:=0 }
theorem NY:VN 216 Gn false false:=by
 intro w p f tv cv ht1 hc1 hp
 have Yv:=(Array.getElem?_eq_some_iff.1 hp).1
 refine Zi6 (R:=ZO _) ?_;unfold n89
 simp (disch:=try exact DI) only [↓PR,QR,simprocAttr,Sw.joinK_eq,(Za hp).1,(Za hp).2]
 refine ⟨?_,λ a e hp'=>?_⟩
 · simp only [Y1,hp,Option.map_some,Y2,List.setIfInBounds_toArray,List.set_cons_zero,List.set_cons_succ,Bool.false_eq_true,if_false,if_true]
   try rfl
 · exact ee
def ya (f:Zl):Zl:={ f with of:=ByteArray.empty,base:=0,terms:=[],key:=0 }
theorem NZ:VN 218 ya true false:=by
 intro w p f tv cv ht1 hc1 hp
 have Yv:=(Array.getElem?_eq_some_iff.1 hp).1
 refine Zi9 (R:=ZO _) ?_;unfold n92
 simp (disch:=try exact DI) only [↓PR,QR,simprocAttr,Sw.joinK_eq,(Za hp).1,(Za hp).2]
 refine ⟨?_,λ a e hp'=>?_⟩
 · simp only [Y1,hp,Option.map_some,Y2,List.setIfInBounds_toArray,List.set_cons_zero,List.set_cons_succ,Bool.false_eq_true,if_false,if_true]
   try rfl
 · exact ee
abbrev Vr:Int→Vl:=λ n => .int .i64 n
def Da (L:List (Int×Vl×Nat)):Prop:=(∀ k,¬ (1≤k∧k≤12)→Sw.look L k=none)∧Sw.look L 1=some (.agg #[.func (.func 193) #[] #[],.func (.func 194) #[] #[]])∧Sw.look L 2=some (.agg #[.func (.func 197) #[] #[],.func (.func 198) #[] #[]])∧Sw.look L 3=some (.agg #[.func (.func 199) #[] #[],.func (.func 200) #[] #[]])∧Sw.look L 4=some (.agg #[.func (.func 201) #[] #[],.func (.func 202) #[] #[]])∧Sw.look L 5=some (.agg #[.func (.func 203) #[] #[],.func (.func 204) #[] #[]])∧Sw.look L 6=some (.agg #[.func (.func 205) #[] #[],.func (.func 206) #[] #[]])∧Sw.look L 7=some (.agg #[.func (.func 207) #[] #[],.func (.func 208) #[] #[]])∧Sw.look L 8=some (.agg #[.func (.func 210) #[] #[],.func (.func 211) #[] #[]])∧Sw.look L 9=some (.agg #[.func (.func 212) #[] #[],.func (.func 213) #[] #[]])∧Sw.look L 10=some (.agg #[.func (.func 214) #[] #[],.func (.func 215) #[] #[]])∧Sw.look L 11=some (.agg #[.func (.func 216) #[] #[],.func (.func 217) #[] #[]])∧Sw.look L 12=some (.agg #[.func (.func 218) #[] #[],.func (.func 219) #[] #[]])
theorem Qf {w0 w:Wd} {m c:Nat} {L:List (Int×Vl×Nat)} {QP:PEn} {ku:WPr} (hM:Xn w m Vr L c) (e:Ext w0 w) (hm:w0.heap.size≤m) (k:Int) (v:Vl)
 (h:∀ w' L' c',Xn w' m Vr L' c'→(∀ k',Sw.look L' k'=if k'=k then some v else Sw.look L k')→Ext w0 w'→ku w'):opU Pg (mapUpdate 221 (.map (some m)) (.int .i64 k) v) QP w ku:=by
 rw [Ja underlying221 (W7.int underlying42) hM k v]
 exact h _ _ _ (hM.put k v) (λ k'=>yH _ _ _ _ _) (e.putObj hm _)
theorem Cj (w0:Wd):Ret Pg 185 #[] w0 λ r w'=>∃ m L c,r = .map (some m)∧w0.heap.size≤m∧Xn w' m Vr L c∧Da L∧Ext w0 w':=by
 refine ZiV (R:=ZO _) ?_;unfold n78
 simp (disch:=try exact DI) only [↓PR,QR,simprocAttr]
 have hM0:Xn (w0.alloc (.map #[] 0)) w0.heap.size Vr [] 0:=Xn.new w0 _
 have e0:Ext w0 (w0.alloc (.map #[] 0)):=ee
 refine Qf hM0 e0 (Nat.le_refl _) 1 _ (λ w1 L1 c1 hM1 hl1 e1=>?_)
 simp (disch:=try exact DI) only [↓PR,QR,simprocAttr]
 refine Qf hM1 e1 (Nat.le_refl _) 2 _ (λ w2 L2 c2 hM2 hl2 e2=>?_)
 simp (disch:=try exact DI) only [↓PR,QR,simprocAttr]
 refine Qf hM2 e2 (Nat.le_refl _) 3 _ (λ w3 L3 c3 hM3 hl3 e3=>?_)
 simp (disch:=try exact DI) only [↓PR,QR,simprocAttr]
 refine Qf hM3 e3 (Nat.le_refl _) 4 _ (λ w4 L4 c4 hM4 hl4 e4=>?_)
 simp (disch:=try exact DI) only [↓PR,QR,simprocAttr]
 refine Qf hM4 e4 (Nat.le_refl _) 5 _ (λ w5 L5 c5 hM5 hl5 e5=>?_)
 simp (disch:=try exact DI) only [↓PR,QR,simprocAttr]
 refine Qf hM5 e5 (Nat.le_refl _) 6 _ (λ w6 L6 c6 hM6 hl6 e6=>?_)
 simp (disch:=try exact DI) only [↓PR,QR,simprocAttr]
 refine Qf hM6 e6 (Nat.le_refl _) 7 _ (λ w7 L7 c7 hM7 hl7 e7=>?_)
 simp (disch:=try exact DI) only [↓PR,QR,simprocAttr]
 refine Qf hM7 e7 (Nat.le_refl _) 8 _ (λ w8 L8 c8 hM8 hl8 e8=>?_)
 simp (disch:=try exact DI) only [↓PR,QR,simprocAttr]
 refine Qf hM8 e8 (Nat.le_refl _) 9 _ (λ w9 L9 c9 hM9 hl9 e9=>?_)
 simp (disch:=try exact DI) only [↓PR,QR,simprocAttr]
 refine Qf hM9 e9 (Nat.le_refl _) 10 _ (λ w10 L10 c10 hM10 hl10 e10=>?_)
 simp (disch:=try exact DI) only [↓PR,QR,simprocAttr]
 refine Qf hM10 e10 (Nat.le_refl _) 11 _ (λ w11 L11 c11 hM11 hl11 e11=>?_)
 simp (disch:=try exact DI) only [↓PR,QR,simprocAttr]
 refine Qf hM11 e11 (Nat.le_refl _) 12 _ (λ w12 L12 c12 hM12 hl12 e12=>?_)
 simp (disch:=try exact DI) only [↓PR,QR,simprocAttr]
 have hn:∀ k,Sw.look ([]:List (Int×Vl×Nat)) k=none:=λ _=>rfl
 refine ⟨_,_,_,rfl,Nat.le_refl _,hM12,⟨λ k hk=>?_,?_,?_,?_,?_,?_,?_,?_,?_,?_,?_,?_,?_⟩,e12⟩
 · rw [hl12,if_neg (by omega),hl11,if_neg (by omega),hl10,if_neg (by omega),hl9,if_neg (by omega),hl8,if_neg (by omega),hl7,if_neg (by omega),hl6,if_neg (by omega),hl5,if_neg (by omega),hl4,if_neg (by omega),hl3,if_neg (by omega),hl2,if_neg (by omega),hl1,if_neg (by omega),hn]
 · rw [hl12,if_neg (by decide),hl11,if_neg (by decide),hl10,if_neg (by decide),hl9,if_neg (by decide),hl8,if_neg (by decide),hl7,if_neg (by decide),hl6,if_neg (by decide),hl5,if_neg (by decide),hl4,if_neg (by decide),hl3,if_neg (by decide),hl2,if_neg (by decide),hl1,if_pos rfl]
 · rw [hl12,if_neg (by decide),hl11,if_neg (by decide),hl10,if_neg (by decide),hl9,if_neg (by decide),hl8,if_neg (by decide),hl7,if_neg (by decide),hl6,if_neg (by decide),hl5,if_neg (by decide),hl4,if_neg (by decide),hl3,if_neg (by decide),hl2,if_pos rfl]
 · rw [hl12,if_neg (by decide),hl11,if_neg (by decide),hl10,if_neg (by decide),hl9,if_neg (by decide),hl8,if_neg (by decide),hl7,if_neg (by decide),hl6,if_neg (by decide),hl5,if_neg (by decide),hl4,if_neg (by decide),hl3,if_pos rfl]
 · rw [hl12,if_neg (by decide),hl11,if_neg (by decide),hl10,if_neg (by decide),hl9,if_neg (by decide),hl8,if_neg (by decide),hl7,if_neg (by decide),hl6,if_neg (by decide),hl5,if_neg (by decide),hl4,if_pos rfl]
 · rw [hl12,if_neg (by decide),hl11,if_neg (by decide),hl10,if_neg (by decide),hl9,if_neg (by decide),hl8,if_neg (by decide),hl7,if_neg (by decide),hl6,if_neg (by decide),hl5,if_pos rfl]
 · rw [hl12,if_neg (by decide),hl11,if_neg (by decide),hl10,if_neg (by decide),hl9,if_neg (by decide),hl8,if_neg (by decide),hl7,if_neg (by decide),hl6,if_pos rfl]
 · rw [hl12,if_neg (by decide),hl11,if_neg (by decide),hl10,if_neg (by decide),hl9,if_neg (by decide),hl8,if_neg (by decide),hl7,if_pos rfl]
 · rw [hl12,if_neg (by decide),hl11,if_neg (by decide),hl10,if_neg (by decide),hl9,if_neg (by decide),hl8,if_pos rfl]
 · rw [hl12,if_neg (by decide),hl11,if_neg (by decide),hl10,if_neg (by decide),hl9,if_pos rfl]
 · rw [hl12,if_neg (by decide),hl11,if_neg (by decide),hl10,if_pos rfl]
 · rw [hl12,if_neg (by decide),hl11,if_pos rfl]
 · rw [hl12,if_pos rfl]
def Jh (f:Zl):Zl:={ name:=f.name,kind:=f.kind,bits:=0,little:=false,loose:=false,low:=0,high:=0,base:=0,terms:=[],of:=ByteArray.empty,tag:=ByteArray.empty,fr:=ByteArray.empty,cases:=[],check:=0,key:=0 }
section
variable {w0:Wd} {cb md ms:Nat} {deps strs:List (BAr×Vl)} {at_ fld:Int} {fs:List Zl}
theorem QY {a0:Wd} (e00:Ext a0 w0) (h:Chk w0 cb md ms deps strs at_ fld fs) (p3 p6:Nat) (f:Zl) (tv cv:Vl) (hT:ZV w0 tv f.terms) (hC:Yc w0 cv f.cases) (o3:w0.heap[p3]?=some (.cells (Zm f tv cv).toArray 48 (0,0)))
 (g1 g2:FuncId) (o6:w0.heap[p6]?=some (.cells #[.func (.func g1) #[] #[],.func (.func g2) #[] #[]] 219 (0,0))) (hc1:Callable Pg g1) (hc2:Callable Pg g2) (cl:Zl→Zl) (ct cc:Bool) (hcl:VN g1 cl ct cc)
 (hterms:(cl f).terms=if ct then [] else f.terms) (hcases:(cl f).cases=if cc then [] else f.cases) (code:Int)
 (hchk:∀ w v,Chk w cb md ms deps strs at_ fld fs→Yh w v f→Calls Pg g2 #[.pointer (some ⟨cb,0,none⟩),v] w (QF w at_ fld code)) :
 Fu (.pointer (some ⟨cb,0,none⟩)) (.pointer (some ⟨p3,0,none⟩)) (.pointer (some ⟨p6,0,none⟩)) (QF a0 at_ fld (orC (Yj (decide (cl f=Jh f)) 5) code)) w0:=by
 have ht1:=Zd.oneCell hT
 have hv1:=Zd.oneCell hC
 have l6:p6 < w0.heap.size:=(Array.getElem?_eq_some_iff.1 o6).1
 unfold Fu
 simp (disch:=try exact DI) only [↓PR,QR,simprocAttr,(Za o3).1,(Za o6).1]
 have e1:Ext w0 (w0.alloc (Obj.cells (Zm f tv cv).toArray 48)):=ee
 have o7:=ZG w0 (Zm f tv cv).toArray 48
 rw [YZ hc1]
 simp only [Array.empty_append,Array.append_empty]
 refine Zs (hcl _ w0.heap.size f tv cv ht1 hv1 o7) ?_
 rintro r w2 ⟨o7',hE⟩
 have e2:=hE w0 e1 (Nat.le_refl _)
 clear hE o7 e1
 have hT2:ZV w2 (if ct then .slice none 0 0 else tv) (cl f).terms:=by
  rw [hterms]
  cases ct
  · exact ZV.ext hT e2
  · exact Zd.nil _ _ _
 have hC2:Yc w2 (if cc then .slice none 0 0 else cv) (cl f).cases:=by
  rw [hcases]
  cases cc
  · exact Yc.ext hC e2
  · exact Zd.nil _ _ _
 generalize (if ct=true then Value.slice none 0 0 else tv)=tv2 at o7' hT2
 generalize (if cc=true then Value.slice none 0 0 else cv)=cv2 at o7' hC2
 generalize cl f=g at o7' hT2 hC2 ⊢
 have o3':=e2.obj o3
 clear hterms hcases hcl
 unfold Zbe
 have hL:WC Pg w2 48 ⟨w0.heap.size,0,none⟩ (.agg (Zm g tv2 cv2).toArray):=WC.many V2 rfl (λ j v hv=>by rw [Addr.add_lit,(Za o7').1];simpa using hv)
 refine (Wi hL).mpr ?_
 simp (disch:=try exact DI) only [↓PR,QR,simprocAttr,(Za o3').1]
 refine zcr (B3 w2 _ _ g (Jh f) ⟨_,_,rfl,hT2,hC2⟩ ⟨.slice none 0 0,.slice none 0 0,rfl,Zd.nil _ _ _,Zd.nil _ _ _⟩) λ w3 e3=>?_
 have e23:=e2.trans e3
 refine ZY (YU (h.ext e23) _ 5 (by decide)) (λ w4 e4 h0=>?_) (λ w4 e4 h0=>?_)
 · rw [h0,Y8]
   have e24:=e23.trans e4
   simp (disch:=try exact DI) only [↓PR,QR,simprocAttr,↓Zbd,(Za (e24.obj o6)).1,(Za (e24.obj o3)).1]
   rw [YZ hc2]
   simp only [Array.empty_append,Array.append_empty]
   refine ZY (hchk w4 _ (h.ext e24) ⟨tv,cv,rfl,ZV.ext hT e24,Yc.ext hC e24⟩) (λ w5 e5 h0=>?_) (λ w5 e5 h0=>?_)
   · exact Xq (e00.trans (e24.trans e5)) h0
   · exact Yu (e00.trans (e24.trans e5)) rfl h0
 · rw [Wc h0]
   exact Yu (e00.trans (e23.trans e4)) rfl h0
end
def ZW (bef:List Zl) (deps strs:List (BAr×Vl)) (f:Zl):Int:=
 if f.kind=1 then orC (Yj (Xo f) 6) (Z2 (Ky f) 0 [f.low,f.high]) else
 if f.kind=2 then orC (Yj (Xo f) 6) (Z2 (Ky f) 0 [f.low]) else
 if f.kind=3 then Z2 34359738367 0 [f.low,f.high] else
 if f.kind=4 then Qz (YD bef) f else
 if f.kind=5 then orC (Z2 255 0 [f.low]) (Z2 1048576 0 [f.high]) else
 if f.kind=6 then Z2 1048576 2 [f.high] else
 if f.kind=7 then orC (Yj (Yz deps f.of).isSome 8) (Qz (YD bef) f) else
 if f.kind=8 then Yj (Yz deps f.of).isSome 8 else
 if f.kind=9 then Vn bef deps f else
 if f.kind=10 then Yj (zE f) 6 else
 if f.kind=11 then orC (Z2 3 1 [f.check]) (Yj (bef.any λ o=>decide (o.name=f.fr)) 8) else
 if f.kind=12 then orC (Z2 4294967295 0 [f.key]) (orC (Yj (Ei strs f.of) 8) (Qz (YD bef) f)) else 0
def YB (f:Zl):Zl:=
 if f.kind=1 then xz f else
 if f.kind=2 then xC f else
 if f.kind=3 then xD f else
 if f.kind=4 then j6 f else
 if f.kind=5 then xE f else
 if f.kind=6 then xF f else
 if f.kind=7 then j7 f else
 if f.kind=8 then xG f else
 if f.kind=9 then xH f else
 if f.kind=10 then Gm f else
 if f.kind=11 then Gn f else
 if f.kind=12 then ya f else f
def YL (bef:List Zl) (deps strs:List (BAr×Vl)) (f:Zl):Int:=
 orC (Yj (Qv f.name) 1) (orC (Yj (!bef.any λ o=>decide (o.name=f.name)) 2) (orC (Yj (decide (1≤f.kind∧f.kind≤12)) 4) (orC (Yj (decide (YB f=Jh f)) 5) (ZW bef deps strs f))))
section
variable {w0:Wd} {cb md ms:Nat} {deps strs:List (BAr×Vl)} {at_ fld:Int} {fs:List Zl}
theorem Tf {a0:Wd} (e00:Ext a0 w0) (h:Chk w0 cb md ms deps strs at_ fld fs) (i:Nat) (hi:fld=i) (Yv:i < fs.length) (p3 p6:Nat) (f:Zl) (tv cv:Vl) (ht:f.terms.length≤1048576) (hT:ZV w0 tv f.terms) (hC:Yc w0 cv f.cases) (o3:w0.heap[p3]?=some (.cells (Zm f tv cv).toArray 48 (0,0)))
 (L:List (Int×Vl×Nat)) (hL:Da L) (a b:Vl) (ok:Bool) (hab:(Sw.look L f.kind).getD (.agg #[.nilFunc,.nilFunc]) = .agg #[a,b]) (hok:ok=(Sw.look L f.kind).isSome) (o6:w0.heap[p6]?=some (.cells #[a,b] 219 (0,0))) :
 Yt Pg 122 #[.pointer (some ⟨cb,0,none⟩),.bool ok,.int .i64 4] (Zh (QF a0 at_ fld (orC (Yj (decide (1≤f.kind∧f.kind≤12)) 4) (orC (Yj (decide (YB f=Jh f)) 5) (ZW (fs.take i) deps strs f))))) w0
  (λ _ w=>Fu (.pointer (some ⟨cb,0,none⟩)) (.pointer (some ⟨p3,0,none⟩)) (.pointer (some ⟨p6,0,none⟩)) (QF a0 at_ fld (orC (Yj (decide (1≤f.kind∧f.kind≤12)) 4) (orC (Yj (decide (YB f=Jh f)) 5) (ZW (fs.take i) deps strs f)))) w):=by
 obtain ⟨hn,k1,k2,k3,k4,k5,k6,k7,k8,k9,k10,k11,k12⟩:=hL
 by_cases hk:1≤f.kind∧f.kind≤12
 · have hd:decide (1≤f.kind∧f.kind≤12)=true:=by simpa using hk
   rw [hd]
   show Yt _ _ _ (Zh (QF a0 at_ fld (orC 0 _))) _ _
   simp only [show Yj true 4=0 from rfl,Y8]
   have hs:ok=true:=by
    rw [hok]
    have:f.kind=1∨f.kind=2∨f.kind=3∨f.kind=4∨f.kind=5∨f.kind=6∨f.kind=7∨f.kind=8∨f.kind=9∨f.kind=10∨f.kind=11∨f.kind=12:=by omega
    rcases this with h | h | h | h | h | h | h | h | h | h | h | h<;>simp only [h,k1,k2,k3,k4,k5,k6,k7,k8,k9,k10,k11,k12,Option.isSome_some]
   subst hs
   refine ZY (YU h true 4 (by decide)) (λ w1 e1 _=>?_) (λ w1 e1 h0=>absurd rfl h0)
   have hw:=h.ext e1
   have hT1:=ZV.ext hT e1
   have hC1:=Yc.ext hC e1
   have o31:=e1.obj o3
   have this:f.kind=1∨f.kind=2∨f.kind=3∨f.kind=4∨f.kind=5∨f.kind=6∨f.kind=7∨f.kind=8∨f.kind=9∨f.kind=10∨f.kind=11∨f.kind=12:=by omega
   rcases this with Uv | Uv | Uv | Uv | Uv | Uv | Uv | Uv | Uv | Uv | Uv | Uv
   · rw [Uv,k1,Option.getD_some] at hab
     injection hab with hab
     have hab:=congrArg Array.toList hab
     simp only [List.cons.injEq,and_true] at hab
     obtain ⟨rfl,rfl⟩:=hab
     have hcl:YB f=xz f:=by unfold YB;simp [Uv]
     have hcc:ZW (fs.take i) deps strs f=orC (Yj (Xo f) 6) (Z2 (Ky f) 0 [f.low,f.high]):=by unfold ZW;simp [Uv]
     rw [hcl,hcc]
     exact QY (e00.trans e1) hw p3 p6 f tv cv hT1 hC1 o31 _ _ (e1.obj o6) Zhh Zhi xz false false SU rfl rfl _ (λ w v hw hf=>SD hw v f hf)
   · rw [Uv,k2,Option.getD_some] at hab
     injection hab with hab
     have hab:=congrArg Array.toList hab
     simp only [List.cons.injEq,and_true] at hab
     obtain ⟨rfl,rfl⟩:=hab
     have hcl:YB f=xC f:=by unfold YB;simp [Uv]
     have hcc:ZW (fs.take i) deps strs f=orC (Yj (Xo f) 6) (Z2 (Ky f) 0 [f.low]):=by unfold ZW;simp [Uv]
     rw [hcl,hcc]
     exact QY (e00.trans e1) hw p3 p6 f tv cv hT1 hC1 o31 _ _ (e1.obj o6) Zhj Zhk xC false false SV rfl rfl _ (λ w v hw hf=>MI hw v f hf)
   · rw [Uv,k3,Option.getD_some] at hab
     injection hab with hab
     have hab:=congrArg Array.toList hab
     simp only [List.cons.injEq,and_true] at hab
     obtain ⟨rfl,rfl⟩:=hab
     have hcl:YB f=xD f:=by unfold YB;simp [Uv]
     have hcc:ZW (fs.take i) deps strs f=Z2 34359738367 0 [f.low,f.high]:=by unfold ZW;simp [Uv]
     rw [hcl,hcc]
     exact QY (e00.trans e1) hw p3 p6 f tv cv hT1 hC1 o31 _ _ (e1.obj o6) Zhl Zhm xD false false SW rfl rfl _ (λ w v hw hf=>I7 hw v f hf)
   · rw [Uv,k4,Option.getD_some] at hab
     injection hab with hab
     have hab:=congrArg Array.toList hab
     simp only [List.cons.injEq,and_true] at hab
     obtain ⟨rfl,rfl⟩:=hab
     have hcl:YB f=j6 f:=by unfold YB;simp [Uv]
     have hcc:ZW (fs.take i) deps strs f=Qz (YD (fs.take i)) f:=by unfold ZW;simp [Uv]
     rw [hcl,hcc]
     exact QY (e00.trans e1) hw p3 p6 f tv cv hT1 hC1 o31 _ _ (e1.obj o6) Zhn ZbO j6 true false SX rfl rfl _ (λ w v hw hf=>qt hw i hi Yv v f hf ht)
   · rw [Uv,k5,Option.getD_some] at hab
     injection hab with hab
     have hab:=congrArg Array.toList hab
     simp only [List.cons.injEq,and_true] at hab
     obtain ⟨rfl,rfl⟩:=hab
     have hcl:YB f=xE f:=by unfold YB;simp [Uv]
     have hcc:ZW (fs.take i) deps strs f=orC (Z2 255 0 [f.low]) (Z2 1048576 0 [f.high]):=by unfold ZW;simp [Uv]
     rw [hcl,hcc]
     exact QY (e00.trans e1) hw p3 p6 f tv cv hT1 hC1 o31 _ _ (e1.obj o6) Zho Zhp xE false false SY rfl rfl _ (λ w v hw hf=>NC hw v f hf)
   · rw [Uv,k6,Option.getD_some] at hab
     injection hab with hab
     have hab:=congrArg Array.toList hab
     simp only [List.cons.injEq,and_true] at hab
     obtain ⟨rfl,rfl⟩:=hab
     have hcl:YB f=xF f:=by unfold YB;simp [Uv]
     have hcc:ZW (fs.take i) deps strs f=Z2 1048576 2 [f.high]:=by unfold ZW;simp [Uv]
     rw [hcl,hcc]
     exact QY (e00.trans e1) hw p3 p6 f tv cv hT1 hC1 o31 _ _ (e1.obj o6) Zhq Zhr xF false false S1 rfl rfl _ (λ w v hw hf=>EU hw v f hf)
   · rw [Uv,k7,Option.getD_some] at hab
     injection hab with hab
     have hab:=congrArg Array.toList hab
     simp only [List.cons.injEq,and_true] at hab
     obtain ⟨rfl,rfl⟩:=hab
     have hcl:YB f=j7 f:=by unfold YB;simp [Uv]
     have hcc:ZW (fs.take i) deps strs f=orC (Yj (Yz deps f.of).isSome 8) (Qz (YD (fs.take i)) f):=by unfold ZW;simp [Uv]
     rw [hcl,hcc]
     exact QY (e00.trans e1) hw p3 p6 f tv cv hT1 hC1 o31 _ _ (e1.obj o6) Zhs Zht j7 true false S2 rfl rfl _ (λ w v hw hf=>Ou hw i hi Yv v f hf ht)
   · rw [Uv,k8,Option.getD_some] at hab
     injection hab with hab
     have hab:=congrArg Array.toList hab
     simp only [List.cons.injEq,and_true] at hab
     obtain ⟨rfl,rfl⟩:=hab
     have hcl:YB f=xG f:=by unfold YB;simp [Uv]
     have hcc:ZW (fs.take i) deps strs f=Yj (Yz deps f.of).isSome 8:=by unfold ZW;simp [Uv]
     rw [hcl,hcc]
     exact QY (e00.trans e1) hw p3 p6 f tv cv hT1 hC1 o31 _ _ (e1.obj o6) Zhu Zhv xG false false S3 rfl rfl _ (λ w v hw hf=>Fo hw v f hf)
   · rw [Uv,k9,Option.getD_some] at hab
     injection hab with hab
     have hab:=congrArg Array.toList hab
     simp only [List.cons.injEq,and_true] at hab
     obtain ⟨rfl,rfl⟩:=hab
     have hcl:YB f=xH f:=by unfold YB;simp [Uv]
     have hcc:ZW (fs.take i) deps strs f=Vn (fs.take i) deps f:=by unfold ZW;simp [Uv]
     rw [hcl,hcc]
     exact QY (e00.trans e1) hw p3 p6 f tv cv hT1 hC1 o31 _ _ (e1.obj o6) Zhw Zhx xH false true S4 rfl rfl _ (λ w v hw hf=>MA hw i hi Yv v f hf)
   · rw [Uv,k10,Option.getD_some] at hab
     injection hab with hab
     have hab:=congrArg Array.toList hab
     simp only [List.cons.injEq,and_true] at hab
     obtain ⟨rfl,rfl⟩:=hab
     have hcl:YB f=Gm f:=by unfold YB;simp [Uv]
     have hcc:ZW (fs.take i) deps strs f=Yj (zE f) 6:=by unfold ZW;simp [Uv]
     rw [hcl,hcc]
     exact QY (e00.trans e1) hw p3 p6 f tv cv hT1 hC1 o31 _ _ (e1.obj o6) Zhy Zhz Gm false false NW rfl rfl _ (λ w v hw hf=>TA hw v f hf)
   · rw [Uv,k11,Option.getD_some] at hab
     injection hab with hab
     have hab:=congrArg Array.toList hab
     simp only [List.cons.injEq,and_true] at hab
     obtain ⟨rfl,rfl⟩:=hab
     have hcl:YB f=Gn f:=by unfold YB;simp [Uv]
     have hcc:ZW (fs.take i) deps strs f=orC (Z2 3 1 [f.check]) (Yj ((fs.take i).any λ o=>decide (o.name=f.fr)) 8):=by unfold ZW;simp [Uv]
     rw [hcl,hcc]
     exact QY (e00.trans e1) hw p3 p6 f tv cv hT1 hC1 o31 _ _ (e1.obj o6) ZhA ZhB Gn false false NY rfl rfl _ (λ w v hw hf=>MH hw i hi Yv v f hf)
   · rw [Uv,k12,Option.getD_some] at hab
     injection hab with hab
     have hab:=congrArg Array.toList hab
     simp only [List.cons.injEq,and_true] at hab
     obtain ⟨rfl,rfl⟩:=hab
     have hcl:YB f=ya f:=by unfold YB;simp [Uv]
     have hcc:ZW (fs.take i) deps strs f=orC (Z2 4294967295 0 [f.key]) (orC (Yj (Ei strs f.of) 8) (Qz (YD (fs.take i)) f)):=by unfold ZW;simp [Uv]
     rw [hcl,hcc]
     exact QY (e00.trans e1) hw p3 p6 f tv cv hT1 hC1 o31 _ _ (e1.obj o6) ZhC ZhD ya true false NZ rfl rfl _ (λ w v hw hf=>SE hw i hi Yv v f hf ht)
 · have hd:decide (1≤f.kind∧f.kind≤12)=false:=by simpa using hk
   rw [hd]
   have hs:ok=false:=by rw [hok,hn _ hk];rfl
   subst hs
   refine ZY (YU h false 4 (by decide)) (λ w1 e1 h0=>absurd h0 (by decide)) (λ w1 e1 h0=>?_)
   exact Yu (e00.trans e1) rfl h0
end
section
variable {w0:Wd} {cb md ms:Nat} {deps strs:List (BAr×Vl)} {at_ fld:Int} {fs:List Zl}
theorem EL (h:Chk w0 cb md ms deps strs at_ fld fs) (i:Nat) (hi:fld=i) (Yv:i < fs.length) (v:Vl) (f:Zl) (hf:Yh w0 v f) (ht:f.terms.length≤1048576) :
 Calls Pg 160 #[.pointer (some ⟨cb,0,none⟩),v] w0 (QF w0 at_ fld (YL (fs.take i) deps strs f)):=by
 obtain ⟨tv,cv,rfl,hT,hC,ht1,hc1⟩:=hf.op
 refine ZiM ?_;unfold n68
 simp (disch:=try exact DI) only [↓PR,QR,simprocAttr]
 generalize hW:World.alloc w0 _=W
 have e0:Ext w0 W:=by rw [← hW];exact ee
 have o3:W.heap[w0.heap.size]?=some (.cells (Zm f tv cv).toArray 48 (0,0)):=by rw [← hW];simp (disch:=try exact DI) only [↓PR,QR,simprocAttr]
 clear hW
 refine zcr (zS _ f.name) λ w1 e1=>?_
 have e01:=e0.trans e1
 unfold YL
 refine ZY (YU (h.ext e01) _ 1 (by decide)) (λ w2 e2 h0=>?_) (λ w2 e2 h0=>?_)
 · rw [h0,Y8]
   have e02:=e01.trans e2
   have o32:=(e1.trans e2).obj o3
   refine Zy ?_
   simp (disch:=try exact DI) only [↓PR,QR,simprocAttr,↓Zbi,(Za o32).1]
   have eD:Ext w0 w2.drew:=e02.wdrew
   refine Zs (VP (h.ext eD) i hi Yv) ?_
   rintro bv w3 ⟨hB,e3⟩
   refine ⟨e3,?_⟩
   have hb1:=Zd.oneCell hB
   simp (disch:=try exact DI) only [↓PR,QR,simprocAttr]
   refine zcr (B6 w3 _ ⟨ByteArray.empty,fs.take i⟩ f.name ⟨bv,rfl,hB⟩) λ w4 e4=>?_
   refine ⟨e3.trans e4,?_⟩
   simp (disch:=try exact DI) only [↓PR,QR,simprocAttr,↓Zbh]
   have e04:=eD.trans (e3.trans e4)
   have e24:Ext w2 w4:=(Ext.refl w2).wdrew.trans (e3.trans e4)
   refine ZY (YU (h.ext e04) _ 2 (by decide)) (λ w5 e5 h0=>?_) (λ w5 e5 h0=>?_)
   · rw [h0,Y8]
     have e05:=e04.trans e5
     have o35:=(e24.trans e5).obj o32
     clear e24 e04 e3 e4 hB eD e02 e01 e1 e2 o32
     refine Zy ?_
     simp (disch:=try exact DI) only [↓PR,QR,simprocAttr,↓Zbg,(Za o35).1]
     have eD:Ext w5 w5.drew:=(Ext.refl _).wdrew
     have fin5:∀ (w':Wd) (m p6 c:Nat) (L:List (Int×Vl×Nat)) (u0 u1:Vl),Ext w5.drew w'→Xn w' m Vr L c→Da L→w'.heap[p6]?=some (.cells #[u0,u1] 219 (0,0))→w5.heap.size≤p6 →
      LK (.pointer (some ⟨p6,0,none⟩)) (.map (some m)) (.int .i64 f.kind) (KM w5.drew m Vr L c) (λ t5 t6 w=>Yt Pg 122 #[.pointer (some ⟨cb,0,none⟩),t5,.int .i64 4] (Zh (QF w0 at_ fld (orC (Yj (decide (1≤f.kind∧f.kind≤12)) 4) (orC (Yj (decide (YB f=Jh f)) 5) (ZW (fs.take i) deps strs f))))) w λ _ w=>Fu (.pointer (some ⟨cb,0,none⟩)) (.pointer (some ⟨w0.heap.size,0,none⟩)) t6 (QF w0 at_ fld (orC (Yj (decide (1≤f.kind∧f.kind≤12)) 4) (orC (Yj (decide (YB f=Jh f)) 5) (ZW (fs.take i) deps strs f)))) w)
       (QF w0 at_ fld (orC (Yj (decide (1≤f.kind∧f.kind≤12)) 4) (orC (Yj (decide (YB f=Jh f)) 5) (ZW (fs.take i) deps strs f)))) w':=by
      intro w' m p6 c L u0 u1 e' hM hL o6 hp6
      haveI:Xg (KM w5.drew m Vr L c):=⟨⟨w',e',hM⟩⟩
      unfold LK
      rw [jk underlying221 (W7.int underlying42) Hi ⟨w',e',hM⟩]
      obtain ⟨a,b,hab,ha,hb⟩:∃ a b,(Sw.look L f.kind).getD (.agg #[.nilFunc,.nilFunc]) = .agg #[a,b]∧a.oneCell'=true∧b.oneCell'=true:=by
       obtain ⟨hn,k1,k2,k3,k4,k5,k6,k7,k8,k9,k10,k11,k12⟩:=hL
       by_cases hk:1≤f.kind∧f.kind≤12
       · have this:f.kind=1∨f.kind=2∨f.kind=3∨f.kind=4∨f.kind=5∨f.kind=6∨f.kind=7∨f.kind=8∨f.kind=9∨f.kind=10∨f.kind=11∨f.kind=12:=by omega
         rcases this with h | h | h | h | h | h | h | h | h | h | h | h<;>simp only [h,k1,k2,k3,k4,k5,k6,k7,k8,k9,k10,k11,k12,Option.getD_some]<;>exact ⟨_,_,rfl,rfl,rfl⟩
       · rw [hn _ hk];exact ⟨_,_,rfl,rfl,rfl⟩
      rw [hab]
      simp (disch:=try exact DI) only [↓PR,QR,simprocAttr,(Za o6).1,(Za o6).2]
      have e6:Ext w5.drew ((w'.setCell ⟨p6,0,none⟩ a).setCell ⟨p6,1,none⟩ b):=(e'.setCell (show w5.drew.heap.size≤(⟨p6,0,none⟩:Addr).block from hp6) _).setCell (show w5.drew.heap.size≤(⟨p6,1,none⟩:Addr).block from hp6) _
      refine ⟨⟨e6,(hM.setCell _ _).setCell _ _⟩,?_⟩
      have e06:=(e05.trans eD).trans e6
      have o6':=ZE (o:=1) (ZE (o:=0) o6 a) b
      exact Tf e06 (h.ext e06) i hi Yv _ p6 f tv cv ht (ZV.ext hT e06) (Yc.ext hC e06) ((eD.trans e6).obj o35) L hL a b _ hab rfl (by simpa using o6')
     refine ⟨?_,?_⟩
     · refine Zs (Cj _) ?_
       rintro _ w6 ⟨m,L,c,rfl,hm,hM,hL,e6⟩
       refine A6 e6 hM ?_
       have h9:=fin5 (w6.alloc (.cells #[.nilFunc,.nilFunc] 219)) m w6.heap.size c L _ _ (e6.alloc _) (hM.ext ((Ext.refl _).alloc _)) hL (ZG _ _ _) (by have:=e6.size;simpa using this)
       unfold LK at h9
       unfold Zbf
       simp only [Ad]
       haveI:Xg (KM w5.drew m Vr L c):=⟨⟨w6,e6,hM⟩⟩
       rw [jk underlying221 (W7.int underlying42) Hi ⟨w6,e6,hM⟩] at h9 ⊢
       simp (disch:=try exact DI) only [↓PR,QR,simprocAttr]
       simp only [↓Sw.GENQ] at h9
       exact ⟨⟨e6.alloc _,hM.ext ((Ext.refl _).alloc _)⟩,h9⟩
     · refine ⟨(Ext.refl _).alloc _,?_⟩
       refine Zs (Cj _) ?_
       rintro _ w6 ⟨m,L,c,rfl,hm,hM,hL,e6⟩
       refine A6 (((Ext.refl _).alloc _).trans e6) hM ?_
       exact fin5 w6 m w5.heap.size c L _ _ (((Ext.refl _).alloc _).trans e6) hM hL (e6.obj (ZG w5.drew _ _)) (Nat.le_refl _)
   · rw [Wc h0]
     exact Yu (e04.trans e5) rfl h0
 · rw [Wc h0]
   exact Yu (e01.trans e2) rfl h0
end
def jb (a d b:Vl) (YI:KV) (R:RT) (w:Wd):Prop:=
 X0 46 d b R w λ e w=>
 L0 60 e R w λ f w=>
 opV Pg (Instr.alloc 60 true (.tuple #[])) (Zh R) w λ c w=>
 S0 60 c f R w λ w=>
 L0 82 a R w λ g w=>
 F0 60 c 2 R w λ h w=>
 L0 9 h R w λ i w=>
 opV Pg (buildSlice 82 1 #[(0,i)]) (Zh R) w λ j w=>
 opV Pg (Builtin.append_ #[82,82] 82 #[g,j]) (Zh R) w λ k w=>
 S0 82 a k R w λ w=>
 B0 .add 3 true b (.int .i64 1) R w λ l w=>
 YI l w
def jc (c d:Vl) (e:WPr) (R:RT) (w:Wd):Prop:=
 F0 48 d 11 R w λ f w=>
 L0 46 f R w λ a w=>
 G0 46 3 a R w λ g w=>
 YS (λ b w YI=>
 B0 .lss 3 false b g R w λ h w=>
 Zq h (
 jb c a b YI R w) (
 e w)) (.int .i64 0) w
def jd (a b:Vl) (c:WPr) (R:RT) (w:Wd):Prop:=
 L0 82 a R w λ d w=>
 F0 48 b 8 R w λ e w=>
 L0 9 e R w λ f w=>
 opV Pg (buildSlice 82 1 #[(0,f)]) (Zh R) w λ g w=>
 opV Pg (Builtin.append_ #[82,82] 82 #[d,g]) (Zh R) w λ h w=>
 S0 82 a h R w λ w=>
 c w
def yM (b c d e f:Vl) (Zo:KV) (R:RT) (w:Wd):Prop:=
 Zr (λ (w:Wd)=>
 B0 .add 3 true d (.int .i64 1) R w λ g w=>
 Zo g w) λ a=>
 Zq f (
 jd b c a R w) (
 B0 .eql 42 true e (.int .i64 9) R w λ h w=>
 Zq h (
 jc b c a R w) (
 a w))
def GP (a:Vl) (b:KV) (R:RT) (w:Wd):Prop:=
 B0 .eql 42 true a (.int .i64 8) R w λ c w=>
 Zq c (
 b c w) (
 B0 .eql 42 true a (.int .i64 12) R w λ d w=>
 b d w)
def je (f g c:Vl) (Zo:KV) (R:RT) (w:Wd):Prop:=
 X0 22 g c R w λ h w=>
 L0 48 h R w λ i w=>
 opV Pg (Instr.alloc 48 true (.tuple #[])) (Zh R) w λ a w=>
 S0 48 a i R w λ w=>
 F0 48 a 1 R w λ j w=>
 L0 42 j R w λ b w=>
 B0 .eql 42 true b (.int .i64 7) R w λ d w=>
 Zr (λ (k:Vl) (w:Wd)=>
 yM f a c b k Zo R w) λ e=>
 Zq d (
 e d w) (
 GP b e R w)
def jf (a c d b:Vl) (Zo:KV) (R:RT) (w:Wd):Prop:=
 B0 .lss 3 false b d R w λ e w=>
 Zq e (
 je a c b Zo R w) (
 opV Pg (makeFunc (.func 69) #[] #[a]) (Zh R) w λ f w=>
 R (.returned f) w)
def n61 (b:Vl) (R:RT) (w:Wd):Prop:=
 opV Pg (Instr.box 24 b) (Zh R) w λ c w=>
 opV Pg (Instr.alloc 82 true (.tuple #[])) (Zh R) w λ d w=>
 F0 24 c 1 R w λ e w=>
 L0 22 e R w λ a w=>
 G0 22 3 a R w λ f w=>
 YS (λ g w Zo=>
 jf d a f g Zo R w) (.int .i64 0) w
theorem ZiF {t0:Vl} {R:RT} {w:Wd} (h:n61 t0 R w):Calls Pg 32 #[t0] w R:=by
 refine yD func32 ?_
 refine zs<|zr<|yv h λ _ w h=>zm<|zn<|zk<|zs<|zr<|yv h λ _ w h=>zn<|zk<|zs<|zs<|zr<|yv h λ _ w h=>?_
 refine yv h λ _ w h=>yx h λ _ w h=>zm<|zn<|zk<|Zj<|yl1 [5,7,11,12,13,14,15,16,17,18,19,20,21,22,23,24,25,26,27,28,29,30,31,32,33,34,35,36,37,38,39,40,41] 11 h λ σ w next h=>zs<|zr<|yb h λ _ w h=>zn<|zk<|zs<|yC h (λ h=>?_) λ h=>?_
 · refine Zi<|zk<|zs<|Zj<|zs<|zr<|yv h λ _ w h=>yv h λ _ w h=>yv h λ _ w h=>yu h λ w h=>zn<|zk<|zs<|zr<|yv h λ _ w h=>?_
   refine yv h λ _ w h=>zn<|zk<|Zj<|zs<|zs<|zr<|yb h λ _ w h=>zm<|zn<|zk<|yJ1 [17,19,20] 17 h (λ _ _ hkK2 h=>?_) λ σ w h=>?_
   · refine yC h (λ h=>?_) λ h=>?_
     · refine Zi<|zk ?_
       exact zt hkK2 h
     refine zs<|zr<|yb h λ _ w h=>zm<|zn<|zk<|yC h (λ h=>?_) λ h=>?_
     · refine Zi<|zk ?_
       exact zt hkK2 h
     refine zr<|yb h λ _ w h=>zm<|zn<|zk ?_
     exact zt hkK2 h
   refine zk<|yJ0 [7,21,22,23,24,25,26,27,28,29,30,31,32,33,34,35,36,37,38,39,40] h (λ _ _ hkK3 h=>?_) λ σ w h=>?_
   · refine yC h (λ h=>?_) λ h=>?_
     · refine zr<|yv h λ _ w h=>yv h λ _ w h=>yv h λ _ w h=>yS h λ _ w h=>yx h λ _ w h=>yu h λ w h=>zn<|zk ?_
       exact zt hkK3 h
     refine zs<|zr<|yb h λ _ w h=>zm<|zn<|zk<|yC h (λ h=>?_) λ h=>?_
     · refine zs<|zr<|yv h λ _ w h=>yv h λ _ w h=>yx h λ _ w h=>zm<|zn<|zk<|Zj<|yl1 [7,31,32,33,34,35,36,37,38,39,40] 31 h λ σ w next h=>zs<|zr<|yb h λ _ w h=>zn<|zk ?_
       refine zs<|yC h (λ h=>?_) λ h=>?_
       · refine Zi<|zk<|zs<|Zj<|zs<|zr<|yv h λ _ w h=>yv h λ _ w h=>yv h λ _ w h=>yu h λ w h=>zn<|zk<|zr<|yv h λ _ w h=>yv h λ _ w h=>?_
         exact yv h λ _ w h=>yS h λ _ w h=>yx h λ _ w h=>yu h λ w h=>zn<|Zg<|zk<|zr<|yb h λ _ w h=>zm<|zn<|zk<|⟨rfl,h⟩
       refine ZA<|Zc<|Zc<|Zp<|zk ?_
       exact zt hkK3 h
     refine Zi<|zk ?_
     exact zt hkK3 h
   exact Zg<|Zg<|zk<|zr<|yb h λ _ w h=>zm<|zn<|zk<|⟨rfl,h⟩
 exact ZA<|Zc<|Zc<|Zp<|zk<|zs<|zr<|yF h λ _ w h=>zm<|zn<|zk<|Ze<|Zk rfl rfl h
def ZfR (a c:Vl) (Vw:KV) (R:RT) (w:Wd):Prop:=
 X0 22 c a R w λ f w=>
 F0 48 f 11 R w λ g w=>
 L0 46 g R w λ h w=>
 G0 46 3 h R w λ i w=>
 B0 .gtr 3 true i (.int .i64 50) R w λ d w=>
 Zr (λ (b:Vl) (w:Wd)=>
 Zw d (.bool true) b λ j=>
 Zq j (
 R (.returned (.bool false)) w) (
 B0 .add 3 true a (.int .i64 1) R w λ k w=>
 Vw k w)) λ e=>
 Zn d false (
 X0 22 c a R w λ l w=>
 F0 48 l 7 R w λ m w=>
 F0 45 m 1 R w λ n w=>
 L0 43 n R w λ o w=>
 G0 43 3 o R w λ p w=>
 B0 .gtr 3 true p (.int .i64 10) R w λ b w=>
 e b w) (
 e undef w)
def Zb8 (c a b d:Vl) (Zo:KW) (Vw:KV) (R:RT) (w:Wd):Prop:=
 G0 22 3 b R w λ e w=>
 B0 .lss 3 false a e R w λ f w=>
 Zq f (
 ZfR a b Vw R w) (
 B0 .add 3 true c (.int .i64 1) R w λ g w=>
 Zo d g w)
def Zb9 (a:Vl) (R:RT) (w:Wd):Prop:=
 F0 28 a 1 R w λ b w=>
 L0 26 b R w λ c w=>
 G0 26 3 c R w λ d w=>
 B0 .leq 3 true d (.int .i64 70) R w λ e w=>
 R (.returned e) w
def ZfS (d e a:Vl) (Zo:KW) (R:RT) (w:Wd):Prop:=
 F0 28 d 1 R w λ f w=>
 L0 26 f R w λ g w=>
 X0 26 g a R w λ h w=>
 F0 24 h 1 R w λ i w=>
 L0 22 i R w λ b w=>
 G0 22 3 b R w λ j w=>
 B0 .add 3 false e j R w λ c w=>
 B0 .gtr 3 true c (.int .i64 400) R w λ k w=>
 Zq k (
 R (.returned (.bool false)) w) (
 YS (λ l w Vw=>
 Zb8 a l b c Zo Vw R w) (.int .i64 0) w)
def Zca (a f b:Vl) (Zo:KW) (R:RT) (w:Wd):Prop:=
 F0 28 a 1 R w λ g w=>
 L0 26 g R w λ h w=>
 G0 26 3 h R w λ i w=>
 B0 .lss 3 false b i R w λ d w=>
 Zr (λ (c:Vl) (w:Wd)=>
 Zw d c (.bool false) λ j=>
 Zq j (
 ZfS a f b Zo R w) (
 Zb9 a R w)) λ e=>
 Zn d true (
 B0 .leq 3 true b (.int .i64 70) R w λ c w=>
 e c w) (
 e undef w)
def n8 (a:Vl) (R:RT) (w:Wd):Prop:=
 opV Pg (Instr.box 28 a) (Zh R) w λ b w=>
 Qi (λ c d w Zo=>
 Zca b c d Zo R w) (.int .i64 0) (.int .i64 0) w
set_option maxHeartbeats 40000000 in
theorem n8s {t0:Vl} {R:RT} {w:Wd} (h:n8 t0 R w):Calls Pg 33 #[t0] w R:=by
 refine yD func33 ?_
 refine zs<|zr<|yv h λ _ w h=>zm<|zn<|zk<|zs<|zr<|zm<|zn<|zk<|zs<|zs<|zr<|zm ?_
 refine zn<|zk<|Zj<|yl2 [2,3,4,5,6,7,8,9,10,11,12,13,14,15,16,17,18,19,20,21,22,23,24,25,26,27,28,29,30,31,32,33,34,35,36,37,38,39,40,41,42,43,44,45,46,47,48,49,50,51,52] 3 4 h λ σ w next h=>zs<|zs<|Zu<|yG 6<|zm<|yv h λ _ w h=>yv h λ _ w h=>yx h λ _ w h=>yb h λ _ w h=>zm<|zn ?_
 refine yg1 2 5 true [13,14] 14 h (λ _ T hT h=>?_) λ σ w h=>?_
 · refine zm<|yb h λ _ w h=>zn ?_
   exact zt hT h
 refine yG 1<|yp h λ _ h=>zn<|ZQ<|zk<|yC h (λ h=>?_) λ h=>?_
 · refine Zi<|zk<|zs<|Zj<|zs<|zr<|yv h λ _ w h=>yv h λ _ w h=>zm<|yv h λ _ w h=>yv h λ _ w h=>yv h λ _ w h=>zm<|zn<|zk ?_
   refine zs<|zr<|zm<|zm<|yx h λ _ w h=>yb h λ _ w h=>zm<|zn<|zk<|zs<|zs<|zr<|zm<|yb h λ _ w h=>zn ?_
   refine zk<|yC h (λ h=>zs<|zr<|zm<|zn<|zk<|Ze<|Zb<|Zf<|Zb<|Zb<|Zf<|Zb<|Zk rfl rfl h) λ h=>Zi<|zk<|zs<|zr<|zm<|zn<|zk<|Zj<|yl1 [2,6,30,31,32,33,34,35,36,37,38,39,40,41,42,43,44,45,46,47,48,49,50,51,52] 6 h λ σ w next h=>zs<|zs<|zr ?_
   refine zm<|zm<|yx h λ _ w h=>yb h λ _ w h=>zn<|zk<|yC h (λ h=>?_) λ h=>?_
   · refine Zi<|zk<|zs<|Zj<|zs<|Zu<|yG 8<|zm<|zm<|yv h λ _ w h=>yv h λ _ w h=>yv h λ _ w h=>yx h λ _ w h=>yb h λ _ w h=>zm ?_
     refine zn<|yg1 8 7 false [44,45,46,47,48,49,50,51] 51 h (λ _ T hT h=>?_) λ σ w h=>?_
     · refine zm<|zm<|yv h λ _ w h=>yv h λ _ w h=>yv h λ _ w h=>yv h λ _ w h=>yx h λ _ w h=>yb h λ _ w h=>zn ?_
       exact zt hT h
     refine yG 1<|yp h λ _ h=>zn<|ZQ<|zk<|yC h (λ h=>?_) λ h=>?_
     · refine zs<|zr<|zm<|zn<|zk<|Ze<|Zf<|Zb<|Zb<|Zf<|Zf<|Zb<|Zb<|Zf<|Zb ?_
       exact Zk rfl rfl h
     exact Zi<|Zg<|zk<|zr<|zm<|yb h λ _ w h=>zm<|zn<|zk<|⟨rfl,h⟩
   exact ZA<|Zc<|Zc<|Zp<|Zg<|zk<|zr<|zm<|yb h λ _ w h=>zm<|zn<|zk<|⟨rfl,h⟩
 refine ZA<|Zc<|Zc<|Zp<|zk<|zs<|zr<|yv h λ _ w h=>yv h λ _ w h=>yx h λ _ w h=>yb h λ _ w h=>zm<|zn<|zk<|Ze ?_
 exact Zk rfl rfl h
def T2 (d e:Vl) (R:RT) (w:Wd):Prop:=
 Zw d e (.bool false) λ b=>
 Zr (λ (a:Vl) (w:Wd)=>
 Zw b a (.bool false) λ f=>
 R (.returned f) w) λ c=>
 Zn b true (
 C0 75 #[(.int .i64 1),(.int .i64 3),(.int .i64 8),(.int .i64 96)] R w λ a w=>
 c a w) (
 c undef w)
def T3 (d e:Vl) (R:RT) (w:Wd):Prop:=
 Zw d e (.bool false) λ b=>
 Zr (λ (a:Vl) (w:Wd)=>
 T2 b a R w) λ c=>
 Zn b true (
 C0 75 #[(.int .i64 1),(.int .i64 2),(.int .i64 8),(.int .i64 16)] R w λ a w=>
 c a w) (
 c undef w)
def T4 (d e:Vl) (R:RT) (w:Wd):Prop:=
 Zw d e (.bool false) λ b=>
 Zr (λ (a:Vl) (w:Wd)=>
 T3 b a R w) λ c=>
 Zn b true (
 C0 77 #[(.int .i64 1),(.int .i64 2),(.int .i64 8),(.int .i64 8)] R w λ a w=>
 c a w) (
 c undef w)
def T5 (d e:Vl) (R:RT) (w:Wd):Prop:=
 Zw d e (.bool false) λ b=>
 Zr (λ (a:Vl) (w:Wd)=>
 T4 b a R w) λ c=>
 Zn b true (
 C0 77 #[(.int .i64 1),(.int .i64 1),(.int .i64 3),(.int .i64 3)] R w λ a w=>
 c a w) (
 c undef w)
def T6 (d e f:Vl) (R:RT) (w:Wd):Prop:=
 Zw e f (.bool false) λ b=>
 Zr (λ (a:Vl) (w:Wd)=>
 T5 b a R w) λ c=>
 Zn b true (
 B0 .eql 31 true d (.int .i64 0) R w λ a w=>
 c a w) (
 c undef w)
def T7 (d e f g:Vl) (R:RT) (w:Wd):Prop:=
 Zw f g (.bool false) λ b=>
 Zr (λ (a:Vl) (w:Wd)=>
 T6 e b a R w) λ c=>
 Zn b true (
 N0 d R w λ a w=>
 c a w) (
 c undef w)
def T8 (d e f g h i:Vl) (R:RT) (w:Wd):Prop:=
 Zw h i (.bool false) λ b=>
 Zr (λ (a:Vl) (w:Wd)=>
 T7 f g b a R w) λ c=>
 Zn b true (
 L0 74 d R w λ j w=>
 C0 76 #[j,e,(.int .i64 56),(.int .i64 152)] R w λ a w=>
 c a w) (
 c undef w)
def T9 (d e f g h i j k:Vl) (R:RT) (w:Wd):Prop:=
 Zw j k (.bool false) λ b=>
 Zr (λ (a:Vl) (w:Wd)=>
 T8 e g h i b a R w) λ c=>
 Zn b true (
 L0 74 d R w λ l w=>
 C0 76 #[l,f,(.int .i64 1),(.int .i64 4)] R w λ a w=>
 c a w) (
 c undef w)
def Zaa (d e f g h i j k b:Vl) (R:RT) (w:Wd):Prop:=
 Zr (λ (a:Vl) (w:Wd)=>
 T9 e f h i j k b a R w) λ c=>
 Zn b true (
 L0 74 d R w λ l w=>
 C0 76 #[l,g,(.int .i64 8),(.int .i64 32)] R w λ a w=>
 c a w) (
 c undef w)
def OL (b c d e f g a:Vl) (R:RT) (w:Wd):Prop:=
 E0 a 0 R w λ h w=>
 E0 a 1 R w λ i w=>
 C0 75 #[(.int .i64 0),(.int .i64 1),(.int .i64 0),(.int .i64 24)] R w λ j w=>
 Zaa b c d e f g h i j R w
def OM (c d e f a:Vl) (R:RT) (w:Wd):Prop:=
 E0 a 0 R w λ g w=>
 E0 a 1 R w λ h w=>
 opV Pg (Instr.alloc 74 true (.tuple #[])) (Zh R) w λ b w=>
 S0 74 b g R w λ w=>
 C0 72 #[] R w λ i w=>
 C0 74 #[i,(.int .i64 0)] R w λ j w=>
 OL c d b e f h j R w
def ON (c d a:Vl) (R:RT) (w:Wd):Prop:=
 E0 a 0 R w λ e w=>
 E0 a 1 R w λ f w=>
 opV Pg (Instr.alloc 74 true (.tuple #[])) (Zh R) w λ b w=>
 S0 74 b e R w λ w=>
 C0 72 #[] R w λ g w=>
 C0 71 #[g,(.int .i64 1)] R w λ h w=>
 OM c b d f h R w
def OO (a:Vl) (R:RT) (w:Wd):Prop:=
 E0 a 0 R w λ c w=>
 E0 a 1 R w λ d w=>
 opV Pg (Instr.alloc 74 true (.tuple #[])) (Zh R) w λ b w=>
 S0 74 b c R w λ w=>
 C0 72 #[] R w λ e w=>
 C0 73 #[e,(.int .i64 0)] R w λ f w=>
 ON b d f R w
def n11 (R:RT) (w:Wd):Prop:=
 C0 72 #[] R w λ a w=>
 C0 71 #[a,(.int .i64 0)] R w λ b w=>
 OO b R w
theorem ZhU {R:RT} {w:Wd} (h:n11 R w):Calls Pg 34 #[] w R:=by
 refine yD func34 ?_
 refine zs<|zr<|zm<|zn<|zk<|zs<|zr<|yc h c72 λ _ w h=>yc h c71 λ _ w h=>zm<|yv h λ _ w h=>yv h λ _ w h=>yv h λ _ w h=>yu h λ w h=>zm ?_
 refine zn<|zk<|zs<|zr<|yc h c72 λ _ w h=>yc h c73 λ _ w h=>zm<|yv h λ _ w h=>yv h λ _ w h=>yv h λ _ w h=>yu h λ w h=>zm<|zn<|zk<|zs ?_
 refine zr<|yc h c72 λ _ w h=>yc h c71 λ _ w h=>zm<|yv h λ _ w h=>yv h λ _ w h=>yv h λ _ w h=>yu h λ w h=>zm<|zn<|zk<|zs<|zr<|yc h c72 λ _ w h=>yc h c74 λ _ w h=>?_
 refine zm<|yv h λ _ w h=>yv h λ _ w h=>zm<|zm<|zn<|zk<|zs<|Zu<|yG 2<|yc h c75 λ _ w h=>zm<|zn<|yg1 3 1 true [31,32,33] 33 h (λ _ T hT h=>?_) λ σ w h=>?_
 · refine yv h λ _ w h=>zm<|yc h c76 λ _ w h=>zn ?_
   exact zt hT h
 refine yG 2<|yp h λ _ h=>zm<|zn<|yg1 3 6 true [36,37,38] 38 h (λ _ T hT h=>?_) λ σ w h=>?_
 · refine yv h λ _ w h=>zm<|yc h c76 λ _ w h=>zn ?_
   exact zt hT h
 refine yG 2<|yp h λ _ h=>zm<|zn<|yg1 3 11 true [41,42,43] 43 h (λ _ T hT h=>?_) λ σ w h=>?_
 · refine yv h λ _ w h=>zm<|yc h c76 λ _ w h=>zn ?_
   exact zt hT h
 refine yG 2<|yp h λ _ h=>zm<|zn<|yg1 2 16 true [46,47] 47 h (λ _ T hT h=>?_) λ σ w h=>?_
 · refine zm<|yv h λ _ w h=>zn ?_
   exact zt hT h
 refine yG 2<|yp h λ _ h=>zm<|zn<|yg1 2 20 true [50,51] 51 h (λ _ T hT h=>?_) λ σ w h=>?_
 · refine zm<|yb h λ _ w h=>zn ?_
   exact zt hT h
 refine yG 2<|yp h λ _ h=>zm<|zn<|yg1 1 24 true [54] 54 h (λ _ T hT h=>?_) λ σ w h=>?_
 · refine yc h c77 λ _ w h=>zn ?_
   exact zt hT h
 refine yG 2<|yp h λ _ h=>zm<|zn<|yg1 1 27 true [57] 57 h (λ _ T hT h=>?_) λ σ w h=>?_
 · refine yc h c77 λ _ w h=>zn ?_
   exact zt hT h
 refine yG 2<|yp h λ _ h=>zm<|zn<|yg1 1 30 true [60] 60 h (λ _ T hT h=>?_) λ σ w h=>?_
 · refine yc h c75 λ _ w h=>zn ?_
   exact zt hT h
 refine yG 2<|yp h λ _ h=>zm<|zn<|yg1 1 33 true [63] 63 h (λ _ T hT h=>?_) λ σ w h=>?_
 · refine yc h c75 λ _ w h=>zn ?_
   exact zt hT h
 exact yG 2<|yp h λ _ h=>zm<|zn<|ZQ<|zk<|Ze<|Zk rfl rfl h
def O1 (e a:Vl) (R:RT) (w:Wd):Prop:=
 E0 a 0 R w λ f w=>
 E0 a 1 R w λ g w=>
 opV Pg (Instr.alloc 30 true (.tuple #[])) (Zh R) w λ b w=>
 S0 30 b f R w λ w=>
 opV Pg (Instr.alloc 119 true (.tuple #[])) (Zh R) w λ c w=>
 B0 .eql 31 true g (.int .i64 0) R w λ h w=>
 Zr (λ (w:Wd)=>
 opV Pg (makeFunc (.func 79) #[] #[b,c]) (Zh R) w λ i w=>
 R (.returned i) w) λ d=>
 Zq h (
 L0 28 e R w λ j w=>
 C0 78 #[j] R w λ k w=>
 S0 119 c k R w λ w=>
 d w) (
 d w)
def ZeU (b:Vl) (R:RT) (w:Wd):Prop:=
 opV Pg (Instr.box 28 b) (Zh R) w λ a w=>
 L0 28 a R w λ c w=>
 C0 20 #[c] R w λ d w=>
 O1 a d R w
theorem ZeV {t0:Vl} {R:RT} {w:Wd} (h:ZeU t0 R w):Calls Pg 35 #[t0] w R:=by
 refine yD func35 ?_
 refine zs<|zr<|yv h λ _ w h=>zm<|zn<|zk<|zs<|zr<|yv h λ _ w h=>yc h c20 λ _ w h=>zm<|yv h λ _ w h=>yv h λ _ w h=>yv h λ _ w h=>yu h λ w h=>?_
 refine zm<|zn<|zk<|zs<|zr<|yv h λ _ w h=>zn<|zk<|zs<|zs<|zr<|zm<|yb h λ _ w h=>zn<|zk ?_
 refine yJ0 [13,14] h (λ _ _ hkK1 h=>?_) λ σ w h=>?_
 · refine yC h (λ h=>?_) λ h=>?_
   · refine zr<|yv h λ _ w h=>yc h c78 λ _ w h=>yu h λ w h=>zn<|zk ?_
     exact zt hkK1 h
   refine Zi<|zk ?_
   exact zt hkK1 h
 exact zk<|zs<|zr<|yF h λ _ w h=>zm<|zn<|zk<|Ze<|Zk rfl rfl h
def Ra (a b c:Vl) (Zo:KW) (R:RT) (w:Wd):Prop:=
 L0 76 c R w λ d w=>
 opV Pg (buildSlice 71 1 #[(0,d)]) (Zh R) w λ e w=>
 opV Pg (Builtin.append_ #[71,71] 71 #[a,e]) (Zh R) w λ f w=>
 B0 .add 3 true b (.int .i64 1) R w λ g w=>
 Zo f g w
def ZaS (b:Vl) (a:WPr) (d:KV) (R:RT) (w:Wd):Prop:=
 qV Pg a (Instr.extract b 0) λ f=>
 qV Pg a (Instr.extract b 1) λ e=>
 opV Pg (Instr.alloc 76 true (.tuple #[])) (Zh R) w λ c w=>
 a w∧(
 S0 76 c e R w λ w=>
 Xt w λ g w=>
 d c w)
def ZaT (b c:Vl) (a:WPr) (d:KV) (R:RT) (w:Wd):Prop:=
 a w∧(
 qV Pg a (Instr.extract c 0) λ f=>
 qV Pg a (Instr.extract c 1) λ e=>
 S0 76 b e R w λ w=>
 Xt w λ g w=>
 d b w)
def ZaU (e b f:Vl) (a:WPr) (Zo:KW) (R:RT) (w:Wd):Prop:=
 I0 28 e a λ g=>
 J0 28 e 1 a λ j=>
 I0 26 j a λ k=>
 M0 26 k f a λ l=>
 I0 24 l a λ h=>
 Zr (λ (c:Vl) (w:Wd)=>
 Ra b f c Zo R w) λ i=>
 (
 C0 80 #[g,h,b] R w λ d w=>
 a w∧(
 ZaS d a i R w))∧(
 opV Pg (Instr.alloc 76 true (.tuple #[])) (Zh R) w λ c w=>
 a w∧(
 C0 80 #[g,h,b] R w λ d w=>
 ZaT c d a i R w))
def ZaV (a b c:Vl) (Zo:KW) (R:RT) (w:Wd):Prop:=
 F0 28 a 1 R w λ d w=>
 L0 26 d R w λ e w=>
 G0 26 3 e R w λ f w=>
 B0 .lss 3 false c f R w λ g w=>
 Zq g (
 Yy w λ h w=>
 ZaU a b c h Zo R w) (
 R (.returned b) w)
def n43 (a:Vl) (R:RT) (w:Wd):Prop:=
 opV Pg (Instr.box 28 a) (Zh R) w λ b w=>
 Qi (λ c d w Zo=>
 ZaV b c d Zo R w) (Value.slice none 0 0) (.int .i64 0) w
theorem Zio {t0:Vl} {R:RT} {w:Wd} (h:n43 t0 R w):Calls Pg 36 #[t0] w R:=by
 refine yD func36 ?_
 refine zs<|zr<|yv h λ _ w h=>zm<|zn<|zk<|zs<|zr<|zm<|zn<|zk<|zs<|zs<|zr<|zm ?_
 refine zn<|zk<|Zj<|yl2 [3,4,5,6,7,8,9,10,11,12,13,14,15,16,17,18,19,20,21,22,23,24,25,26,27,28] 3 4 h λ σ w next h=>zs<|zs<|zr<|zm<|yv h λ _ w h=>yv h λ _ w h=>yx h λ _ w h=>yb h λ _ w h=>zn<|zk<|yC h (λ h=>?_) λ h=>?_
 · refine Zi<|zk<|zs<|Zj<|zs<|yh [5,6,14,15,16,17,18,19,20,21,22,23,24] h λ C hC h=>ye 0 hC h λ _ h=>?_
   refine ye 1 hC h λ _ h=>?_
   refine ye 2 hC h λ _ h=>?_
   refine yw 3 hC ?_
   refine ye 4 hC h λ _ h=>?_
   refine ye 5 hC h λ _ h=>?_
   refine yw 6 hC ?_
   refine VR h (λ K3 hK h=>?_)
   refine UF [5,6,14,22,23,24] (λ ρ w=>K3 (ρ 6) w) (λ T hT=>?_) (λ σ w h=>?_)
   · obtain ⟨h0,h1⟩:=h
     refine QV 7 11 rfl rfl (by kernel_rfl) (λ _ _=>rfl) (λ _ _=>rfl) ?_ ?_
     · have h:=h0
       refine yc h c80 λ _ w h=>zn ?_
       obtain ⟨hC,h⟩:=h
       refine ⟨_,λ _ h=>h,hC,?_⟩
       refine yw 8 hC ?_
       refine ye 9 hC h λ _ h=>?_
       refine ye 10 hC h λ _ h=>?_
       refine yo 11 ?_
       refine yv h λ _ w h=>zn ?_
       obtain ⟨hC,h⟩:=h
       refine ⟨hC,?_⟩
       refine yw 12 hC ?_
       refine yq 13 1 ?_
       refine yu h λ w h=>zn ?_
       obtain ⟨C4,hC,h⟩:=h
       refine ⟨C4,hC,?_⟩
       refine yz ?_
       exact zt hT h
     have h:=h1
     refine yv h λ _ w h=>zn ?_
     obtain ⟨hC,h⟩:=h
     refine ⟨_,λ _ h=>h,hC,?_⟩
     refine yo 7 ?_
     refine yc h c80 λ _ w h=>zn ?_
     obtain ⟨hC,h⟩:=h
     refine ⟨hC,?_⟩
     refine yw 8 hC ?_
     refine ye 9 hC h λ _ h=>?_
     refine ye 10 hC h λ _ h=>?_
     refine yw 12 hC ?_
     refine yq 13 1 ?_
     refine yu h λ w h=>zn ?_
     obtain ⟨C5,hC,h⟩:=h
     refine ⟨C5,hC,?_⟩
     refine yz ?_
     exact zt hT h
   subst hK
   refine zk<|zr<|zm<|yv h λ _ w h=>yS h λ _ w h=>yx h λ _ w h=>zm<|zn<|Zg<|zk<|zr<|zm<|yb h λ _ w h=>zm<|zn ?_
   exact zk<|⟨rfl,h⟩
 exact ZA<|Zc<|Zc<|Zp<|zk<|zs<|zr<|zm<|zm<|zn<|zk<|Ze<|Zk rfl rfl h
def n13 (c:Vl) (R:RT) (w:Wd):Prop:=
 opV Pg (Instr.box 76 c) (Zh R) w λ a w=>
 opV Pg (Instr.alloc 74 true (.tuple #[])) (Zh R) w λ b w=>
 F0 76 a 0 R w λ d w=>
 L0 3 d R w λ e w=>
 F0 76 a 1 R w λ f w=>
 L0 3 f R w λ g w=>
 opV Pg (Instr.build 74 #[(0,e),(1,g)]) (Zh R) w λ h w=>
 S0 74 b h R w λ w=>
 qW Pg 74 b w λ r0=>
 R (.returned r0) w
theorem ZhW {t0:Vl} {R:RT} {w:Wd} (h:n13 t0 R w):Calls Pg 37 #[t0] w R:=by
 refine yD func37 ?_
 refine zs<|zr<|yv h λ _ w h=>yv h λ _ w h=>zn<|zk<|zs<|zr<|yv h λ _ w h=>yv h λ _ w h=>yv h λ _ w h=>yv h λ _ w h=>yB h λ _ w h=>yu h λ w h=>zn ?_
 exact zk<|Ze<|Ya rfl rfl h
def Xx (f:Zl):List BAr:=if f.kind=7∨f.kind=8∨f.kind=12 then [f.of] else if f.kind=9 then f.cases.map (·.of) else []
def Z9 (l:List Zl):List BAr:=l.flatMap Xx
abbrev Jc (s:BAr):List Vl:=[.string s]
theorem Hx {w:Wd} {QP:PEn} {k:KV} {base:Nat} {v:Vl} {l:List BAr} (s:BAr) {b:Nat} (BS:Yk w base 9 1 Jc v l) (hc:w.cell? ⟨b,0,none⟩=some (.string s)) (GE:base≤w.heap.size) (hl:l.length≤1048576)
 (hk:∀ v' w',Yk w' base 9 1 Jc v' (l++[s])→w.grownBy w' v.ownBlock→k v' w') :
 opV Pg (Builtin.append_ #[82,82] 82 #[v,.slice (some ⟨b,0,none⟩) 1 1]) QP w k:=by
 have hby:=by9
 refine QT (l':=[s]) underlying82 ty9 rfl (by decide) (λ _=>rfl) (λ x _ u hu=>by simp at hu;subst hu;rfl) BS (λ j x hx=>?_) GE ?_ (by simp;omega) hk
 · cases j with
   | zero=>
    simp at hx;subst hx
    intro j v hv
    cases j with
    | zero=>simp at hv;subst hv;simpa using hc
    | succ j=>simp at hv
   | succ j=>simp at hx
 · simp only [List.length_cons,List.length_nil]
   exact Nat.le_trans (Nat.mul_le_mul (Nat.add_le_add_right hl 1) hby) (by decide)
def Q3 (w:Wd) (pb:Nat) (sv:Vl) (l:List BAr):Prop:=w.cell? ⟨pb,0,none⟩=some sv∧Zd w 1 zM sv l∧∀ A m c,sv = .slice (some A) m c→pb < A.block
theorem Q3.ext {w w':Wd} {pb:Nat} {sv:Vl} {l:List BAr} (h:Q3 w pb sv l) (e:Ext w w'):Q3 w' pb sv l:=⟨e.cell h.1,h.2.1.ext Lk e,h.2.2⟩
theorem qx {w0 w:Wd} {QP:PEn} {ku:WPr} {pb lo p:Nat} {sv:Vl} {l:List BAr} (s:BAr) {T T':TypeId} (hp:p=w.heap.size) (e:Ext w0 w) (h0:w0.heap.size≤pb) (hlo:pb < lo) (o3:w.heap[pb]?=some (.cells #[sv] T (0,0))) (hO:Yk w lo 9 1 Jc sv l) (hs:lo≤w.heap.size) (hl:l.length≤1048576)
 (hk:∀ w' sv',Ext w0 w'→w'.heap[pb]?=some (.cells #[sv'] T (0,0))→Yk w' lo 9 1 Jc sv' (l++[s])→lo≤w'.heap.size→ku w') :
 opV Pg (Builtin.append_ #[82,82] 82 #[sv,.slice (some ⟨p,0,none⟩) 1 1]) QP (w.alloc (.cells #[.string s] T')) (λ t w=>opU Pg (storeAt 82 (.pointer (some ⟨pb,0,none⟩)) t) QP w ku):=by
 subst hp
 have l3:pb < w.heap.size:=(Array.getElem?_eq_some_iff.1 o3).1
 have o3':=((Ext.refl w).alloc (.cells #[.string s] T')).obj o3
 refine Hx s (hO.ext ((Ext.refl w).alloc _)) (by rw [Ko];rfl) (Nat.le_trans hs (by simp)) hl ?_
 intro v' w' hO' hg
 have Xv:some pb≠sv.ownBlock:=by
  intro h
  have:=hO.lt pb h.symm
  omega
 have o3w:w'.heap[pb]?=some (.cells #[sv] T (0,0)):=by rw [hg.block pb (by simp;omega) Xv];exact o3'
 have eg:Ext w0 w':=(e.alloc _).grown hg (λ k hk=>by have:=hO.lt k hk;omega)
 have hv:=(hO'.slice (E:=zM) (λ _=>rfl) (λ _ _=>rfl)).oneCell
 rw [CI Zct hv ((Za o3w).1 0) ((Za o3w).2 0)]
 refine hk _ v' (eg.setCell h0 _) ?_ ((hO'.range.only (YY.setCell w' pb 0 v') (.inr (.inl hlo))).1) ?_
 · have:=ZE (o:=0) o3w v'
   simpa using this
 · have:=hg.size
   simp at this ⊢
   omega
theorem jU (w0:Wd) (v:Vl) (m:ZC) (hm:Qr w0 v m) (hb:(Z9 m.fields).length≤1048576) :
 Ret Pg 32 #[v] w0 λ r w'=>∃ pb sv,r = .func (.func 69) #[] #[.pointer (some ⟨pb,0,none⟩)]∧Q3 w' pb sv (Z9 m.fields)∧w0.heap.size≤pb∧Ext w0 w':=by
 obtain ⟨fv,rfl,hF⟩:=hm
 obtain ⟨A,c,rfl,hlc,hcm,hlm,Y3⟩:=Zd.open hF
 refine ZiF (R:=ZO _) ?_;unfold n61
 simp (disch:=try exact DI) only [↓PR,QR,simprocAttr]
 generalize hW:World.alloc (World.alloc w0 _) _=W
 have e0:Ext w0 W:=by rw [← hW];exact ee
 have VF:W.heap.size=w0.heap.size+1+1:=by rw [← hW];simp only [World.size_alloc]
 have o3:W.heap[w0.heap.size+1]?=some (.cells #[.slice none 0 0] 82 (0,0)):=by rw [← hW];simp (disch:=try exact DI) only [↓PR,QR,simprocAttr]
 clear hW
 refine ZF (λ a0 w=>∃ (k:Nat) , a0 = .int .i64 (k:Int)∧k≤m.fields.length∧Ext w0 w∧(∃ sv,w.heap[w0.heap.size+1]?=some (.cells #[sv] 82 (0,0))∧Yk w W.heap.size 9 1 Jc sv (Z9 (m.fields.take k))∧W.heap.size≤w.heap.size)) (λ a0 _=>m.fields.length - (intOf a0).toNat) ⟨0,rfl,Nat.zero_le _,ee,⟨_,o3,Yk.nil _ _ _ _ _,Nat.le_refl _⟩⟩ ?_
 rintro _ w ⟨k,rfl,hk,e,hI⟩
 have se:=e.size
 rcases ZD hk with ⟨x,hx,hd,Yv,ZJ⟩ | ⟨hk,hd,ZJ⟩
 · obtain ⟨sv,o3,hO,hsW⟩:=hI
   obtain ⟨b,o,cs,rfl,hl,hA,hE⟩:=Y3 k x hx
   obtain ⟨tv,cv,rfl,hT,hC,ht1,hc1⟩:=hE.op
   have hpre:(Z9 (m.fields.take (k+1)))=Z9 (m.fields.take k)++Xx x:=by unfold Z9;rw [Z4 hx,List.flatMap_append];simp
   have hle:(Z9 (m.fields.take (k+1))).length≤1048576:=by
    refine Nat.le_trans ?_ hb
    have:m.fields=m.fields.take (k+1)++m.fields.drop (k+1):=(List.take_append_drop _ _).symm
    conv=>rhs;rw [this]
    unfold Z9
    rw [List.flatMap_append,List.length_append]
    omega
   rw [hpre,List.length_append] at hle
   have hsv:=(hO.slice (E:=zM) (λ _=>rfl) (λ _ _=>rfl)).oneCell
   simp (disch:=try exact DI) only [↓PR,QR,simprocAttr,↓jb,↓jc,↓jd,↓yM,↓GP,↓je,↓jf,ZJ,hA.c15]
   generalize hW1:World.alloc w _=w1
   have e1:Ext w w1:=by rw [← hW1];exact ee
   have o5:w1.heap[w.heap.size]?=some (.cells (Zm x tv cv).toArray 48 (0,0)):=by rw [← hW1];simp (disch:=try exact DI) only [↓PR,QR,simprocAttr]
   clear hW1
   have s1:=e1.size
   have e01:=e.trans e1
   have o31:=e1.obj o3
   have hO1:=hO.ext e1
   have l5:w.heap.size < w1.heap.size:=(Array.getElem?_eq_some_iff.1 o5).1
   have l3:w0.heap.size+1 < w1.heap.size:=(Array.getElem?_eq_some_iff.1 o31).1
   by_cases hr:x.kind=7∨x.kind=8∨x.kind=12
   · have hrf:Xx x=[x.of]:=by unfold Xx;rw [if_pos hr]
     rw [hrf] at hpre hle
     have key:∀ b,b=true→yM (.pointer (some ⟨w0.heap.size+1,0,none⟩)) (.pointer (some ⟨w.heap.size,0,none⟩)) (.int .i64 (k:Int)) (.int .i64 x.kind) (.bool b) (λ a0' w'=>(∃ k:Nat,a0'=Value.int IntKind.i64 (k:Int)∧k≤m.fields.length∧Ext w0 w'∧∃ sv,w'.heap[w0.heap.size+1]?=some (.cells #[sv] 82 (0,0))∧Yk w' W.heap.size 9 1 Jc sv (Z9 (m.fields.take k))∧W.heap.size≤w'.heap.size)∧m.fields.length - (intOf a0').toNat < m.fields.length - (intOf (Value.int IntKind.i64 (k:Int))).toNat)
      (ZO λ r w'=>∃ pb sv,r = .func (.func 69) #[] #[.pointer (some ⟨pb,0,none⟩)]∧Q3 w' pb sv (Z9 m.fields)∧w0.heap.size≤pb∧Ext w0 w') w1:=by
      rintro b rfl
      simp (disch:=try exact DI) only [↓PR,QR,simprocAttr,↓jb,↓jc,↓jd,↓yM,↓GP,↓je,↓jf,(Za o31).1,(Za o5).1]
      refine qx x.of rfl e01 (by omega) (by omega) o31 hO1 (by omega) (by simp at hle;omega) ?_
      intro w2 sv2 e2 o32 hO2 hs2
      rw [← hpre] at hO2
      simp (disch:=try exact DI) only [↓PR,QR,simprocAttr]
      exact ⟨⟨k+1,rfl,by omega,ee,⟨sv2,o32,hO2,hs2⟩⟩,ZM (kd := .i64) Yv⟩
     simp only [World.size_alloc]
     rcases hr with h | h | h
     · rw [h] at key ⊢
       simp (disch:=try exact DI) only [↓PR,QR,simprocAttr]
       exact key true rfl
     · rw [h] at key ⊢
       simp (disch:=try exact DI) only [↓PR,QR,simprocAttr,↓GP]
       exact key true rfl
     · rw [h] at key ⊢
       simp (disch:=try exact DI) only [↓PR,QR,simprocAttr,↓GP]
       exact key true rfl
   · have h7:(x.kind == 7)=false:=by simp;omega
     have h8:(x.kind == 8)=false:=by simp;omega
     have h12:(x.kind == 12)=false:=by simp;omega
     simp only [World.size_alloc]
     by_cases h9:x.kind=9
     · have h9':(x.kind == 9)=true:=by simp [h9]
       have hrf:Xx x=x.cases.map (·.of):=by unfold Xx;rw [if_neg hr,if_pos h9]
       rw [hrf] at hpre hle
       obtain ⟨A',c',rfl,hlc',hcm',hlm',hel'⟩:=Zd.open hC
       simp (disch:=try exact DI) only [↓PR,QR,simprocAttr,↓jb,↓jc,↓jd,↓yM,↓GP,↓je,↓jf,h7,h8,h12,h9',(Za o5).1]
       refine ZF (λ a0 wa=>∃ (ka:Nat) , a0 = .int .i64 (ka:Int)∧ka≤x.cases.length∧Ext w0 wa∧(∃ sv,wa.heap[w0.heap.size+1]?=some (.cells #[sv] 82 (0,0))∧Yk wa W.heap.size 9 1 Jc sv (Z9 (m.fields.take k)++(x.cases.take ka).map (·.of))∧W.heap.size≤wa.heap.size)) (λ a0 _=>x.cases.length - (intOf a0).toNat) ⟨0,rfl,Nat.zero_le _,ee,⟨sv,o31,by simpa using hO1,by omega⟩⟩ ?_
       rintro _ wa ⟨ka,rfl,hka,ea,hIa⟩
       have sea:=ea.size
       rcases ZD hka with ⟨xa,hxa,hda,hlta,Ao⟩ | ⟨hka,hda,Ao⟩
       · obtain ⟨sva,oa,hOa,hsa⟩:=hIa
         obtain ⟨b',o',cs',rfl,_,hA',rfl⟩:=hel' ka xa hxa
         have la:w0.heap.size+1 < wa.heap.size:=(Array.getElem?_eq_some_iff.1 oa).1
         have oa':=((Ext.refl wa).alloc (.cells #[.int .i64 xa.low,.int .i64 xa.high,.string xa.of] 60)).obj oa
         have hla:(x.cases.take ka).length≤x.cases.length:=by rw [List.length_take];omega
         simp (disch:=try exact DI) only [↓PR,QR,simprocAttr,↓jb,↓jc,↓jd,↓yM,↓GP,↓je,↓jf,Ao,hA'.c3,(Za oa').1,(Za oa).1]
         refine qx xa.of (by simp only [World.size_alloc]) (ea.alloc _) (by omega) (by omega) oa' (hOa.ext ((Ext.refl wa).alloc _)) (by simp;omega) (by simp at hle hla ⊢;omega) ?_
         intro w2 sv2 e2 o32 hO2 hs2
         simp (disch:=try exact DI) only [↓PR,QR,simprocAttr]
         have hO3:Yk w2 W.heap.size 9 1 Jc sv2 (Z9 (m.fields.take k)++(x.cases.take (ka+1)).map (·.of)):=by
          rw [Z4 hxa,List.map_append,← List.append_assoc];exact hO2
         exact ⟨⟨ka+1,rfl,by omega,ee,⟨sv2,o32,hO3,hs2⟩⟩,ZM (kd := .i64) hlta⟩
       · subst hka
         obtain ⟨sva,oa,hOa,hsa⟩:=hIa
         rw [List.take_length,← hpre] at hOa
         simp (disch:=try exact DI) only [↓PR,QR,simprocAttr,↓jb,↓jc,↓jd,↓yM,↓GP,↓je,↓jf,Ao]
         exact ⟨⟨k+1,rfl,by omega,ee,⟨sva,oa,hOa,hsa⟩⟩,ZM (kd := .i64) Yv⟩
     · have h9':(x.kind == 9)=false:=by simp;omega
       have hrf:Xx x=[]:=by unfold Xx;rw [if_neg hr,if_neg h9]
       rw [hrf,List.append_nil] at hpre
       rw [← hpre] at hO1
       simp (disch:=try exact DI) only [↓PR,QR,simprocAttr,↓jb,↓jc,↓jd,↓yM,↓GP,↓je,↓jf,h7,h8,h12,h9',(Za o5).1]
       exact ⟨⟨k+1,rfl,by omega,ee,⟨sv,o31,hO1,by omega⟩⟩,ZM (kd := .i64) Yv⟩
 · subst hk
   obtain ⟨sv,o3,hO,hsW⟩:=hI
   rw [List.take_length] at hO
   simp (disch:=try exact DI) only [↓PR,QR,simprocAttr,↓jb,↓jc,↓jd,↓yM,↓GP,↓je,↓jf,ZJ]
   have hS:=hO.slice (E:=zM) (λ _=>rfl) (λ _ _=>rfl)
   exact ⟨_,sv,rfl,⟨(Za o3).1 0,hS,λ A m c e=>by subst e;have:=hO.lt A.block rfl;omega⟩,by omega,e⟩
theorem xv (w0:Wd) (v:Vl) (l:List BAr) (s:BAr) (hs:Zd w0 1 zM v l) :
 Ret Pg 98 #[v,.string s] w0 λ r w'=>r = .int .i64 (idx (λ y=>decide (s=y)) l)∧Ext w0 w':=by
 obtain ⟨A,c,rfl,hlc,hcm,hlm,Y3⟩:=Zd.open hs
 refine ZeB (R:=ZO _) ?_;unfold ZeA
 simp (disch:=try exact DI) only [↓PR,QR,simprocAttr]
 refine ZF (λ a0 w=>∃ (k:Nat) , a0 = .int .i64 (k:Int)∧k≤l.length∧Ext w0 w∧∀ (j:Nat) y,j < k→l[j]?=some y→decide (s=y)=false) (λ a0 _=>l.length - (intOf a0).toNat) ⟨0,rfl,Nat.zero_le _,ee,λ j y h=>by omega⟩ ?_
 rintro _ w ⟨k,rfl,hk,e,hI⟩
 have se:=e.size
 rcases ZD hk with ⟨x,hx,hd,Yv,ZJ⟩ | ⟨hk,hd,ZJ⟩
 · obtain ⟨b,o,cs,rfl,hl,hA,rfl⟩:=Y3 k x hx
   simp (disch:=try exact DI) only [↓PR,QR,simprocAttr,ZJ,hA.c1,↓HX]
   cases hp:decide (s=x) with
   | true=>
    simp (disch:=try exact DI) only [↓PR,QR,simprocAttr]
    exact ⟨by rw [WU hx hp hI],e⟩
   | false=>
    simp (disch:=try exact DI) only [↓PR,QR,simprocAttr]
    exact ⟨⟨k+1,rfl,by omega,ee,V8 hI hx hp⟩,ZM (kd := .i64) Yv⟩
 · subst hk
   simp (disch:=try exact DI) only [↓PR,QR,simprocAttr,ZJ,↓HX]
   exact ⟨by rw [Ud λ j y hy=>hI j y (List.getElem?_eq_some_iff.1 hy).1 hy],e⟩
theorem GA (w0:Wd) (v:Vl) (l:List BAr) (s:BAr) (hs:Zd w0 1 zM v l) :
 Ret Pg 70 #[v,.string s] w0 λ r w'=>r = .bool (l.any λ y=>decide (s=y))∧Ext w0 w':=by
 refine Zel (R:=ZO _) ?_;unfold Zek
 refine Zs (xv _ _ l s hs) ?_
 rintro r w' ⟨rfl,e⟩
 simp (disch:=try exact DI) only [↓PR,QR,simprocAttr,Sw.joinK_eq]
 exact ⟨by rw [Qq],e⟩
def YF:List BAr→List BAr→List BAr
 | _,[]=>[]
 | seen,s::l=>if seen.any (λ y=>decide (s=y)) then YF (seen++[s]) l else s::YF (seen++[s]) l
def Ek (l:List BAr) (k:Nat):Vl:=match l[k]? with
 | some s => .string s
 | none=>undef
theorem jV (pb:Nat) (sv:Vl) (l:List BAr):NL Pg 69 #[.pointer (some ⟨pb,0,none⟩)] (YF [] l).length (Ek (YF [] l)) (λ w=>Q3 w pb sv l):=by
 intro yv J Jx Jp w hFP hJe hJx QZ h0
 obtain ⟨hc,hT,_⟩:=hFP 0 w h0
 obtain ⟨A,c,rfl,hlc,hcm,hlm,Y3⟩:=Zd.open hT
 refine ZiG (t0:=yv) (t1 := .pointer (some ⟨pb,0,none⟩)) ?_
 unfold n62
 simp (disch:=try exact DI) only [↓PR,QR,simprocAttr,hc]
 refine ZF (λ i w=>∃ k j:Nat,i = .int .i64 k∧k≤l.length∧J j w∧j≤(YF [] l).length∧(YF [] l).drop j=YF (l.take k) (l.drop k)) (λ i _=>l.length - (intOf i).toNat) ⟨0,0,rfl,by omega,h0,by omega,rfl⟩ ?_
 rintro i w' ⟨k,j,rfl,hk,hJ,hj,hD⟩
 rcases ZD hk with ⟨x,hx,hd,Yv,ZJ⟩ | ⟨hk,hd,ZJ⟩
 · obtain ⟨hc',hT',_⟩:=hFP j w' hJ
   obtain ⟨A',c',hv,_,hcm',_,hel'⟩:=Zd.open hT'
   injection hv with hv _ hv'
   subst hv hv'
   obtain ⟨b,o,cs,rfl,hl,hA,rfl⟩:=hel' k x hx
   have er:=Ext.refl w'
   rw [hd] at hD
   simp only [YF] at hD
   simp (disch:=try exact DI) only [↓PR,QR,simprocAttr,↓AU,↓AV,ZJ,hA.c1,hc']
   rw [Bi underlying82 ty9 b o l.length c .i64 k (by omega)]
   have Xl:(l.take k).length=k:=by rw [List.length_take];omega
   have hpre:Zd w' 1 zM (.slice (some ⟨b,o,none⟩) k c) (l.take k):=by
    refine ⟨_,c,by rw [Xl],by rw [Xl];omega,hcm,λ _=>⟨b,o,rfl,λ i y hy=>?_⟩⟩
    rw [List.getElem?_take] at hy
    split at hy
    · obtain ⟨b',o',cs,hA',h1,h2,h3⟩:=hel' i y hy
      injection hA' with hA'
      injection hA' with h5 h6
      subst h5 h6
      exact ⟨cs,h1,h2,h3⟩
    · cases hy
   refine zcr (GA w' _ _ x hpre) λ w2 e2=>?_
   have hJ2:=hJe j w' w2 hJ e2
   have htk:l.take (k+1)=l.take k++[x]:=Z4 hx
   cases hany:(l.take k).any (λ y=>decide (x=y)) with
   | true=>
    rw [hany,if_pos rfl,← htk] at hD
    simp (disch:=try exact DI) only [↓PR,QR,simprocAttr,↓AU,↓AV]
    exact ⟨⟨k+1,j,rfl,by omega,hJ2,hj,hD⟩,ZM (kd := .i64) Yv⟩
   | false=>
    rw [hany,if_neg (by simp),← htk] at hD
    have MV:j < (YF [] l).length:=by
     have:=congrArg List.length hD
     simp at this
     omega
    have hxj:(YF [] l)[j]?=some x:=by
     have:=congrArg (λ l=>l[0]?) hD
     simpa using this
    have hD2:(YF [] l).drop (j+1)=YF (l.take (k+1)) (l.drop (k+1)):=by
     rw [← List.tail_drop,hD];rfl
    have hs:=QZ j MV w2 hJ2
    rw [show Ek (YF [] l) j = .string x by unfold Ek;rw [hxj]] at hs
    simp (disch:=try exact DI) only [↓PR,QR,simprocAttr,↓AU,↓AV]
    refine UI hs (λ ch w h=>h) ?_
    rintro v w3 (⟨rfl,h2⟩ | ⟨rfl,h2⟩)
    · simp (disch:=try exact DI) only [↓PR,QR,simprocAttr,↓AU,↓AV]
      exact ⟨⟨k+1,j+1,rfl,by omega,h2,MV,hD2⟩,ZM (kd := .i64) Yv⟩
    · simp (disch:=try exact DI) only [↓PR,QR,simprocAttr,↓AU,↓AV]
      exact .inr h2
 · subst hk
   simp (disch:=try exact DI) only [↓PR,QR,simprocAttr,↓AU,↓AV,ZJ]
   rw [hd] at hD
   have MV:j=(YF [] l).length:=by
    have:=congrArg List.length hD
    simp [YF] at this
    omega
   rw [← MV]
   exact .inl hJ
def ZB {β:Type} (l:List (BAr×β)) (s:BAr):Option β:=(l.reverse.find? (λ p=>decide (p.1=s))).map (·.2)
theorem Aw {β:Type} (ps:List (BAr×β)) (p:BAr×β) (s:BAr):ZB (ps++[p]) s=if p.1=s then some p.2 else ZB ps s:=by
 unfold ZB
 rw [List.reverse_append,List.reverse_singleton,List.singleton_append,List.find?_cons]
 by_cases h:p.1=s<;>simp [h]
theorem VS {β:Type} {ps:List (BAr×β)} {s:BAr} {v:β} (h:ZB ps s=some v):(s,v)∈ps:=by
 unfold ZB at h
 obtain ⟨q,hq,rfl⟩:=Option.map_eq_some_iff.1 h
 have h1:=List.find?_some hq
 have h2:=List.mem_of_find?_eq_some hq
 simp only [decide_eq_true_eq] at h1
 subst h1
 exact List.mem_reverse.1 h2
def vI (l:List (BAr×Int)):List (BAr×Vl):=l.map λ p=>(p.1,.int .i64 p.2)
def vB (l:List (BAr×Bool)):List (BAr×Vl):=l.map λ p=>(p.1,.bool p.2)
theorem Av {β:Type} (g:β→Vl) (l:List (BAr×β)) (s:BAr):Yz (l.map λ p=>(p.1,g p.2)) s=(ZB l s).map g:=by
 unfold Yz ZB
 rw [← List.map_reverse,List.find?_map]
 simp only [Option.map_map]
 rfl
theorem Va (l:List (BAr×Int)) (s:BAr):Yz (vI l) s=(ZB l s).map λ n => .int .i64 n:=Av _ l s
theorem xM (l:List (BAr×Bool)) (s:BAr):Yz (vB l) s=(ZB l s).map Value.bool:=Av _ l s
theorem Ej (l:List (BAr×Bool)) (s:BAr):Ei (vB l) s=(ZB l s).getD false:=by
 unfold Ei;rw [xM];cases ZB l s<;>rfl
structure CkO (a0 w:Wd) (cb md ms:Nat) (deps:List (BAr×Int)) (strs:List (BAr×Bool)) (at_ fld:Int) (fs:List Zl):Prop where
 ext:Ext a0 w
 obj:∃ dn mv ds mn fv,w.heap[cb]?=some (.cells #[.string dn,mv,.string ds,.map (some md),.map (some ms),.int .i64 at_,.int .i64 fld,.string mn,fv] 164 (0,0))∧Yq a0 fv fs
 mdeps:Yr w md (vI deps)
 mstrs:Yr w ms (vB strs)
 lcb:a0.heap.size≤cb
 lmd:a0.heap.size≤md
 lms:a0.heap.size≤ms
 ne:md≠ms
section
variable {a0 w w':Wd} {cb md ms:Nat} {deps:List (BAr×Int)} {strs:List (BAr×Bool)} {at_ fld:Int} {fs:List Zl}
theorem CkO.chk (h:CkO a0 w cb md ms deps strs at_ fld fs):Chk w cb md ms (vI deps) (vB strs) at_ fld fs:=by
 obtain ⟨dn,mv,ds,mn,fv,h1,h2⟩:=h.obj
 refine ⟨⟨dn,mv,ds,mn,fv,h1,h2.ext h.ext⟩,h.mdeps,h.mstrs,λ k v hv=>?_,λ k v hv=>?_⟩
 · rw [Va] at hv;obtain ⟨n,_,rfl⟩:=Option.map_eq_some_iff.1 hv;exact ⟨n,rfl⟩
 · rw [xM] at hv;obtain ⟨n,_,rfl⟩:=Option.map_eq_some_iff.1 hv;exact ⟨n,rfl⟩
theorem CkO.nd (h:CkO a0 w cb md ms deps strs at_ fld fs):cb≠md∧cb≠ms∧cb < w.heap.size∧md < w.heap.size∧ms < w.heap.size:=by
 obtain ⟨dn,mv,ds,mn,fv,h1,h2⟩:=h.obj
 refine ⟨?_,?_,(Array.getElem?_eq_some_iff.1 h1).1,h.mdeps.lt,h.mstrs.lt⟩
 · rintro rfl;have:=h.mdeps.obj;rw [h1] at this;cases this
 · rintro rfl;have:=h.mstrs.obj;rw [h1] at this;cases this
theorem CkO.go (h:CkO a0 w cb md ms deps strs at_ fld fs) (e:Ext w w'):CkO a0 w' cb md ms deps strs at_ fld fs:=by
 obtain ⟨dn,mv,ds,mn,fv,h1,h2⟩:=h.obj
 exact ⟨h.ext.trans e,⟨dn,mv,ds,mn,fv,e.obj h1,h2⟩,h.mdeps.ext e,h.mstrs.ext e,h.lcb,h.lmd,h.lms,h.ne⟩
theorem CkO.other (h:CkO a0 w cb md ms deps strs at_ fld fs) {b o:Nat} (hb:a0.heap.size≤b) (hn:b≠cb) (v:Vl):CkO a0 (w.setCell ⟨b,o,none⟩ v) cb md ms deps strs at_ fld fs:=by
 obtain ⟨dn,mv,ds,mn,fv,h1,h2⟩:=h.obj
 refine ⟨h.ext.setCell hb v,⟨dn,mv,ds,mn,fv,?_,h2⟩,h.mdeps.setCell _ _,h.mstrs.setCell _ _,h.lcb,h.lmd,h.lms,h.ne⟩
 rw [YY.setCell w b o v cb (λ e=>hn e.symm)];exact h1
theorem CkO.setFld (h:CkO a0 w cb md ms deps strs at_ fld fs) (n:Int):CkO a0 (w.setCell ⟨cb,6,none⟩ (.int .i64 n)) cb md ms deps strs at_ n fs:=by
 obtain ⟨dn,mv,ds,mn,fv,h1,h2⟩:=h.obj
 exact ⟨h.ext.setCell h.lcb _,⟨dn,mv,ds,mn,fv,ZE h1 _,h2⟩,h.mdeps.setCell _ _,h.mstrs.setCell _ _,h.lcb,h.lmd,h.lms,h.ne⟩
theorem CkO.setAt (h:CkO a0 w cb md ms deps strs at_ fld fs) (n:Int):CkO a0 (w.setCell ⟨cb,5,none⟩ (.int .i64 n)) cb md ms deps strs n fld fs:=by
 obtain ⟨dn,mv,ds,mn,fv,h1,h2⟩:=h.obj
 exact ⟨h.ext.setCell h.lcb _,⟨dn,mv,ds,mn,fv,ZE h1 _,h2⟩,h.mdeps.setCell _ _,h.mstrs.setCell _ _,h.lcb,h.lmd,h.lms,h.ne⟩
theorem CkO.setMsg (h:CkO a0 w cb md ms deps strs at_ fld fs) (s:BAr) (fv':Vl) (fs':List Zl) (hf:Yq a0 fv' fs'):CkO a0 ((w.setCell ⟨cb,7,none⟩ (.string s)).setCell ⟨cb,8,none⟩ fv') cb md ms deps strs at_ fld fs':=by
 obtain ⟨dn,mv,ds,mn,fv,h1,h2⟩:=h.obj
 exact ⟨(h.ext.setCell h.lcb _).setCell h.lcb _,⟨dn,mv,ds,s,fv',ZE (ZE h1 _) _,hf⟩,(h.mdeps.setCell _ _).setCell _ _,(h.mstrs.setCell _ _).setCell _ _,h.lcb,h.lmd,h.lms,h.ne⟩
theorem CkO.putOther (h:CkO a0 w cb md ms deps strs at_ fld fs) {B:Nat} (o:Obj) (hB:a0.heap.size≤B) (h1:B≠cb) (h2:B≠md) (h3:B≠ms):CkO a0 (w.putObj B o) cb md ms deps strs at_ fld fs:=by
 obtain ⟨dn,mv,ds,mn,fv,h4,h5⟩:=h.obj
 exact ⟨h.ext.putObj hB o,⟨dn,mv,ds,mn,fv,(World.putObj_heap_other (λ e=>h1 e.symm)).trans h4,h5⟩,Xn.putOther h.mdeps (λ e=>h2 e.symm) o,Xn.putOther h.mstrs (λ e=>h3 e.symm) o,h.lcb,h.lmd,h.lms,h.ne⟩
theorem CkO.unmark (h:CkO a0 w cb md ms deps strs at_ fld fs) {B:Nat} (hm:ZR B w) (hB:a0.heap.size≤B):CkO a0 (w.putObj B (.deferred none)) cb md ms deps strs at_ fld fs:=by
 obtain ⟨dn,mv,ds,mn,fv,h4,h5⟩:=h.obj
 refine h.putOther _ hB ?_ ?_ ?_
 · rintro rfl;unfold ZR at hm;rw [h4] at hm;cases hm
 · rintro rfl;unfold ZR at hm;have:=h.mdeps.obj;rw [hm] at this;cases this
 · rintro rfl;unfold ZR at hm;have:=h.mstrs.obj;rw [hm] at this;cases this
theorem CkO.lasts {B:Nat} (hB:a0.heap.size≤B):Yd B (λ w=>CkO a0 w cb md ms deps strs at_ fld fs):=by
 refine ⟨λ w w' h e=>h.go e,λ w l r r' hl h hr=>?_⟩
 obtain ⟨dn,mv,ds,mn,fv,h4,h5⟩:=h.obj
 refine h.putOther _ (by omega) ?_ ?_ ?_
 · rintro rfl;rw [h4] at hr;cases hr
 · rintro rfl;have:=h.mdeps.obj;rw [hr] at this;cases this
 · rintro rfl;have:=h.mstrs.obj;rw [hr] at this;cases this
theorem Q3.lasts (B pb:Nat) (sv:Vl) (l:List BAr):Yd B (λ w=>Q3 w pb sv l):=
 Yd.and (Yd.cell B) (Yd.and ⟨λ _ _ h e=>h.ext Lk e,λ _ _ _ _ _ h hl=>Zd.putLoop (λ _ _ h=>h) hl h⟩ (Yd.const _ _))
theorem Q3.set {w:Wd} {pb:Nat} {sv:Vl} {l:List BAr} (h:Q3 w pb sv l) {b o:Nat} (hb:b < pb) (u:Vl):Q3 (w.setCell ⟨b,o,none⟩ u) pb sv l:=
 ⟨by rw [Qs (by omega)];exact h.1,Zd.setOther h.2.1 u (λ A m c e=>by have:=h.2.2 A m c e;omega) (λ _ _ h=>h),h.2.2⟩
end
def Qn (m:ZC):List BAr:=YF [] (Z9 m.fields)
def Xh (deps:List (BAr×Int)) (strs:List (BAr×Bool)) (bef:List Zl):List Zl→Int×Int
 | []=>(-1,0)
 | f::l=>if YL bef (vI deps) (vB strs) f=0 then Xh deps strs (bef++[f]) l else (bef.length,YL bef (vI deps) (vB strs) f)
def Qj (a b:Int):Int:=if b > a then b else a
def QE (deps:List (BAr×Int)) (m:ZC):Int:=(Qn m).foldl (λ d s=>Qj d ((ZB deps s).getD 0)) 0
def Kb (strs:List (BAr×Bool)) (m:ZC):Bool:=(m.fields.all λ f=>!f.loose)&&(Qn m).all λ s=>(ZB strs s).getD false
def Gg (deps:List (BAr×Int)) (m:ZC) (r:Int×Int):Int×Int:=if r.2=0 then (if QE deps m < 16 then (-1,0) else (-1,10)) else r
def Q0 (deps:List (BAr×Int)) (strs:List (BAr×Bool)) (m:ZC):Int×Int:=
 if Qv m.name then (if (ZB deps m.name).isSome then (-1,2) else (if 1≤m.fields.length∧m.fields.length≤40 then Gg deps m (Xh deps strs [] m.fields) else (-1,3))) else (-1,1)
def DW (a0:Wd) (at_:Int) (r:Int×Int) (K:WPr):Ending→Wd→Prop:=λ e w'=>Ext a0 w'∧(r.2=0∧e = .returned (.tuple #[])∧K w'∨r.2≠0∧e = .panicked [XE at_ r.1 r.2])
theorem RK {a0 w':Wd} {at_:Int} {r:Int×Int} {K:WPr} (e:Ext a0 w') (h:r.2=0) (hK:K w'):DW a0 at_ r K (.returned (.tuple #[])) w':=⟨e,.inl ⟨h,rfl,hK⟩⟩
theorem J1 {a0 w':Wd} {at_ a b:Int} {r:Int×Int} {K:WPr} (e:Ext a0 w') (h:r=(a,b)) (h0:b≠0):DW a0 at_ r K (.panicked [XE at_ a b]) w':=by subst h;exact ⟨e,.inr ⟨h0,rfl⟩⟩
theorem Sb {P:Program} {C:WPr} [Xg C] {T:TypeId} {a:Addr} {v:Vl} {k:Vl→Prop} (h:∀ w',C w'→WC P w' T a v):qV P C (loadAt T (.pointer (some a))) k=k v:=
 VA λ w' e=>Xa λ QP k=>Wi (h w' e)
section
variable {a0 w:Wd} {cb md ms:Nat} {deps:List (BAr×Int)} {strs:List (BAr×Bool)} {at_ fld:Int} {fs:List Zl}
theorem Tn (h:CkO a0 w cb md ms deps strs at_ (-1) fs) (p2 p3 p6 p9 B:Nat) (m:ZC) (fv:Vl) (st:Bool) (dp:Int) (hd0:0≤dp) (hd1:dp≤1000)
 (o2:w.heap[p2]?=some (.cells #[.pointer (some ⟨cb,0,none⟩)] 140 (0,0))) (o3:w.heap[p3]?=some (.cells (Z8 m fv).toArray 24 (0,0))) (o6:w.heap[p6]?=some (.cells #[.bool st] 4 (0,0))) (o9:w.heap[p9]?=some (.cells #[.int .i64 dp] 3 (0,0)))
 (hmk:ZR B w) (hB:a0.heap.size≤B) (r:Int×Int) (hr:r=if dp < 16 then (-1,0) else (-1,10)) (K:WPr)
 (hK:∀ w',CkO a0 w' cb md ms (deps++[(m.name,dp+1)]) (strs++[(m.name,st)]) at_ (-1) fs→K w') :
 Yy w λ C12 w=>LM (.pointer (some ⟨p2,0,none⟩)) (.pointer (some ⟨p3,0,none⟩)) (.pointer (some ⟨p6,0,none⟩)) (.pointer (some ⟨p9,0,none⟩)) C12 [Sw.mark B] (DW a0 at_ r K) w:=by
 obtain ⟨n1,n2,l1,l2,l3⟩:=h.nd
 have Xv:=h.ne
 obtain ⟨dn,mv,ds,mn,fv',h1,h2⟩:=h.obj
 have m2:p2≠md:=by rintro rfl;have:=h.mdeps.obj;rw [o2] at this;cases this
 have m3:p3≠md:=by rintro rfl;have:=h.mdeps.obj;rw [o3] at this;cases this
 have m6:p6≠md:=by rintro rfl;have:=h.mdeps.obj;rw [o6] at this;cases this
 have m9:p9≠md:=by rintro rfl;have:=h.mdeps.obj;rw [o9] at this;cases this
 have q2:p2≠ms:=by rintro rfl;have:=h.mstrs.obj;rw [o2] at this;cases this
 have q3:p3≠ms:=by rintro rfl;have:=h.mstrs.obj;rw [o3] at this;cases this
 have q6:p6≠ms:=by rintro rfl;have:=h.mstrs.obj;rw [o6] at this;cases this
 have q9:p9≠ms:=by rintro rfl;have:=h.mstrs.obj;rw [o9] at this;cases this
 refine yf (w1:=w) md ms (λ _ _ _ _=>rfl) ?_
 unfold LM
 simp (disch:=try exact DI) only [↓PR,QR,simprocAttr,(Za h1).1,(Za o2).1,(Za o3).1,(Za o6).1,(Za o9).1]
 have eD:Ext w w.drew:=(Ext.refl w).drew
 have hmd:Yr w.drew md (vI deps):=h.mdeps.ext eD
 rw [xd underlying161 underlying9 ty3 hmd m.name]
 refine ⟨λ b hb b1 b2=>(World.putObj_heap_other b1),?_⟩
 unfold RB
 simp (disch:=try exact DI) only [↓PR,QR,simprocAttr]
 rw [GR (Xn.ent hmd m.name _) (ES _ _),Lg,GT]
 have hw1:w.drew.putObj md (VT (λ s:BAr=>Value.string s) (Kg (bld (vI deps)).1 (bld (vI deps)).2 m.name (.int .i64 (IntKind.i64.wrap (dp+1)))) (Ku (bld (vI deps)).1 (bld (vI deps)).2 m.name))=putW w.drew md (vI deps) m.name (.int .i64 (IntKind.i64.wrap (dp+1))):=by
  unfold putW;rw [Km]
 rw [hw1]
 have hms:Yr (putW w.drew md (vI deps) m.name (.int .i64 (IntKind.i64.wrap (dp+1)))) ms (vB strs):=Xn.putOther (h.mstrs.ext eD) (λ e=>Xv e.symm) _
 refine ⟨λ b hb b1 b2=>(World.putObj_heap_other b1),?_⟩
 rw [xd underlying162 underlying9 ty4 hms m.name]
 refine ⟨λ b hb b1 b2=>(World.putObj_heap_other b2).trans (World.putObj_heap_other b1),?_⟩
 unfold RA
 simp (disch:=try exact DI) only [↓PR,QR,simprocAttr]
 rw [GR (Xn.ent hms m.name _) (ES _ _),Lg,GT]
 have hw2:(putW w.drew md (vI deps) m.name (.int .i64 (IntKind.i64.wrap (dp+1)))).putObj ms (VT (λ s:BAr=>Value.string s) (Kg (bld (vB strs)).1 (bld (vB strs)).2 m.name (.bool st)) (Ku (bld (vB strs)).1 (bld (vB strs)).2 m.name))=putW (putW w.drew md (vI deps) m.name (.int .i64 (IntKind.i64.wrap (dp+1)))) ms (vB strs) m.name (.bool st):=by
  unfold putW;rw [Km,Km]
 rw [hw2]
 have hwr:IntKind.i64.wrap (dp+1)=dp+1:=Z0 (by omega) (by omega)
 rw [hwr]
 have hC2:CkO a0 (putW (putW w.drew md (vI deps) m.name (.int .i64 (dp+1))) ms (vB strs) m.name (.bool st)) cb md ms (deps++[(m.name,dp+1)]) (strs++[(m.name,st)]) at_ (-1) fs:=by
  refine ⟨(h.ext.drew.putObj h.lmd _).putObj h.lms _,⟨dn,mv,ds,mn,fv',((World.putObj_heap_other n2).trans (World.putObj_heap_other n1)).trans h1,h2⟩,?_,?_,h.lcb,h.lmd,h.lms,Xv⟩
  · have:=Xn.putOther (hmd.put m.name (.int .i64 (dp+1))) Xv (Gr (bld (vB strs++[(m.name,.bool st)])).1 (bld (vB strs++[(m.name,.bool st)])).2)
    unfold vI at this ⊢
    rw [List.map_append]
    exact this
  · rw [hwr] at hms
    have:=hms.put m.name (.bool st)
    unfold vB at this ⊢
    rw [List.map_append]
    exact this
 have hk2:ZR B (putW (putW w.drew md (vI deps) m.name (.int .i64 (dp+1))) ms (vB strs) m.name (.bool st)):=by
  have b1:B≠md:=by rintro rfl;have:=h.mdeps.obj;unfold ZR at hmk;rw [hmk] at this;cases this
  have b2:B≠ms:=by rintro rfl;have:=h.mstrs.obj;unfold ZR at hmk;rw [hmk] at this;cases this
  exact ((World.putObj_heap_other b2).trans (World.putObj_heap_other b1)).trans hmk
 have o2':(putW (putW w.drew md (vI deps) m.name (.int .i64 (dp+1))) ms (vB strs) m.name (.bool st)).heap[p2]?=some (.cells #[.pointer (some ⟨cb,0,none⟩)] 140 (0,0)):=((World.putObj_heap_other q2).trans (World.putObj_heap_other m2)).trans o2
 have o9':(putW (putW w.drew md (vI deps) m.name (.int .i64 (dp+1))) ms (vB strs) m.name (.bool st)).heap[p9]?=some (.cells #[.int .i64 dp] 3 (0,0)):=((World.putObj_heap_other q9).trans (World.putObj_heap_other m9)).trans o9
 generalize putW (putW w.drew md (vI deps) m.name (.int .i64 (dp+1))) ms (vB strs) m.name (.bool st)=W at hC2 hk2 o2' o9' ⊢
 refine Yb ?_
 unfold Rz
 simp (disch:=try exact DI) only [↓PR,QR,simprocAttr,(Za o2').1,(Za o9').1]
 refine ZY (YU hC2.chk _ 10 (by decide)) (λ w' e h0=>?_) (λ w' e h0=>?_)
 · refine V0 (hk2.ext e) ?_
   rw [WW]
   have hC3:=(hC2.go e).unmark (hk2.ext e) hB
   refine RK hC3.ext ?_ (hK _ hC3)
   rw [hr]
   by_cases hdp:dp < 16
   · rw [if_pos hdp]
   · rw [decide_eq_false hdp] at h0;exact absurd h0 (by decide)
 · refine qj (hk2.ext e) ?_
   rw [UU]
   have hC3:=(hC2.go e).unmark (hk2.ext e) hB
   by_cases hdp:dp < 16
   · rw [decide_eq_true hdp] at h0;exact absurd rfl h0
   · rw [decide_eq_false hdp]
     rw [if_neg hdp] at hr
     exact J1 hC3.ext hr (by decide)
theorem Tl {a b c:Int} (h1:a≤c) (h2:b≤c):Qj a b≤c:=by unfold Qj;split<;>assumption
theorem Ll (a b:Int):a≤Qj a b:=by unfold Qj;split<;>omega
theorem KJ (g:BAr→Int):∀ (l:List BAr) (d:Int),0≤d→(∀ s∈l,0≤g s∧g s≤16)→d≤16→0≤l.foldl (λ d s=>Qj d (g s)) d∧l.foldl (λ d s=>Qj d (g s)) d≤16
 | [],d,h0,_,h1=>⟨h0,h1⟩
 | s::l,d,h0,h,h1=>KJ g l _ (Int.le_trans h0 (Ll _ _)) (λ u hu=>h u (List.mem_cons_of_mem _ hu)) (Tl h1 (h s (List.mem_cons_self ..)).2)
def Low (deps:List (BAr×Int)):Prop:=∀ p∈deps,0≤p.2∧p.2≤16
theorem Low.get {deps:List (BAr×Int)} (h:Low deps) (s:BAr):0≤(ZB deps s).getD 0∧(ZB deps s).getD 0≤16:=by
 cases hl:ZB deps s with
 | none=>exact ⟨by decide,by decide⟩
 | some n=>exact h _ (VS hl)
theorem M4 (hlow:Low deps) (h:CkO a0 w cb md ms deps strs at_ fld fs) (p2 p3 p6:Nat) (m:ZC) (fv:Vl) (st:Bool) (hst:st=m.fields.all λ f=>!f.loose) (hF:Yq a0 fv m.fields) (hb:(Z9 m.fields).length≤1048576) (hp2:a0.heap.size≤p2) (hp3:a0.heap.size≤p3) (hp6:a0.heap.size≤p6) (h26:p2 < p6) (h36:p3 < p6)
 (o2:w.heap[p2]?=some (.cells #[.pointer (some ⟨cb,0,none⟩)] 140 (0,0))) (o3:w.heap[p3]?=some (.cells (Z8 m fv).toArray 24 (0,0))) (o6:w.heap[p6]?=some (.cells #[.bool st] 4 (0,0)))
 (r:Int×Int) (hr:r=if QE deps m < 16 then (-1,0) else (-1,10)) (K:WPr)
 (hK:∀ w',CkO a0 w' cb md ms (deps++[(m.name,QE deps m+1)]) (strs++[(m.name,Kb strs m)]) at_ (-1) fs→K w') :
 DT (.pointer (some ⟨p2,0,none⟩)) (.pointer (some ⟨p3,0,none⟩)) (.pointer (some ⟨p6,0,none⟩)) [] (DW a0 at_ r K) w:=by
 obtain ⟨n1,n2,l1,l2,l3⟩:=h.nd
 obtain ⟨dn,mv,ds,mn,fv',h1,h2⟩:=h.obj
 have c2:p2≠cb:=by rintro rfl;rw [o2] at h1;cases h1
 have c3:p3≠cb:=by rintro rfl;rw [o3] at h1;cases h1
 have c6:p6≠cb:=by rintro rfl;rw [o6] at h1;cases h1
 have lp6:p6 < w.heap.size:=(Array.getElem?_eq_some_iff.1 o6).1
 have lp3:p3 < w.heap.size:=(Array.getElem?_eq_some_iff.1 o3).1
 unfold DT
 simp (disch:=try exact DI) only [↓PR,QR,simprocAttr,(Za h1).1,(Za h1).2,(Za o2).1,(Za o3).1]
 have hC1:=h.setFld (-1)
 have o2':(w.setCell ⟨cb,6,none⟩ (.int .i64 (-1))).heap[p2]?=some (.cells #[.pointer (some ⟨cb,0,none⟩)] 140 (0,0)):=by rw [YY.setCell w cb 6 _ p2 c2];exact o2
 have o3':(w.setCell ⟨cb,6,none⟩ (.int .i64 (-1))).heap[p3]?=some (.cells (Z8 m fv).toArray 24 (0,0)):=by rw [YY.setCell w cb 6 _ p3 c3];exact o3
 have o6':(w.setCell ⟨cb,6,none⟩ (.int .i64 (-1))).heap[p6]?=some (.cells #[.bool st] 4 (0,0)):=by rw [YY.setCell w cb 6 _ p6 c6];exact o6
 simp only [World.size_setCell]
 have eW:=hC1.go ((Ext.refl (w.setCell ⟨cb,6,none⟩ (.int .i64 (-1)))).alloc (Obj.cells #[.int .i64 0] 3))
 have x2:=((Ext.refl (w.setCell ⟨cb,6,none⟩ (.int .i64 (-1)))).alloc (Obj.cells #[.int .i64 0] 3)).obj o2'
 have x3:=((Ext.refl (w.setCell ⟨cb,6,none⟩ (.int .i64 (-1)))).alloc (Obj.cells #[.int .i64 0] 3)).obj o3'
 have x6:=((Ext.refl (w.setCell ⟨cb,6,none⟩ (.int .i64 (-1)))).alloc (Obj.cells #[.int .i64 0] 3)).obj o6'
 have x9:=ZG (w.setCell ⟨cb,6,none⟩ (.int .i64 (-1))) #[.int .i64 0] 3
 rw [World.size_setCell] at x9
 generalize hW:World.alloc (w.setCell ⟨cb,6,none⟩ (.int .i64 (-1))) _=W at eW x2 x3 x6 x9
 have VF:W.heap.size=w.heap.size+1:=by rw [← hW];simp only [World.size_alloc,World.size_setCell]
 clear hW hC1 o2 o3 o6 o2' o3' o6' h
 have lW:a0.heap.size≤W.heap.size:=eW.ext.size
 refine Zs (jU W _ m ⟨fv,rfl,hF.ext eW.ext⟩ hb) ?_
 rintro _ w7 ⟨pb,sv,rfl,hS,hpb,e7⟩
 have s7:=e7.size
 unfold RC
 let rs:=Qn m
 let I:Nat→Wd→Prop:=λ k w'=>CkO a0 w' cb md ms deps strs at_ (-1) fs∧Q3 w' pb sv (Z9 m.fields)∧w'.heap[p2]?=some (.cells #[.pointer (some ⟨cb,0,none⟩)] 140 (0,0))∧w'.heap[p3]?=some (.cells (Z8 m fv).toArray 24 (0,0)) ∧
  w'.heap[p6]?=some (.cells #[.bool (st&&(rs.take k).all λ s=>(ZB strs s).getD false)] 4 (0,0))∧w'.heap[w.heap.size]?=some (.cells #[.int .i64 ((rs.take k).foldl (λ d s=>Qj d ((ZB deps s).getD 0)) 0)] 3 (0,0))
 have hLI:∀ k,Yd w7.heap.size (I k):=λ k=>Yd.and (CkO.lasts (by omega)) (Yd.and (Q3.lasts _ _ _ _) (Yd.and (Yd.has _ (by simp)) (Yd.and (Yd.has _ (by simp)) (Yd.and (Yd.has _ (by simp)) (Yd.has _ (by simp))))))
 refine ⟨_,_,rs.length,Ek rs,λ w=>Q3 w pb sv (Z9 m.fields),I,λ _ _=>False,λ _ _=>False,rfl,c69,jV pb sv _,⟨eW.go e7,hS,e7.obj x2,e7.obj x3,?_,e7.obj x9⟩,λ k w h=>h.2.1,hLI,λ _=>Yd.const _ _,?_,?_,?_,?_⟩
 · have:=e7.obj x6
   rw [this];simp
 · intro rec j w3 hj hI3 hrec hready
   refine ⟨hready,λ w4 hbz=>?_⟩
   have hrec4:=hrec.busied hbz
   have hI4:=(hLI j).busied hbz (Nat.le_succ _) hI3
   clear hI3 hrec hready hbz
   obtain ⟨hC4,hS4,y2,y3,y6,y9⟩:=hI4
   obtain ⟨s,hx⟩:=getElem?_lt hj
   have hrs:rs[j]?=some s:=hx
   rw [show Ek rs j = .string s by unfold Ek;rw [hrs]]
   obtain ⟨dn,mv,ds,mn,fv',h1,h2⟩:=hC4.obj
   have l9:w.heap.size < w4.heap.size:=(Array.getElem?_eq_some_iff.1 y9).1
   have QZ:rs.take (j+1)=rs.take j++[s]:=Z4 hrs
   refine Zy ?_
   unfold Ry
   simp (disch:=try exact DI) only [↓PR,QR,simprocAttr,(Za y9).1,(Za y2).1,(Za h1).1]
   rw [jj underlying161 underlying9 ty3 (hC4.mdeps.ext ((Ext.refl w4).wdrew)) s]
   have hg:(Yz (vI deps) s).getD (.int .i64 0) = .int .i64 ((ZB deps s).getD 0):=by rw [Va];cases ZB deps s<;>rfl
   rw [hg]
   simp (disch:=try exact DI) only [↓PR,QR,simprocAttr,(Za y9).1,(Za y9).2]
   refine Yb ?_
   have e4:Ext w4 w4.drew:=(Ext.refl w4).wdrew
   have hC5:=(hC4.go e4).other (b:=w.heap.size) (o:=0) (by omega) (by omega) (.int .i64 (if (ZB deps s).getD 0 > (rs.take j).foldl (λ d s=>Qj d ((ZB deps s).getD 0)) 0 then (ZB deps s).getD 0 else (rs.take j).foldl (λ d s=>Qj d ((ZB deps s).getD 0)) 0))
   have hS5:Q3 (w4.drew.setCell ⟨w.heap.size,0,none⟩ (.int .i64 (if (ZB deps s).getD 0 > (rs.take j).foldl (λ d s=>Qj d ((ZB deps s).getD 0)) 0 then (ZB deps s).getD 0 else (rs.take j).foldl (λ d s=>Qj d ((ZB deps s).getD 0)) 0))) pb sv (Z9 m.fields):=(hS4.ext e4).set (by omega) _
   have hrec5:Xc rec w7.heap.size (w4.drew.setCell ⟨w.heap.size,0,none⟩ (.int .i64 (if (ZB deps s).getD 0 > (rs.take j).foldl (λ d s=>Qj d ((ZB deps s).getD 0)) 0 then (ZB deps s).getD 0 else (rs.take j).foldl (λ d s=>Qj d ((ZB deps s).getD 0)) 0))):=hrec4.drew.setCell _ _
   have z2:=(YY.setCell w4.drew w.heap.size 0 (.int .i64 (if (ZB deps s).getD 0 > (rs.take j).foldl (λ d s=>Qj d ((ZB deps s).getD 0)) 0 then (ZB deps s).getD 0 else (rs.take j).foldl (λ d s=>Qj d ((ZB deps s).getD 0)) 0)) p2 (by omega)).trans y2
   have z3:=(YY.setCell w4.drew w.heap.size 0 (.int .i64 (if (ZB deps s).getD 0 > (rs.take j).foldl (λ d s=>Qj d ((ZB deps s).getD 0)) 0 then (ZB deps s).getD 0 else (rs.take j).foldl (λ d s=>Qj d ((ZB deps s).getD 0)) 0)) p3 (by omega)).trans y3
   have z6:=(YY.setCell w4.drew w.heap.size 0 (.int .i64 (if (ZB deps s).getD 0 > (rs.take j).foldl (λ d s=>Qj d ((ZB deps s).getD 0)) 0 then (ZB deps s).getD 0 else (rs.take j).foldl (λ d s=>Qj d ((ZB deps s).getD 0)) 0)) p6 (by omega)).trans y6
   have z9:=ZE (w:=w4.drew) (o:=0) y9 (.int .i64 (if (ZB deps s).getD 0 > (rs.take j).foldl (λ d s=>Qj d ((ZB deps s).getD 0)) 0 then (ZB deps s).getD 0 else (rs.take j).foldl (λ d s=>Qj d ((ZB deps s).getD 0)) 0))
   rw [show (#[Value.int .i64 ((rs.take j).foldl (λ d s=>Qj d ((ZB deps s).getD 0)) 0)]:AVl).setIfInBounds 0 (.int .i64 (if (ZB deps s).getD 0 > (rs.take j).foldl (λ d s=>Qj d ((ZB deps s).getD 0)) 0 then (ZB deps s).getD 0 else (rs.take j).foldl (λ d s=>Qj d ((ZB deps s).getD 0)) 0)) = #[.int .i64 ((rs.take (j+1)).foldl (λ d s=>Qj d ((ZB deps s).getD 0)) 0)] from by rw [QZ,List.foldl_append];rfl] at z9
   generalize w4.drew.setCell ⟨w.heap.size,0,none⟩ _=w5 at hC5 hS5 hrec5 z2 z3 z6 z9 ⊢
   clear hC4 hS4 hrec4 y2 y3 y6 y9 h1 hg
   obtain ⟨dn,mv,ds,mn,fv',h1,h2⟩:=hC5.obj
   have hall:(st&&(rs.take (j+1)).all λ s=>(ZB strs s).getD false)=((st&&(rs.take j).all λ s=>(ZB strs s).getD false)&&(ZB strs s).getD false):=by
    rw [QZ,List.all_append,Bool.and_assoc];simp
   have fin:∀ b,b=(st&&(rs.take (j+1)).all λ s=>(ZB strs s).getD false)→Xc rec w7.heap.size (w5.setCell ⟨p6,0,none⟩ (.bool b))∧I (j+1) (w5.setCell ⟨p6,0,none⟩ (.bool b)):=by
    rintro b rfl
    refine ⟨hrec5.setCell _ _,hC5.other hp6 c6 _,hS5.set (by omega) _,(YY.setCell w5 p6 0 _ p2 (by omega)).trans z2,(YY.setCell w5 p6 0 _ p3 (by omega)).trans z3,?_,(YY.setCell w5 p6 0 _ w.heap.size (by omega)).trans z9⟩
    have:=ZE (o:=0) z6 (.bool (st&&(rs.take (j+1)).all λ s=>(ZB strs s).getD false))
    simpa using this
   rw [hall] at fin
   generalize (st&&(rs.take j).all λ s=>(ZB strs s).getD false)=sj at z6 fin
   unfold Rx
   have hg:(Yz (vB strs) s).getD (.bool false) = .bool ((ZB strs s).getD false):=by rw [xM];cases ZB strs s<;>rfl
   cases sj with
   | false=>
    simp (disch:=try exact DI) only [↓PR,QR,simprocAttr,(Za z6).1,(Za z6).2,↓Fv,↓Rw,↓Rx,↓Ry,↓Rz,↓RA,↓RB,↓LM,↓RC,↓DT,↓If,↓DU,↓A1,↓Ig,↓Ih,↓Ii,↓DV,↓Ij]
    exact fin false rfl
   | true=>
    simp (disch:=try exact DI) only [↓PR,QR,simprocAttr,(Za z6).1,(Za z6).2,(Za z2).1,(Za h1).1]
    rw [QC underlying162 underlying9 ty4 hC5.mstrs s,hg]
    generalize (ZB strs s).getD false=b at fin
    simp (disch:=try exact DI) only [↓PR,QR,simprocAttr,(Za z6).1,(Za z6).2,Fv]
    exact fin b (by cases b<;>rfl)
 · rintro w3 hI3 hmk
   obtain ⟨hC3,hS3,y2,y3,y6,y9⟩:=hI3
   rw [List.take_length] at y6 y9
   have hfold:=KJ (λ s=>(ZB deps s).getD 0) rs 0 (by decide) (λ s _=>hlow.get s) (by decide)
   refine Tn hC3 p2 p3 p6 w.heap.size w7.heap.size m fv _ _ hfold.1 (by have:=hfold.2;omega) y2 y3 y6 y9 hmk (by omega) r hr K ?_
   rw [hst]
   exact hK
 · rintro c w3 h
   exact h.elim
 · rintro ch w3 h
   exact h.elim
end
section
variable {a0 w:Wd} {cb md ms:Nat} {deps:List (BAr×Int)} {strs:List (BAr×Bool)} {at_ fld:Int} {m:ZC}
theorem RL (hlow:Low deps) (h:CkO a0 w cb md ms deps strs at_ fld m.fields) (p2 p3:Nat) (fv:Vl) (hF:Yq a0 fv m.fields) (hb:(Z9 m.fields).length≤1048576) (ht:∀ f∈m.fields,f.terms.length≤1048576) (hp2:a0.heap.size≤p2) (hp3:a0.heap.size≤p3)
 (o2:w.heap[p2]?=some (.cells #[.pointer (some ⟨cb,0,none⟩)] 140 (0,0))) (o3:w.heap[p3]?=some (.cells (Z8 m fv).toArray 24 (0,0)))
 (r:Int×Int) (hr:r=Gg deps m (Xh deps strs [] m.fields)) (K:WPr)
 (hK:∀ w',CkO a0 w' cb md ms (deps++[(m.name,QE deps m+1)]) (strs++[(m.name,Kb strs m)]) at_ (-1) m.fields→K w') :
 A1 (.pointer (some ⟨p2,0,none⟩)) (.pointer (some ⟨p3,0,none⟩)) [] (DW a0 at_ r K) w:=by
 obtain ⟨n1,n2,l1,l2,l3⟩:=h.nd
 have lp2:p2 < w.heap.size:=(Array.getElem?_eq_some_iff.1 o2).1
 have lp3:p3 < w.heap.size:=(Array.getElem?_eq_some_iff.1 o3).1
 have lw:=h.ext.size
 obtain ⟨A,c,rfl,hlc,hcm,hlm,Y3⟩:=Zd.open hF
 unfold A1
 simp (disch:=try exact DI) only [↓PR,QR,simprocAttr,(Za o3).1]
 refine ZF (λ i w'=>∃ (k:Nat) (fld':Int),i = .int .i64 k∧k≤m.fields.length∧CkO a0 w' cb md ms deps strs at_ fld' m.fields∧w'.heap[p2]?=some (.cells #[.pointer (some ⟨cb,0,none⟩)] 140 (0,0))∧w'.heap[p3]?=some (.cells (Z8 m (.slice A m.fields.length c)).toArray 24 (0,0)) ∧
  w'.heap[w.heap.size]?=some (.cells #[.bool ((m.fields.take k).all λ f=>!f.loose)] 4 (0,0))∧r=Gg deps m (Xh deps strs (m.fields.take k) (m.fields.drop k))) (λ i _=>m.fields.length - (intOf i).toNat) ⟨0,fld,rfl,by omega,h.go ((Ext.refl _).alloc _),((Ext.refl _).alloc _).obj o2,((Ext.refl _).alloc _).obj o3,ZG w #[.bool true] 4,hr⟩ ?_
 rintro i w' ⟨k,fld',rfl,hk,hC,y2,y3,y6,hrk⟩
 have l6:w.heap.size < w'.heap.size:=(Array.getElem?_eq_some_iff.1 y6).1
 have lw':=hC.ext.size
 obtain ⟨dn,mv,ds,mn,fv',h1,h2⟩:=hC.obj
 have c2:p2≠cb:=by rintro rfl;rw [y2] at h1;cases h1
 have c3:p3≠cb:=by rintro rfl;rw [y3] at h1;cases h1
 rcases ZD hk with ⟨x,hx,hd,Yv,ZJ⟩ | ⟨hk,hd,ZJ⟩
 · obtain ⟨b,o,cs,rfl,hl,hA,hE⟩:=Y3 k x hx
   obtain ⟨tv,cv,rfl,hT,hCa,ht1,hc1⟩:=hE.op
   have hA':=hA.ext hC.ext
   rw [hd] at hrk
   simp only [Xh] at hrk
   unfold DU
   simp (disch:=try exact DI) only [↓PR,QR,simprocAttr,ZJ]
   unfold If
   try unfold X0
   try unfold L0
   rw [YN underlying22 V2 _ _ _ _ _ k Yv,Wi (hA'.loads V2 rfl)]
   simp (disch:=try exact DI) only [↓PR,QR,simprocAttr,(Za y2).1,(Za h1).1,(Za h1).2]
   have hCw:=(hC.setFld (k:Int)).go ((Ext.refl _).alloc (Obj.cells (Zm x tv cv).toArray 48))
   have z2:=((Ext.refl _).alloc (Obj.cells (Zm x tv cv).toArray 48)).obj ((YY.setCell w' cb 6 (.int .i64 (k:Int)) p2 c2).trans y2)
   have z3:=((Ext.refl _).alloc (Obj.cells (Zm x tv cv).toArray 48)).obj ((YY.setCell w' cb 6 (.int .i64 (k:Int)) p3 c3).trans y3)
   have z6:=((Ext.refl _).alloc (Obj.cells (Zm x tv cv).toArray 48)).obj ((YY.setCell w' cb 6 (.int .i64 (k:Int)) w.heap.size (by omega)).trans y6)
   have z8:=ZG (w'.setCell ⟨cb,6,none⟩ (.int .i64 (k:Int))) (Zm x tv cv).toArray 48
   rw [World.size_setCell] at z8
   generalize (World.alloc (w'.setCell ⟨cb,6,none⟩ (.int .i64 (k:Int))) (Obj.cells (Zm x tv cv).toArray 48))=W at hCw z2 z3 z6 z8 ⊢
   have hkt:(m.fields.take k).length=k:=by rw [List.length_take];omega
   refine ZY (EL hCw.chk k rfl Yv _ x ⟨tv,cv,rfl,ZV.ext hT hCw.ext,Yc.ext hCa hCw.ext⟩ (ht x (List.mem_of_getElem? hx))) (λ w5 e5 h0=>?_) (λ w5 e5 h0=>?_)
   · rw [if_pos h0] at hrk
     have q6:=e5.obj z6
     have q8:=e5.obj z8
     have hC5:=hCw.go e5
     have l5:w'.heap.size < w5.heap.size:=(Array.getElem?_eq_some_iff.1 q8).1
     have htk:=Z4 hx
     rw [← htk] at hrk
     have hall:((m.fields.take (k+1)).all λ f=>!f.loose)=(((m.fields.take k).all λ f=>!f.loose)&&!x.loose):=by rw [htk,List.all_append];simp
     have fin:∀ b' w6,Ext w5 w6→b'=((m.fields.take (k+1)).all λ f=>!f.loose)→(∃ (k':Nat) (fld':Int),Value.int .i64 ((k+1:Nat):Int) = .int .i64 k'∧k'≤m.fields.length∧CkO a0 (w6.setCell ⟨w.heap.size,0,none⟩ (.bool b')) cb md ms deps strs at_ fld' m.fields∧w6.heap[p2]?=some (.cells #[.pointer (some ⟨cb,0,none⟩)] 140 (0,0))∧w6.heap[p3]?=some (.cells (Z8 m (.slice (some ⟨b,o,none⟩) m.fields.length c)).toArray 24 (0,0)) ∧
      (w6.setCell ⟨w.heap.size,0,none⟩ (.bool b')).heap[w.heap.size]?=some (.cells #[.bool ((m.fields.take k').all λ f=>!f.loose)] 4 (0,0))∧r=Gg deps m (Xh deps strs (m.fields.take k') (m.fields.drop k')))∧m.fields.length - (intOf (Value.int .i64 ((k+1:Nat):Int))).toNat < m.fields.length - (intOf (Value.int IntKind.i64 k)).toNat:=by
      rintro b' w6 e6 rfl
      refine ⟨⟨k+1,k,rfl,by omega,(hC5.go e6).other (by omega) (by omega) _,e6.obj (e5.obj z2),e6.obj (e5.obj z3),?_,hrk⟩,ZM (kd := .i64) Yv⟩
      have:=ZE (o:=0) (e6.obj q6) (.bool ((m.fields.take (k+1)).all λ f=>!f.loose))
      simpa using this
     unfold Rw
     rw [hall] at fin
     generalize ((m.fields.take k).all λ f=>!f.loose)=sj at q6 fin
     cases sj with
     | true=>
      generalize hxl:x.loose=xl at fin
      simp (disch:=try exact DI) only [↓PR,QR,simprocAttr,(Za q6).1,(Za q6).2,(Za q8).1,Fv,hxl]
      simp only [Bool.true_and] at fin
      exact fin _ w5 (Ext.refl _) rfl
     | false=>
      simp (disch:=try exact DI) only [↓PR,QR,simprocAttr,(Za q6).1,(Za q6).2,(Za q8).1,Fv]
      simp only [Bool.false_and] at fin
      exact fin _ w5 (Ext.refl _) rfl
   · rw [if_neg h0] at hrk
     have hr2:r=((k:Int),YL (m.fields.take k) (vI deps) (vB strs) x):=by
      rw [hrk,hkt];unfold Gg;rw [if_neg h0]
     show ZP _ _ _ _ _ _
     rw [UU]
     exact J1 (hCw.ext.trans e5) hr2 h0
 · subst hk
   rw [hd] at hrk
   rw [List.take_length] at y6
   unfold DU
   simp (disch:=try exact DI) only [↓PR,QR,simprocAttr,ZJ]
   refine M4 hlow hC p2 p3 w.heap.size m _ _ rfl hF hb hp2 hp3 lw lp2 lp3 y2 y3 y6 r ?_ K hK
   rw [hrk]
   rfl
theorem RH {w0:Wd} {fs0:List Zl} (hlow:Low deps) (h:CkO a0 w0 cb md ms deps strs at_ fld fs0) (v:Vl) (hm:Qr a0 v m) (hb:(Z9 m.fields).length≤1048576) (ht:∀ f∈m.fields,f.terms.length≤1048576) (K:WPr)
 (hK:∀ w',CkO a0 w' cb md ms (deps++[(m.name,QE deps m+1)]) (strs++[(m.name,Kb strs m)]) at_ (-1) m.fields→K w') :
 Calls Pg 124 #[.pointer (some ⟨cb,0,none⟩),v] w0 (DW a0 at_ (Q0 deps strs m) K):=by
 obtain ⟨fv,rfl,hF⟩:=hm
 obtain ⟨n1,n2,l1,l2,l3⟩:=h.nd
 have lw:=h.ext.size
 have hf1:=Zd.oneCell hF
 refine ZiO ?_;unfold n70
 simp (disch:=try exact DI) only [↓PR,QR,simprocAttr]
 have hC:=h.go (((Ext.refl w0).alloc (Obj.cells #[.pointer (some ⟨cb,0,none⟩)] 140)).alloc (Obj.cells (Z8 m fv).toArray 24))
 have z3:=ZG (w0.alloc (Obj.cells #[.pointer (some ⟨cb,0,none⟩)] 140)) (Z8 m fv).toArray 24
 have z2:=((Ext.refl (w0.alloc (Obj.cells #[.pointer (some ⟨cb,0,none⟩)] 140))).alloc (Obj.cells (Z8 m fv).toArray 24)).obj (ZG w0 _ _)
 simp only [World.size_alloc] at z3 ⊢
 generalize (World.alloc (World.alloc w0 _) _)=W at hC z2 z3 ⊢
 clear h
 obtain ⟨dn,mv,ds,mn,fv',h1,h2⟩:=hC.obj
 refine yf (w1:=W) cb cb (λ _ _ _ _=>rfl) ?_
 unfold Ij
 simp (disch:=try exact DI) only [↓PR,QR,simprocAttr,(Za z2).1]
 have L3:∀ w',KB W cb cb w'→WC Pg w' 24 ⟨w0.heap.size+1,0,none⟩ (.agg (Z8 m fv).toArray):=λ w' hw'=>WC.many Ki rfl (λ j u hu=>by
  rw [Addr.add_lit]
  exact KB.cell (b:=w0.heap.size+1) hw' (by omega) (by omega) (by rw [(Za z3).1];simpa using hu))
 rw [Sb L3]
 simp (disch:=try exact DI) only [↓PR,QR,simprocAttr,(Za h1).1,(Za h1).2]
 have eD:Ext W W.drew:=(Ext.refl W).wdrew
 have hC1:=(hC.go eD).setMsg m.name fv m.fields hF
 have y2:=(YY.setCell (W.drew.setCell ⟨cb,7,none⟩ (.string m.name)) cb 8 fv w0.heap.size (by omega)).trans ((YY.setCell W.drew cb 7 (.string m.name) w0.heap.size (by omega)).trans (eD.obj z2))
 have y3:=(YY.setCell (W.drew.setCell ⟨cb,7,none⟩ (.string m.name)) cb 8 fv (w0.heap.size+1) (by omega)).trans ((YY.setCell W.drew cb 7 (.string m.name) (w0.heap.size+1) (by omega)).trans (eD.obj z3))
 refine ⟨λ b hb b1 _=>(YY.setCell _ cb 8 fv b b1).trans (YY.setCell W.drew cb 7 (.string m.name) b b1),?_⟩
 show DV _ _ _ _ _ _ ((W.drew.setCell ⟨cb,7,none⟩ (.string m.name)).setCell ⟨cb,8,none⟩ fv)
 generalize ((W.drew.setCell ⟨cb,7,none⟩ (.string m.name)).setCell ⟨cb,8,none⟩ fv)=W1 at hC1 y2 y3 ⊢
 clear hC z2 z3 h1
 obtain ⟨dn,mv,ds,mn,fv',h1,h2'⟩:=hC1.obj
 unfold DV
 simp (disch:=try exact DI) only [↓PR,QR,simprocAttr,(Za h1).1,(Za h1).2]
 have hC2:=hC1.setFld (-1)
 have x2:=(YY.setCell W1 cb 6 (.int .i64 (-1)) w0.heap.size (by omega)).trans y2
 have x3:=(YY.setCell W1 cb 6 (.int .i64 (-1)) (w0.heap.size+1) (by omega)).trans y3
 generalize (W1.setCell ⟨cb,6,none⟩ (.int .i64 (-1)))=W2 at hC2 x2 x3 ⊢
 clear hC1 y2 y3 h1
 refine Yb ?_
 refine Zy ?_
 unfold Ii
 simp (disch:=try exact DI) only [↓PR,QR,simprocAttr,(Za x2).1,(Za x3).1]
 refine zcr (zS _ m.name) λ w3 e3=>?_
 have e3':Ext W2 w3:=(Ext.refl W2).wdrew.trans e3
 refine ⟨e3,?_⟩
 generalize hr:Q0 deps strs m=r
 unfold Q0 at hr
 refine ZY (YU (hC2.go e3').chk _ 1 (by decide)) (λ w4 e4 h0=>?_) (λ w4 e4 h0=>?_)
 · have e4':=e3'.trans e4
   have hn:Qv m.name=true:=Wo (by decide) h0
   rw [if_pos hn] at hr
   refine ⟨e3.trans e4,?_⟩
   have hC4:=hC2.go e4'
   have x2':=e4'.obj x2
   have x3':=e4'.obj x3
   obtain ⟨dn,mv,ds,mn,fv',h1,h2'⟩:=hC4.obj
   refine Zy ?_
   unfold Ih
   simp (disch:=try exact DI) only [↓PR,QR,simprocAttr,(Za x2').1,(Za x3').1,(Za h1).1]
   have eD4:Ext w4 w4.drew:=(Ext.refl w4).wdrew
   rw [Bm underlying161 underlying9 ty3 (hC4.mdeps.ext eD4) m.name]
   have hsome:(Yz (vI deps) m.name).isSome=(ZB deps m.name).isSome:=by rw [Va,Option.isSome_map]
   rw [hsome]
   simp (disch:=try exact DI) only [↓PR,QR,simprocAttr,(Za x2').1]
   refine ZY (YU (hC4.go eD4).chk _ 2 (by decide)) (λ w5 e5 h0=>?_) (λ w5 e5 h0=>?_)
   · have hs:(ZB deps m.name).isSome=false:=by have:=Wo (by decide) h0;simpa using this
     rw [hs,if_neg (by simp)] at hr
     have hC5:=hC4.go (eD4.trans e5)
     have x2'':=(eD4.trans e5).obj x2'
     have x3'':=(eD4.trans e5).obj x3'
     have fin:∀ b,b=decide (1≤m.fields.length∧m.fields.length≤40)→Yt Pg 122 #[.pointer (some ⟨cb,0,none⟩),.bool b,.int .i64 3] (ZP Pg [] [] (DW a0 at_ r K)) w5 (λ _ w=>A1 (.pointer (some ⟨w0.heap.size,0,none⟩)) (.pointer (some ⟨w0.heap.size+1,0,none⟩)) [] (DW a0 at_ r K) w):=by
      rintro b rfl
      refine ZY (YU hC5.chk _ 3 (by decide)) (λ w6 e6 h0=>?_) (λ w6 e6 h0=>?_)
      · have hl:=Wo (by decide) h0
        simp only [decide_eq_true_eq] at hl
        rw [if_pos hl] at hr
        exact RL hlow (hC5.go e6) w0.heap.size (w0.heap.size+1) fv hF hb ht (by omega) (by omega) (e6.obj x2'') (e6.obj x3'') r hr.symm K hK
      · by_cases hl:1≤m.fields.length∧m.fields.length≤40
        · rw [decide_eq_true hl] at h0;exact absurd rfl h0
        · rw [if_neg hl] at hr
          rw [decide_eq_false hl]
          show ZP _ _ _ _ _ _
          rw [UU]
          exact J1 (hC5.ext.trans e6) hr.symm (by decide)
     obtain ⟨A,c,rfl,hlc,hcm,hlm,Y3⟩:=Zd.open hF
     unfold Ig
     by_cases h1l:1≤m.fields.length
     · have d1:decide ((m.fields.length:Int)≥1)=true:=by simp;omega
       by_cases h2l:m.fields.length≤40
       · have d2:decide ((m.fields.length:Int)≤40)=true:=by simp;omega
         simp (disch:=try exact DI) only [↓PR,QR,simprocAttr,(Za x2'').1,(Za x3'').1,d1,d2]
         exact fin _ (by simp [h1l,h2l])
       · have d2:decide ((m.fields.length:Int)≤40)=false:=by simp;omega
         simp (disch:=try exact DI) only [↓PR,QR,simprocAttr,(Za x2'').1,(Za x3'').1,d1,d2]
         exact fin _ (by simp [h2l])
     · have d1:decide ((m.fields.length:Int)≥1)=false:=by simp;omega
       simp (disch:=try exact DI) only [↓PR,QR,simprocAttr,(Za x2'').1,(Za x3'').1,d1]
       exact fin _ (by simp [h1l])
   · have hs:(ZB deps m.name).isSome=true:=by
      cases hq:(ZB deps m.name).isSome with
      | true=>rfl
      | false=>rw [hq] at h0;exact absurd rfl h0
     rw [hs,if_pos rfl] at hr
     rw [hs]
     show ZP _ _ _ _ _ _
     rw [UU]
     exact J1 (hC4.ext.trans (eD4.trans e5)) hr.symm (by decide)
 · have hn:Qv m.name=false:=by
    cases hq:Qv m.name with
    | false=>rfl
    | true=>rw [hq] at h0;exact absurd rfl h0
   rw [hn,if_neg (by simp)] at hr
   rw [hn]
   show ZP _ _ _ _ _ _
   rw [UU]
   exact J1 (hC2.ext.trans (e3'.trans e4)) hr.symm (by decide)
end
def VD (deps:List (BAr×Int)) (m:ZC):List (BAr×Int):=deps++[(m.name,QE deps m+1)]
def Uo (strs:List (BAr×Bool)) (m:ZC):List (BAr×Bool):=strs++[(m.name,Kb strs m)]
def ZN (l:List ZC):List (BAr×Int):=l.foldl VD []
def Yl (l:List ZC):List (BAr×Bool):=l.foldl Uo []
def Wg (deps:List (BAr×Int)) (strs:List (BAr×Bool)) (at_:Nat):List ZC→Int×Int×Int
 | []=>(0,0,0)
 | m::l=>if (Q0 deps strs m).2=0 then Wg (VD deps m) (Uo strs m) (at_+1) l else (at_,Q0 deps strs m)
def HH (d:YQ) (r:Int×Int×Int):Int×Int×Int:=if r.2.2=0 then (if (ZB (ZN d.msgs) d.start).isSome then (0,0,0) else (-1,-1,11)) else r
def YA (d:YQ):Int×Int×Int:=
 if Qv d.name then (if 1≤d.msgs.length∧d.msgs.length≤60 then HH d (Wg [] [] 0 d.msgs) else (-1,-1,3)) else (-1,-1,1)
theorem Ny {deps:List (BAr×Int)} {m:ZC} {r:Int×Int} (h:(Gg deps m r).2=0):QE deps m < 16:=by
 unfold Gg at h
 split at h
 · split at h
   · assumption
   · exact absurd h (by decide)
 · contradiction
theorem CD {deps:List (BAr×Int)} {strs:List (BAr×Bool)} {m:ZC} (h:(Q0 deps strs m).2=0):QE deps m < 16:=by
 unfold Q0 at h
 split at h
 · split at h
   · exact absurd h (by decide)
   · split at h
     · exact Ny h
     · exact absurd h (by decide)
 · exact absurd h (by decide)
theorem Low.step {deps:List (BAr×Int)} {strs:List (BAr×Bool)} {m:ZC} (hl:Low deps) (h:(Q0 deps strs m).2=0):Low (VD deps m):=by
 intro p hp
 rcases List.mem_append.1 hp with hp | hp
 · exact hl p hp
 · simp only [List.mem_singleton] at hp
   subst hp
   have h1:=CD h
   have h2:=(KJ (λ s=>(ZB deps s).getD 0) (Qn m) 0 (by decide) (λ s _=>hl.get s) (by decide)).1
   exact ⟨by show 0≤QE deps m+1;unfold QE;omega,by show QE deps m+1≤16;omega⟩
def UJ (d:YQ):Prop:=∀ m∈d.msgs,(Z9 m.fields).length≤1048576∧∀ f∈m.fields,f.terms.length≤1048576
abbrev Kf (p3 p4:Nat):Deferred:={ target := .fn (.func 121) #[.pointer (some ⟨p3,0,none⟩),.pointer (some ⟨p4,0,none⟩)],args := #[] }
theorem MD {p3 p4:Nat} {w:Wd} {k:FrameMode→Wd→Prop} (h:k .returning w):BU Pg [Kf p3 p4] .returning w k:=by
 refine ⟨by simp,.inr ⟨.func 121,_,121,#[.pointer (some ⟨p3,0,none⟩),.pointer (some ⟨p4,0,none⟩)],rfl,?_,?_⟩⟩
 · exact Wt ZcR _ w
 · refine ZfP ?_
   unfold n75
   show opV _ (ZI .neq _ true .nilIface .nilIface) _ _ _
   rw [Bf underlying20]
   simp (disch:=try exact DI) only [↓PR,QR,simprocAttr]
   exact h
theorem MC {p3 p4:Nat} {w:Wd} {k:FrameMode→Wd→Prop} {a f c:Int} {x0 x1 x2 y:Vl} (o3:w.heap[p3]?=some (.cells #[x0,x1,x2] 90 (0,0))) (o4:w.heap[p4]?=some (.cells #[y] 4 (0,0)))
 (h:k .returning ((((w.setCell ⟨p3,0,none⟩ (.int .i64 a)).setCell ⟨p3,1,none⟩ (.int .i64 f)).setCell ⟨p3,2,none⟩ (.int .i64 c)).setCell ⟨p4,0,none⟩ (.bool true))):BU Pg [Kf p3 p4] (.panicking [XE a f c]) w k:=by
 have Xv:p3≠p4:=by rintro rfl;rw [o3] at o4;cases o4
 refine ⟨by simp,.inr ⟨.func 121,_,121,#[.pointer (some ⟨p3,0,none⟩),.pointer (some ⟨p4,0,none⟩)],rfl,?_,?_⟩⟩
 · exact Wt ZcR _ w
 · refine ZfP ?_
   rw [show recM (.panicking [XE a f c])=(.iface 90 (KI a f c),.panicking [{ v := .iface 90 (KI a f c),recovered:=true }]) from rfl]
   unfold n75
   rw [Bg underlying20]
   simp (disch:=try exact DI) only [↓PR,QR,simprocAttr]
   unfold Zbv
   rw [D1 underlying90 rfl]
   simp (disch:=try exact DI) only [↓PR,QR,simprocAttr,(Za o3).1,(Za o3).2,(Za o4).1,(Za o4).2]
   exact h
section
variable {w0:Wd}
def CkE (w:Wd) (cb:Nat) (deps:List (BAr×Int)) (strs:List (BAr×Bool)):Prop:=∃ md ms dn mv ds at_ fld mn fv,w.heap[cb]?=some (.cells #[.string dn,mv,.string ds,.map (some md),.map (some ms),.int .i64 at_,.int .i64 fld,.string mn,fv] 164 (0,0))∧Yr w md (vI deps)∧Yr w ms (vB strs)
theorem CkE.other {w:Wd} {cb b o:Nat} {deps:List (BAr×Int)} {strs:List (BAr×Bool)} (h:CkE w cb deps strs) (hn:b≠cb) (v:Vl):CkE (w.setCell ⟨b,o,none⟩ v) cb deps strs:=by
 obtain ⟨md,ms,dn,mv,ds,at_,fld,mn,fv,h1,h2,h3⟩:=h
 exact ⟨md,ms,dn,mv,ds,at_,fld,mn,fv,(YY.setCell w b o v cb (λ e=>hn e.symm)).trans h1,h2.setCell _ _,h3.setCell _ _⟩
theorem CkO.left {a0 w:Wd} {cb md ms:Nat} {deps:List (BAr×Int)} {strs:List (BAr×Bool)} {at_ fld:Int} {fs:List Zl} (h:CkO a0 w cb md ms deps strs at_ fld fs):CkE w cb deps strs:=by
 obtain ⟨dn,mv,ds,mn,fv,h1,_⟩:=h.obj
 exact ⟨md,ms,dn,mv,ds,at_,fld,mn,fv,h1,h.mdeps,h.mstrs⟩
def qE (w0:Wd) (d:YQ) (r:Vl) (w':Wd):Prop:=Ext w0 w'∧∃ cb,r = .tuple #[.pointer (some ⟨cb,0,none⟩),KI (YA d).1 (YA d).2.1 (YA d).2.2,.bool (decide ((YA d).2.2≠0))] ∧
 ((YA d).2.2=0→CkE w' cb (ZN d.msgs) (Yl d.msgs))
abbrev IM (cb p3 p4:Nat):List (Option TypeId×Vl):=[(none,.pointer (some ⟨cb,0,none⟩)),(some 90,.pointer (some ⟨p3,0,none⟩)),(some 4,.pointer (some ⟨p4,0,none⟩))]
theorem Lh {w:Wd} {d:YQ} {cb p3 p4:Nat} {a f c:Int} {x0 x1 x2 y:Vl} (e:Ext w0 w) (h3:w0.heap.size≤p3) (h4:w0.heap.size≤p4) (o3:w.heap[p3]?=some (.cells #[x0,x1,x2] 90 (0,0))) (o4:w.heap[p4]?=some (.cells #[y] 4 (0,0)))
 (h:YA d=(a,f,c)) (hc:c≠0):ZP Pg [Kf p3 p4] (IM cb p3 p4) (ZO (qE w0 d)) [XE a f c] w:=by
 have Xv:p3≠p4:=by rintro rfl;rw [o3] at o4;cases o4
 unfold ZP
 refine MC o3 o4 ?_
 have q3:=ZE (o:=2) (ZE (o:=1) (ZE (o:=0) o3 (.int .i64 a)) (.int .i64 f)) (.int .i64 c)
 have e1:Ext w0 ((((w.setCell ⟨p3,0,none⟩ (.int .i64 a)).setCell ⟨p3,1,none⟩ (.int .i64 f)).setCell ⟨p3,2,none⟩ (.int .i64 c)).setCell ⟨p4,0,none⟩ (.bool true)):=(((e.setCell h3 _).setCell h3 _).setCell h3 _).setCell h4 _
 have q4:=ZE (o:=0) ((YY.setCell ((w.setCell ⟨p3,0,none⟩ (.int .i64 a)).setCell ⟨p3,1,none⟩ (.int .i64 f)) p3 2 (.int .i64 c) p4 (by omega)).trans ((YY.setCell (w.setCell ⟨p3,0,none⟩ (.int .i64 a)) p3 1 (.int .i64 f) p4 (by omega)).trans ((YY.setCell w p3 0 (.int .i64 a) p4 (by omega)).trans o4))) (.bool true)
 have q3':=(YY.setCell _ p4 0 (.bool true) p3 Xv).trans q3
 simp only [List.setIfInBounds_toArray,List.set_cons_zero,List.set_cons_succ] at q3' q4
 generalize ((((w.setCell ⟨p3,0,none⟩ (.int .i64 a)).setCell ⟨p3,1,none⟩ (.int .i64 f)).setCell ⟨p3,2,none⟩ (.int .i64 c)).setCell ⟨p4,0,none⟩ (.bool true))=W at e1 q3' q4 ⊢
 unfold N3 qp Qo IM
 simp only
 simp (disch:=try exact DI) only [↓PR,QR,simprocAttr,(Za q3').1,(Za q4).1]
 refine ⟨e1,cb,?_,λ h0=>?_⟩
 · rw [h];simp [hc]
 · rw [h] at h0;exact absurd h0 hc
theorem N7 {w:Wd} {d:YQ} {cb p3 p4:Nat} (e:Ext w0 w) (hC:CkE w cb (ZN d.msgs) (Yl d.msgs)) (o3:w.heap[p3]?=some (.cells #[.int .i64 0,.int .i64 0,.int .i64 0] 90 (0,0))) (o4:w.heap[p4]?=some (.cells #[.bool false] 4 (0,0)))
 (h:YA d=(0,0,0)):Us Pg [Kf p3 p4] (IM cb p3 p4) (ZO (qE w0 d)) w:=by
 unfold Us
 refine MD ?_
 unfold N3 qp Qo IM
 simp only
 simp (disch:=try exact DI) only [↓PR,QR,simprocAttr,(Za o3).1,(Za o4).1]
 refine ⟨e,cb,?_,λ h0=>hC⟩
 rw [h];simp
theorem My {f:FuncId} {args:AVl} {QP:PEn} {a0 w:Wd} {k:KV} {at_:Int} {r:Int×Int} {K:WPr} (h:Calls Pg f args w (DW a0 at_ r K)) (hk:∀ w',r.2=0→K w'→k (.tuple #[]) w') (hp:∀ w',Ext a0 w'→r.2≠0→QP [XE at_ r.1 r.2] w'):Yt Pg f args QP w k:=
 qy h (λ v w' h=>by rcases h with ⟨e,⟨h1,h2,h3⟩ | ⟨_,h2⟩⟩<;>cases h2;exact hk w' h1 h3) (λ ch w' h=>by rcases h with ⟨e,⟨_,h2,_⟩ | ⟨h1,h2⟩⟩<;>cases h2;exact hp w' e h1) (λ w' h=>by rcases h with ⟨_,⟨_,h2,_⟩ | ⟨_,h2⟩⟩<;>cases h2)
theorem Ak {α β:Type} (g:β→α→β) {l:List α} {k:Nat} {x:α} (b:β) (hx:l[k]?=some x):(l.take (k+1)).foldl g b=g ((l.take k).foldl g b) x:=by rw [Z4 hx,List.foldl_append];rfl
theorem N8 {A0 w:Wd} {d:YQ} {cb p1 p3 p4 md ms:Nat} {fs:List Zl} {mv:Vl} (ea:Ext w0 A0) (hM:Vi A0 mv d.msgs) (ht:UJ d) (hC:CkO A0 w cb md ms [] [] (-1) (-1) fs) (o1:A0.heap[p1]?=some (.cells (Zz d mv).toArray 28 (0,0)))
 (o3:A0.heap[p3]?=some (.cells #[.int .i64 0,.int .i64 0,.int .i64 0] 90 (0,0))) (o4:A0.heap[p4]?=some (.cells #[.bool false] 4 (0,0))) (h3:w0.heap.size≤p3) (h4:w0.heap.size≤p4) (hr:YA d=HH d (Wg [] [] 0 d.msgs)) :
 A5 (.pointer (some ⟨p1,0,none⟩)) (.pointer (some ⟨p3,0,none⟩)) (.pointer (some ⟨p4,0,none⟩)) (.pointer (some ⟨cb,0,none⟩)) [Kf p3 p4] (ZO (qE w0 d)) w:=by
 have pan:∀ w' a f c,Ext A0 w'→YA d=(a,f,c)→c≠0→ZP Pg [Kf p3 p4] (IM cb p3 p4) (ZO (qE w0 d)) [XE a f c] w':=λ w' a f c e h h0=>Lh (ea.trans e) h3 h4 (e.obj o3) (e.obj o4) h h0
 obtain ⟨A,c,rfl,hlc,hcm,hlm,Y3⟩:=Zd.open hM
 unfold A5
 simp (disch:=try exact DI) only [↓PR,QR,simprocAttr,(Za (hC.ext.obj o1)).1]
 refine ZF (λ i w'=>∃ (k:Nat) (at':Int) (fs':List Zl),i = .int .i64 k∧k≤d.msgs.length∧CkO A0 w' cb md ms (ZN (d.msgs.take k)) (Yl (d.msgs.take k)) at' (-1) fs'∧Low (ZN (d.msgs.take k))∧YA d=HH d (Wg (ZN (d.msgs.take k)) (Yl (d.msgs.take k)) k (d.msgs.drop k))) (λ i _=>d.msgs.length - (intOf i).toNat) ⟨0,-1,fs,rfl,by omega,hC,(λ _ h=>by cases h),hr⟩ ?_
 rintro i w' ⟨k,at',fs',rfl,hk,hC',hlow,hrk⟩
 have lw':=hC'.ext.size
 obtain ⟨dn,mv,ds,mn,fv',x1,x2⟩:=hC'.obj
 obtain ⟨n1,n2,l1,l2,l3⟩:=hC'.nd
 rcases ZD hk with ⟨x,hx,hd,Yv,ZJ⟩ | ⟨hk,hd,ZJ⟩
 · obtain ⟨b,o,cs,rfl,hl,hA,fv,rfl,hF⟩:=Y3 k x hx
   have hf1:=Zd.oneCell hF
   rw [hd] at hrk
   simp only [Wg] at hrk
   unfold CC
   simp (disch:=try exact DI) only [↓PR,QR,simprocAttr,ZJ]
   unfold Fz
   simp (disch:=try exact DI) only [↓PR,QR,simprocAttr,(hA.c2 hC'.ext).1,(hA.c2 hC'.ext).2,(Za x1).1,(Za x1).2]
   have hCw:=(hC'.setAt (k:Int)).go ((Ext.refl _).alloc (Obj.cells (Z8 x fv).toArray 24))
   refine My (RH (m:=x) hlow hCw _ ⟨fv,rfl,hF⟩ (ht x (List.mem_of_getElem? hx)).1 (ht x (List.mem_of_getElem? hx)).2 (λ w'=>CkO A0 w' cb md ms (VD (ZN (d.msgs.take k)) x) (Uo (Yl (d.msgs.take k)) x) k (-1) x.fields) (λ w' h=>h)) (λ w5 h0 hC5=>?_) (λ w5 e5 h0=>?_)
   · rw [if_pos h0] at hrk
     have hd1:ZN (d.msgs.take (k+1))=VD (ZN (d.msgs.take k)) x:=Ak VD [] hx
     have hs1:Yl (d.msgs.take (k+1))=Uo (Yl (d.msgs.take k)) x:=Ak Uo [] hx
     rw [← hd1,← hs1] at hrk hC5
     have hlow':Low (ZN (d.msgs.take (k+1))):=by rw [hd1];exact hlow.step h0
     simp (disch:=try exact DI) only [↓PR,QR,simprocAttr]
     exact ⟨⟨k+1,k,x.fields,rfl,by omega,hC5,hlow',hrk⟩,ZM (kd := .i64) Yv⟩
   · rw [if_neg h0] at hrk
     refine pan _ _ _ _ e5 ?_ h0
     rw [hrk]
     unfold HH
     rw [if_neg h0]
 · subst hk
   rw [hd] at hrk
   rw [List.take_length] at hC' hrk
   unfold CC
   simp (disch:=try exact DI) only [↓PR,QR,simprocAttr,ZJ]
   unfold Fy
   simp (disch:=try exact DI) only [↓PR,QR,simprocAttr,(Za x1).1,(Za x1).2]
   have hC2:=hC'.setAt (-1)
   generalize (w'.setCell ⟨cb,5,none⟩ (.int .i64 (-1)))=W at hC2 ⊢
   clear x1 x2 hC'
   obtain ⟨dn,mv,ds,mn,fv',x1,x2⟩:=hC2.obj
   refine Zy ?_
   have eD:Ext W W.drew:=(Ext.refl W).wdrew
   unfold Fx
   simp (disch:=try exact DI) only [↓PR,QR,simprocAttr,(Za x1).1,(Za (hC2.ext.obj o1)).1]
   rw [Bm underlying161 underlying9 ty3 (hC2.mdeps.ext eD) d.start]
   have hsome:(Yz (vI (ZN d.msgs)) d.start).isSome=(ZB (ZN d.msgs) d.start).isSome:=by rw [Va,Option.isSome_map]
   rw [hsome]
   simp only [Wg,HH,if_true] at hrk
   simp (disch:=try exact DI) only [↓PR,QR,simprocAttr]
   refine ZY (YU (hC2.go eD).chk _ 11 (by decide)) (λ w5 e5 h0=>?_) (λ w5 e5 h0=>?_)
   · have hs:=Wo (by decide) h0
     rw [hs,if_pos rfl] at hrk
     have hC5:=hC2.go (eD.trans e5)
     have y3:=hC5.ext.obj o3
     have y4:=hC5.ext.obj o4
     have ne34:p3≠p4:=by rintro rfl;rw [o3] at o4;cases o4
     unfold Fw
     simp (disch:=try exact DI) only [↓PR,QR,simprocAttr,(Za y3).1,(Za y3).2,(Za y4).1,(Za y4).2]
     have c3:p3≠cb:=by have:=hC5.lcb;have:=(Array.getElem?_eq_some_iff.1 o3).1;omega
     have c4:p4≠cb:=by have:=hC5.lcb;have:=(Array.getElem?_eq_some_iff.1 o4).1;omega
     have q3:=ZE (o:=2) (ZE (o:=1) (ZE (o:=0) y3 (.int .i64 0)) (.int .i64 0)) (.int .i64 0)
     have q4:=ZE (o:=0) ((YY.setCell ((w5.setCell ⟨p3,0,none⟩ (.int .i64 0)).setCell ⟨p3,1,none⟩ (.int .i64 0)) p3 2 (.int .i64 0) p4 (by omega)).trans ((YY.setCell (w5.setCell ⟨p3,0,none⟩ (.int .i64 0)) p3 1 (.int .i64 0) p4 (by omega)).trans ((YY.setCell w5 p3 0 (.int .i64 0) p4 (by omega)).trans y4))) (.bool false)
     have q3':=(YY.setCell _ p4 0 (.bool false) p3 ne34).trans q3
     exact N7 (((((ea.trans hC5.ext).setCell h3 _).setCell h3 _).setCell h3 _).setCell h4 _) ((((hC5.left.other c3 _).other c3 _).other c3 _).other c4 _) (by simpa using q3') (by simpa using q4) hrk
   · have hs:(ZB (ZN d.msgs) d.start).isSome=false:=by
      cases hq:(ZB (ZN d.msgs) d.start).isSome with
      | false=>rfl
      | true=>rw [hq] at h0;exact absurd rfl h0
     rw [hs,if_neg (by simp)] at hrk
     rw [hs]
     exact pan _ _ _ _ (hC2.ext.trans (eD.trans e5)) hrk (by decide)
theorem Dn (v:Vl) (d:YQ) (hd:YT w0 v d) (ht:UJ d):Ret Pg 93 #[v] w0 (qE w0 d):=by
 obtain ⟨mv,rfl,hM⟩:=hd
 have hm1:=Zd.oneCell hM
 refine ZiS (R:=ZO _) ?_;unfold n74
 simp (disch:=try exact DI) only [↓PR,QR,simprocAttr]
 refine ⟨Kf (w0.heap.size+1) (w0.heap.size+1+1),_,rfl,?_⟩
 simp only [World.size_alloc]
 generalize hA0:((w0.alloc (Obj.cells (Zz d mv).toArray 28)).alloc (Obj.cells #[.int .i64 0,.int .i64 0,.int .i64 0] 90)).alloc (Obj.cells #[.bool false] 4)=A0
 have ea:Ext w0 A0:=by rw [← hA0];exact ee
 have o1:A0.heap[w0.heap.size]?=some (.cells (Zz d mv).toArray 28 (0,0)):=by rw [← hA0];simp (disch:=try exact DI) only [↓PR,QR,simprocAttr]
 have o3:A0.heap[w0.heap.size+1]?=some (.cells #[.int .i64 0,.int .i64 0,.int .i64 0] 90 (0,0)):=by rw [← hA0];simp (disch:=try exact DI) only [↓PR,QR,simprocAttr]
 have o4:A0.heap[w0.heap.size+1+1]?=some (.cells #[.bool false] 4 (0,0)):=by rw [← hA0];simp (disch:=try exact DI) only [↓PR,QR,simprocAttr]
 have VF:A0.heap.size=w0.heap.size+1+1+1:=by rw [← hA0];simp only [World.size_alloc]
 clear hA0
 have hC:CkO A0 (((A0.alloc (Obj.map #[] 0)).alloc (Obj.map #[] 0)).alloc (Obj.cells #[.string d.name,mv,.string d.start,.map (some (w0.heap.size+1+1+1)),.map (some (w0.heap.size+1+1+1+1)),.int .i64 (-1),.int .i64 (-1),.string ByteArray.empty,.slice none 0 0] 164)) (w0.heap.size+1+1+1+1+1) (w0.heap.size+1+1+1) (w0.heap.size+1+1+1+1) [] [] (-1) (-1) []:=by
  refine ⟨ee,⟨d.name,mv,d.start,ByteArray.empty,.slice none 0 0,?_,Zd.nil _ _ _⟩,?_,?_,by omega,by omega,by omega,by omega⟩
  · have:=ZG ((A0.alloc (Obj.map #[] 0)).alloc (Obj.map #[] 0)) #[.string d.name,mv,.string d.start,.map (some (w0.heap.size+1+1+1)),.map (some (w0.heap.size+1+1+1+1)),.int .i64 (-1),.int .i64 (-1),.string ByteArray.empty,.slice none 0 0] 164
    simp only [World.size_alloc,VF] at this
    exact this
  · have:=(Yr.new A0).ext (((Ext.refl _).alloc (Obj.map #[] 0)).alloc (Obj.cells #[.string d.name,mv,.string d.start,.map (some (w0.heap.size+1+1+1)),.map (some (w0.heap.size+1+1+1+1)),.int .i64 (-1),.int .i64 (-1),.string ByteArray.empty,.slice none 0 0] 164))
    simp only [World.size_alloc,VF] at this
    exact this
  · have:=(Yr.new (A0.alloc (Obj.map #[] 0))).ext ((Ext.refl _).alloc (Obj.cells #[.string d.name,mv,.string d.start,.map (some (w0.heap.size+1+1+1)),.map (some (w0.heap.size+1+1+1+1)),.int .i64 (-1),.int .i64 (-1),.string ByteArray.empty,.slice none 0 0] 164))
    simp only [World.size_alloc,VF] at this
    exact this
 generalize (((A0.alloc (Obj.map #[] 0)).alloc (Obj.map #[] 0)).alloc (Obj.cells #[.string d.name,mv,.string d.start,.map (some (w0.heap.size+1+1+1)),.map (some (w0.heap.size+1+1+1+1)),.int .i64 (-1),.int .i64 (-1),.string ByteArray.empty,.slice none 0 0] 164))=W at hC ⊢
 generalize hcb:w0.heap.size+1+1+1+1+1=cb at hC ⊢
 generalize hmd:w0.heap.size+1+1+1=md at hC VF
 generalize hms:w0.heap.size+1+1+1+1=ms at hC
 generalize hp3:w0.heap.size+1+1=p4 at o4 ⊢
 generalize hp4:w0.heap.size+1=p3 at o3 ⊢
 have l3:w0.heap.size≤p3:=by omega
 have l4:w0.heap.size≤p4:=by omega
 simp (disch:=try exact DI) only [↓PR,QR,simprocAttr,(Za (hC.ext.obj o1)).1]
 refine zcr (zS _ d.name) λ w1 e1=>?_
 have hC1:=hC.go e1
 have pan:∀ w' a f c,Ext A0 w'→YA d=(a,f,c)→c≠0→ZP Pg [Kf p3 p4] (IM cb p3 p4) (ZO (qE w0 d)) [XE a f c] w':=λ w' a f c e h h0=>Lh (ea.trans e) l3 l4 (e.obj o3) (e.obj o4) h h0
 generalize hr:YA d=r
 have hr':=hr
 unfold YA at hr
 refine ZY (YU hC1.chk _ 1 (by decide)) (λ w2 e2 h0=>?_) (λ w2 e2 h0=>?_)
 · have hn:Qv d.name=true:=Wo (by decide) h0
   rw [if_pos hn] at hr
   have hC2:=hC1.go e2
   have fin:∀ b,b=decide (1≤d.msgs.length∧d.msgs.length≤60)→Yt Pg 122 #[.pointer (some ⟨cb,0,none⟩),.bool b,.int .i64 3] (ZP Pg [Kf p3 p4] (IM cb p3 p4) (ZO (qE w0 d))) w2 (λ _ w=>A5 (.pointer (some ⟨w0.heap.size,0,none⟩)) (.pointer (some ⟨p3,0,none⟩)) (.pointer (some ⟨p4,0,none⟩)) (.pointer (some ⟨cb,0,none⟩)) [Kf p3 p4] (ZO (qE w0 d)) w):=by
    rintro b rfl
    refine ZY (YU hC2.chk _ 3 (by decide)) (λ w3 e3 h0=>?_) (λ w3 e3 h0=>?_)
    · have hl:=Wo (by decide) h0
      simp only [decide_eq_true_eq] at hl
      rw [if_pos hl] at hr
      exact N8 ea (hM.ext ea) ht (hC2.go e3) o1 o3 o4 l3 l4 (hr'.trans hr.symm)
    · by_cases hl:1≤d.msgs.length∧d.msgs.length≤60
      · rw [decide_eq_true hl] at h0;exact absurd rfl h0
      · rw [if_neg hl] at hr
        rw [decide_eq_false hl]
        exact pan _ _ _ _ (hC2.ext.trans e3) (hr'.trans hr.symm) (by decide)
   obtain ⟨A,c,rfl,hlc,hcm,hlm,Y3⟩:=Zd.open hM
   have x1:=hC2.ext.obj o1
   unfold FA
   by_cases h1l:1≤d.msgs.length
   · have d1:decide ((d.msgs.length:Int)≥1)=true:=by simp;omega
     by_cases h2l:d.msgs.length≤60
     · have d2:decide ((d.msgs.length:Int)≤60)=true:=by simp;omega
       simp (disch:=try exact DI) only [↓PR,QR,simprocAttr,(Za x1).1,d1,d2,↓Fw,↓Fx,↓Fy,↓Fz,↓CC,↓A5,↓LP,↓LQ,↓FA]
       exact fin _ (by simp [h1l,h2l])
     · have d2:decide ((d.msgs.length:Int)≤60)=false:=by simp;omega
       simp (disch:=try exact DI) only [↓PR,QR,simprocAttr,(Za x1).1,d1,d2,↓Fw,↓Fx,↓Fy,↓Fz,↓CC,↓A5,↓LP,↓LQ,↓FA]
       exact fin _ (by simp [h2l])
   · have d1:decide ((d.msgs.length:Int)≥1)=false:=by simp;omega
     simp (disch:=try exact DI) only [↓PR,QR,simprocAttr,(Za x1).1,d1,↓Fw,↓Fx,↓Fy,↓Fz,↓CC,↓A5,↓LP,↓LQ,↓FA]
     exact fin _ (by simp [h1l])
 · have hn:Qv d.name=false:=by
    cases hq:Qv d.name with
    | false=>rfl
    | true=>rw [hq] at h0;exact absurd rfl h0
   rw [hn,if_neg (by simp)] at hr
   rw [hn]
   exact pan _ _ _ _ (hC1.ext.trans e2) (hr'.trans hr.symm) (by decide)
end
section
variable {w0:Wd}
abbrev Aj (r:Int×Int×Int):Vl:=KI r.1 r.2.1 r.2.2
abbrev Xy (d:YQ):Bool:=decide ((YA d).2.2≠0)
theorem Mn (v:Vl) (d:YQ) (hd:YT w0 v d) (ht:UJ d):Ret Pg 62 #[v] w0 λ r w'=>r = .tuple #[Aj (YA d),.bool (Xy d)]∧Ext w0 w':=by
 obtain ⟨mv,rfl,hM⟩:=hd
 have hm1:=Zd.oneCell hM
 refine Ziw (R:=ZO _) ?_;unfold n51
 simp (disch:=try exact DI) only [↓PR,QR,simprocAttr]
 refine Zs (Dn _ d ⟨mv,rfl,Vi.ext hM ee⟩ ht) ?_
 rintro _ w1 ⟨e1,cb,rfl,_⟩
 have s1:=e1.size
 simp only [World.size_alloc] at s1
 have o2:=e1.obj (ZG (w0.alloc (Obj.cells (Zz d mv).toArray 28)) #[.int .i64 0,.int .i64 0,.int .i64 0] 90)
 rw [World.size_alloc] at o2
 simp (disch:=try exact DI) only [↓PR,QR,simprocAttr,↓Za9,(Za o2).1,(Za o2).2]
 exact ⟨by first | trivial | rfl,ee⟩
theorem jY (v:Vl) (d:YQ) (hd:YT w0 v d) (ht:UJ d):Ret Pg 29 #[v] w0 λ r w'=>r = .bool (!Xy d)∧Ext w0 w':=by
 obtain ⟨mv,rfl,hM⟩:=hd
 have hm1:=Zd.oneCell hM
 refine ZiH (R:=ZO _) ?_;unfold n63
 simp (disch:=try exact DI) only [↓PR,QR,simprocAttr]
 refine zcr (Mn _ d ⟨mv,rfl,Vi.ext hM ee⟩ ht) λ w1 e1=>?_
 simp (disch:=try exact DI) only [↓PR,QR,simprocAttr,↓Zbb]
 exact ⟨by first | trivial | rfl,ee⟩
end
def Sub {β:Type} (a b:List (BAr×β)):Prop:=∀ s v,ZB a s=some v→ZB b s=some v
section
variable {β:Type}
theorem Sub.refl (a:List (BAr×β)):Sub a a:=λ _ _ h=>h
theorem Sub.trans {a b c:List (BAr×β)} (h:Sub a b) (k:Sub b c):Sub a c:=λ s v x=>k s v (h s v x)
theorem Sub.snoc {a:List (BAr×β)} {p:BAr×β} (h:ZB a p.1=none):Sub a (a++[p]):=λ s v x=>by
 rw [Aw]
 by_cases e:p.1=s
 · subst e;rw [h] at x;cases x
 · rw [if_neg e];exact x
theorem Sub.is {a b:List (BAr×β)} (h:Sub a b) {s:BAr} (k:(ZB a s).isSome=true):(ZB b s).isSome=true:=by
 obtain ⟨v,hv⟩:=Option.isSome_iff_exists.1 k
 rw [h s v hv];rfl
theorem KN {l:List (BAr×β)} {s:BAr}:ZB l s=none↔∀ p∈l,p.1≠s:=by
 unfold ZB
 rw [Option.map_eq_none_iff,List.find?_eq_none]
 simp
end
theorem isI (deps:List (BAr×Int)) (s:BAr):(Yz (vI deps) s).isSome=(ZB deps s).isSome:=by rw [Va];simp
theorem YP {a b:Int}:orC a b=0↔a=0∧b=0:=by
 unfold orC
 split
 · rename_i h;simp [h]
 · rename_i h;simp [h]
theorem Y0 {b:Bool} {c:Int} (hc:c≠0):Yj b c=0↔b=true:=by
 unfold Yj
 cases b<;>simp [hc]
theorem G8 {s:BAr}:∀ {l seen:List BAr},s∈YF seen l→s∈l
 | [],_,h=>by cases h
 | x::l,seen,h=>by
  unfold YF at h
  split at h
  · exact List.mem_cons_of_mem _ (G8 h)
  · rcases List.mem_cons.1 h with rfl | h
    · exact List.mem_cons_self
    · exact List.mem_cons_of_mem _ (G8 h)
section
variable {deps deps':List (BAr×Int)} {strs strs':List (BAr×Bool)}
theorem JB (hd:Sub deps deps') (hi:Int):∀ (l:List W6) (lo:Int),WS hi (vI deps) lo l=0→WS hi (vI deps') lo l=0∧∀ c∈l,(ZB deps c.of).isSome=true
 | [],_,_=>⟨rfl,λ _ h=>by cases h⟩
 | x::l,lo,h=>by
  simp only [WS,YP,Y0 (show (8:Int)≠0 by decide),isI] at h ⊢
  obtain ⟨h1,h2,h3⟩:=h
  obtain ⟨i1,i2⟩:=JB hd hi l _ h3
  refine ⟨⟨h1,hd.is h2,i1⟩,λ c hc=>?_⟩
  rcases List.mem_cons.1 hc with rfl | hc
  · exact h2
  · exact i2 c hc
theorem CX {s:BAr} (h:Ei (vB strs) s=true):ZB strs s=some true:=by
 rw [Ej] at h
 cases hl:ZB strs s with
 | none=>rw [hl] at h;cases h
 | some b=>rw [hl] at h;simp at h;rw [h]
theorem Dm (hd:Sub deps deps') (hs:Sub strs strs') {bef:List Zl} {f:Zl} (h:YL bef (vI deps) (vB strs) f=0):YL bef (vI deps') (vB strs') f=0:=by
 unfold YL at h ⊢
 simp only [YP] at h ⊢
 refine ⟨h.1,h.2.1,h.2.2.1,h.2.2.2.1,?_⟩
 obtain ⟨_,_,_,_,h⟩:=h
 unfold ZW at h ⊢
 by_cases k1:f.kind=1
 · rw [if_pos k1] at h ⊢;exact h
 rw [if_neg k1] at h ⊢
 by_cases k2:f.kind=2
 · rw [if_pos k2] at h ⊢;exact h
 rw [if_neg k2] at h ⊢
 by_cases k3:f.kind=3
 · rw [if_pos k3] at h ⊢;exact h
 rw [if_neg k3] at h ⊢
 by_cases k4:f.kind=4
 · rw [if_pos k4] at h ⊢;exact h
 rw [if_neg k4] at h ⊢
 by_cases k5:f.kind=5
 · rw [if_pos k5] at h ⊢;exact h
 rw [if_neg k5] at h ⊢
 by_cases k6:f.kind=6
 · rw [if_pos k6] at h ⊢;exact h
 rw [if_neg k6] at h ⊢
 by_cases k7:f.kind=7
 · rw [if_pos k7] at h ⊢
   simp only [YP,Y0 (show (8:Int)≠0 by decide),isI] at h ⊢
   exact ⟨hd.is h.1,h.2⟩
 rw [if_neg k7] at h ⊢
 by_cases k8:f.kind=8
 · rw [if_pos k8] at h ⊢
   simp only [Y0 (show (8:Int)≠0 by decide),isI] at h ⊢
   exact hd.is h
 rw [if_neg k8] at h ⊢
 by_cases k9:f.kind=9
 · rw [if_pos k9] at h ⊢
   unfold Vn at h ⊢
   simp only [YP] at h ⊢
   exact ⟨h.1,h.2.1,(JB hd _ _ _ h.2.2).1⟩
 rw [if_neg k9] at h ⊢
 by_cases k10:f.kind=10
 · rw [if_pos k10] at h ⊢;exact h
 rw [if_neg k10] at h ⊢
 by_cases k11:f.kind=11
 · rw [if_pos k11] at h ⊢;exact h
 rw [if_neg k11] at h ⊢
 by_cases k12:f.kind=12
 · rw [if_pos k12] at h ⊢
   simp only [YP,Y0 (show (8:Int)≠0 by decide)] at h ⊢
   refine ⟨h.1,?_,h.2.2⟩
   rw [Ej,hs _ _ (CX h.2.1)];rfl
 rw [if_neg k12]
theorem yg (hds:∀ s,(ZB strs s).isSome=true→(ZB deps s).isSome=true) {bef:List Zl} {f:Zl} (h:YL bef (vI deps) (vB strs) f=0):∀ s∈Xx f,(ZB deps s).isSome=true:=by
 intro s hs
 unfold YL at h
 simp only [YP] at h
 obtain ⟨_,_,_,_,h⟩:=h
 unfold ZW at h
 unfold Xx at hs
 split at hs
 · rename_i hk
   simp only [List.mem_singleton] at hs
   subst hs
   rcases hk with hk | hk | hk
   · rw [if_neg (by omega),if_neg (by omega),if_neg (by omega),if_neg (by omega),if_neg (by omega),if_neg (by omega),if_pos hk] at h
     simp only [YP,Y0 (show (8:Int)≠0 by decide),isI] at h
     exact h.1
   · rw [if_neg (by omega),if_neg (by omega),if_neg (by omega),if_neg (by omega),if_neg (by omega),if_neg (by omega),if_neg (by omega),if_pos hk] at h
     simp only [Y0 (show (8:Int)≠0 by decide),isI] at h
     exact h
   · rw [if_neg (by omega),if_neg (by omega),if_neg (by omega),if_neg (by omega),if_neg (by omega),if_neg (by omega),if_neg (by omega),if_neg (by omega),if_neg (by omega),if_neg (by omega),if_neg (by omega),if_pos hk] at h
     simp only [YP,Y0 (show (8:Int)≠0 by decide)] at h
     exact hds _ (by rw [CX h.2.1];rfl)
 · split at hs
   · rename_i hk
     obtain ⟨c,hc,rfl⟩:=List.mem_map.1 hs
     rw [if_neg (by omega),if_neg (by omega),if_neg (by omega),if_neg (by omega),if_neg (by omega),if_neg (by omega),if_neg (by omega),if_neg (by omega),if_pos hk] at h
     unfold Vn at h
     simp only [YP] at h
     exact (JB (Sub.refl deps) _ _ _ h.2.2).2 c hc
   · cases hs
theorem JF (hd:Sub deps deps') (hs:Sub strs strs') (hds:∀ s,(ZB strs s).isSome=true→(ZB deps s).isSome=true):∀ (l bef:List Zl),(Xh deps strs bef l).2=0→Xh deps' strs' bef l=(-1,0)∧∀ s∈Z9 l,(ZB deps s).isSome=true
 | [],bef,h=>⟨rfl,λ s hs=>by cases hs⟩
 | f::l,bef,h=>by
  unfold Xh at h ⊢
  by_cases h0:YL bef (vI deps) (vB strs) f=0
  · rw [if_pos h0] at h
    rw [if_pos (Dm hd hs h0)]
    obtain ⟨i1,i2⟩:=JF hd hs hds l _ h
    refine ⟨i1,λ s hs=>?_⟩
    rcases List.mem_append.1 (show s∈Xx f++Z9 l from hs) with hs | hs
    · exact yg hds h0 s hs
    · exact i2 s hs
  · rw [if_neg h0] at h;exact absurd h h0
theorem VZ {m:ZC} (h:(Q0 deps strs m).2=0):Qv m.name=true∧ZB deps m.name=none∧(1≤m.fields.length∧m.fields.length≤40)∧(Xh deps strs [] m.fields).2=0∧QE deps m < 16:=by
 have hl:=CD h
 unfold Q0 at h
 by_cases h1:Qv m.name=true
 · rw [if_pos h1] at h
   by_cases h2:(ZB deps m.name).isSome=true
   · rw [if_pos h2] at h;exact absurd h (by decide)
   · rw [if_neg h2] at h
     by_cases h3:1≤m.fields.length∧m.fields.length≤40
     · rw [if_pos h3] at h
       refine ⟨h1,by simpa using h2,h3,?_,hl⟩
       unfold Gg at h
       split at h
       · assumption
       · contradiction
     · rw [if_neg h3] at h;exact absurd h (by decide)
 · rw [if_neg h1] at h;exact absurd h (by decide)
end
section
variable {deps:List (BAr×Int)} {strs:List (BAr×Bool)}
theorem G9 {m:ZC} {l:List ZC} {i:Nat} (h:(Q0 deps strs m).2=0):Wg deps strs i (m::l)=Wg (VD deps m) (Uo strs m) (i+1) l:=if_pos h
theorem KS {m:ZC} {l:List ZC} {i:Nat} (h:¬ (Q0 deps strs m).2=0):Wg deps strs i (m::l)=((i:Int),Q0 deps strs m):=if_neg h
theorem Uf (r:List ZC):∀ (l:List ZC) (deps:List (BAr×Int)) (strs:List (BAr×Bool)) (i:Nat),((Wg deps strs i l).2.2=0→Wg deps strs i (l++r)=Wg (l.foldl VD deps) (l.foldl Uo strs) (i+l.length) r)∧((Wg deps strs i l).2.2≠0→Wg deps strs i (l++r)=Wg deps strs i l)
 | [],deps,strs,i=>⟨λ _=>rfl,λ h=>absurd rfl h⟩
 | m::l,deps,strs,i=>by
  have ih:=Uf r l (VD deps m) (Uo strs m) (i+1)
  by_cases h:(Q0 deps strs m).2=0
  · rw [G9 h,List.cons_append,G9 h]
    simp only [List.foldl_cons,List.length_cons]
    rw [show i+(l.length+1)=i+1+l.length by omega]
    exact ih
  · rw [KS h,List.cons_append,KS h]
    exact ⟨λ k=>absurd k h,λ _=>rfl⟩
theorem Lo {l:List ZC} {deps:List (BAr×Int)} {strs:List (BAr×Bool)} {i:Nat} (h:(Wg deps strs i l).2.2=0) {k:Nat} {m:ZC} (hk:l[k]?=some m):(Q0 ((l.take k).foldl VD deps) ((l.take k).foldl Uo strs) m).2=0∧(Wg deps strs i (l.take k)).2.2=0:=by
 have hl:l=l.take k++m::l.drop (k+1):=by
  have:=(List.take_append_drop k l).symm
  rw [List.drop_eq_getElem_cons (List.getElem?_eq_some_iff.1 hk).1] at this
  rw [(List.getElem?_eq_some_iff.1 hk).2] at this
  exact this
 rw [hl] at h
 by_cases h0:(Wg deps strs i (l.take k)).2.2=0
 · rw [(Uf _ _ _ _ _).1 h0] at h
   refine ⟨?_,h0⟩
   by_cases h1:(Q0 ((l.take k).foldl VD deps) ((l.take k).foldl Uo strs) m).2=0
   · exact h1
   · rw [KS h1] at h;exact absurd h h1
 · rw [(Uf _ _ _ _ _).2 h0] at h;exact absurd h h0
theorem xI (l:List ZC) (m:ZC):ZN (l++[m])=ZN l++[(m.name,QE (ZN l) m+1)]:=by unfold ZN;rw [List.foldl_append];rfl
theorem CY (l:List ZC) (m:ZC):Yl (l++[m])=Yl l++[(m.name,Kb (Yl l) m)]:=by unfold Yl;rw [List.foldl_append];rfl
theorem G5:∀ (l:List ZC) (a:List (BAr×Int)) (b:List (BAr×Bool)),(l.foldl VD a).map (·.1)=a.map (·.1)++l.map (·.name)∧(l.foldl Uo b).map (·.1)=b.map (·.1)++l.map (·.name)
 | [],a,b=>by simp
 | m::l,a,b=>by
  have ih:=G5 l (VD a m) (Uo b m)
  simp only [List.foldl_cons,List.map_cons]
  rw [ih.1,ih.2]
  simp [VD,Uo]
theorem isD {l:List ZC} {s:BAr}:(ZB (ZN l) s).isSome=true↔∃ m∈l,m.name=s:=by
 have h1:=(G5 l [] []).1
 rw [← Option.ne_none_iff_isSome,ne_eq,KN]
 constructor
 · intro h
   apply Classical.byContradiction
   intro hn
   apply h
   intro p hp he
   have:p.1∈(ZN l).map (·.1):=List.mem_map.2 ⟨p,hp,rfl⟩
   rw [show ZN l=l.foldl VD [] from rfl,h1] at this
   obtain ⟨m,hm,hme⟩:=List.mem_map.1 (show p.1∈l.map (·.name) by simpa using this)
   exact hn ⟨m,hm,hme.trans he⟩
 · rintro ⟨m,hm,rfl⟩ h
   have:m.name∈(ZN l).map (·.1):=by rw [show ZN l=l.foldl VD [] from rfl,h1];simpa using ⟨m,hm,rfl⟩
   obtain ⟨p,hp,hpe⟩:=List.mem_map.1 this
   exact h p hp hpe
theorem isS {l:List ZC} {s:BAr}:(ZB (Yl l) s).isSome=true↔∃ m∈l,m.name=s:=by
 have h1:=(G5 l [] []).2
 rw [← Option.ne_none_iff_isSome,ne_eq,KN]
 constructor
 · intro h
   apply Classical.byContradiction
   intro hn
   apply h
   intro p hp he
   have:p.1∈(Yl l).map (·.1):=List.mem_map.2 ⟨p,hp,rfl⟩
   rw [show Yl l=l.foldl Uo [] from rfl,h1] at this
   obtain ⟨m,hm,hme⟩:=List.mem_map.1 (show p.1∈l.map (·.name) by simpa using this)
   exact hn ⟨m,hm,hme.trans he⟩
 · rintro ⟨m,hm,rfl⟩ h
   have:m.name∈(Yl l).map (·.1):=by rw [show Yl l=l.foldl Uo [] from rfl,h1];simpa using ⟨m,hm,rfl⟩
   obtain ⟨p,hp,hpe⟩:=List.mem_map.1 this
   exact h p hp hpe
def Q2 (l:List ZC):Prop:=(Wg [] [] 0 l).2.2=0
theorem Q2.next {l:List ZC} (h:Q2 l) {k:Nat} {m:ZC} (hk:l[k]?=some m):(Q0 (ZN (l.take k)) (Yl (l.take k)) m).2=0:=(Lo h hk).1
theorem Q2.take {l:List ZC} (h:Q2 l) (k:Nat):Q2 (l.take k):=by
 by_cases hk:k < l.length
 · obtain ⟨m,hm⟩:=getElem?_lt hk
   exact (Lo h hm).2
 · rw [List.take_of_length_le (by omega)];exact h
theorem Q2.sub {l:List ZC} (h:Q2 l):∀ (n k:Nat),Sub (ZN (l.take k)) (ZN (l.take (k+n)))∧Sub (Yl (l.take k)) (Yl (l.take (k+n)))
 | 0,k=>⟨Sub.refl _,Sub.refl _⟩
 | n+1,k=>by
  have ih:=h.sub n k
  rw [← Nat.add_assoc]
  by_cases hk:k+n < l.length
  · obtain ⟨m,hm⟩:=getElem?_lt hk
    have h2:=(VZ (h.next hm)).2.1
    rw [Z4 hm,xI,CY]
    refine ⟨ih.1.trans (Sub.snoc h2),ih.2.trans (Sub.snoc ?_)⟩
    show ZB (Yl (l.take (k+n))) m.name=none
    rw [← Option.not_isSome_iff_eq_none,isS,← isD,Option.not_isSome_iff_eq_none]
    exact h2
  · rw [List.take_of_length_le (show l.length≤k+n+1 by omega)]
    rw [List.take_of_length_le (show l.length≤k+n by omega)] at ih
    exact ih
theorem Q2.suball {l:List ZC} (h:Q2 l) (k:Nat):Sub (ZN (l.take k)) (ZN l)∧Sub (Yl (l.take k)) (Yl l):=by
 have:=h.sub l.length k
 rw [List.take_of_length_le (show l.length≤k+l.length by omega)] at this
 exact this
theorem Q2.low {l:List ZC} (h:Q2 l):∀ k,Low (ZN (l.take k))
 | 0=>λ p hp=>by simp [ZN] at hp
 | k+1=>by
  by_cases hk:k < l.length
  · obtain ⟨m,hm⟩:=getElem?_lt hk
    rw [Z4 hm,show ZN (l.take k++[m])=VD (ZN (l.take k)) m from xI _ _]
    exact (h.low k).step (h.next hm)
  · rw [List.take_of_length_le (show l.length≤k+1 by omega)]
    have:=h.low k
    rw [List.take_of_length_le (show l.length≤k by omega)] at this
    exact this
theorem Fg (g:BAr→Int):∀ (l:List BAr) (d:Int),d≤l.foldl (λ d s=>Qj d (g s)) d∧∀ s∈l,g s≤l.foldl (λ d s=>Qj d (g s)) d
 | [],d=>⟨by simp,λ _ h=>by cases h⟩
 | x::l,d=>by
  have ih:=Fg g l (Qj d (g x))
  simp only [List.foldl_cons]
  have h1:d≤Qj d (g x):=Ll _ _
  have h2:g x≤Qj d (g x):=by unfold Qj;split<;>omega
  refine ⟨by omega,λ s hs=>?_⟩
  rcases List.mem_cons.1 hs with rfl | hs
  · omega
  · exact ih.2 s hs
theorem Cm {m:ZC} {s:BAr} (h:s∈Qn m):s∈Z9 m.fields:=G8 h
theorem Lf (l:List ZC) (s:BAr) (h:(ZB (Yl l) s).isSome=true):(ZB (ZN l) s).isSome=true:=isD.2 (isS.1 h)
theorem Q2.refs {l:List ZC} (h:Q2 l) {k:Nat} {m:ZC} (hk:l[k]?=some m) {s:BAr} (hs:s∈Qn m) :
 ∃ i m',i < k∧l[i]?=some m'∧m'.name=s∧(∀ j m'',j < i→l[j]?=some m''→m''.name≠s)∧∃ v,ZB (ZN l) s=some v∧v≤QE (ZN (l.take k)) m:=by
 obtain ⟨_,_,_,h4,_⟩:=VZ (h.next hk)
 have h5:=(JF (Sub.refl _) (Sub.refl _) (Lf _) _ _ h4).2 s (Cm hs)
 obtain ⟨m',hm',hn⟩:=isD.1 h5
 obtain ⟨i,hi⟩:=List.getElem?_of_mem hm'
 have hik:i < k∧l[i]?=some m':=by
  rw [List.getElem?_take] at hi
  split at hi
  · exact ⟨by assumption,hi⟩
  · cases hi
 obtain ⟨v,hv⟩:=Option.isSome_iff_exists.1 h5
 refine ⟨i,m',hik.1,hik.2,hn,λ j m'' hj hj2 Xv=>?_,v,(h.suball k).1 _ _ hv,?_⟩
 · have h6:=(VZ (h.next hik.2)).2.1
   rw [← Option.not_isSome_iff_eq_none,isD] at h6
   exact h6 ⟨m'',List.mem_of_getElem? (i:=j) (by rw [List.getElem?_take,if_pos hj];exact hj2),Xv.trans hn.symm⟩
 · have:=(Fg (λ s=>(ZB (ZN (l.take k)) s).getD 0) (Qn m) 0).2 s hs
   rw [hv] at this
   exact this
end
section
variable {d:YQ}
theorem XI (h:(YA d).2.2=0):Qv d.name=true∧(1≤d.msgs.length∧d.msgs.length≤60)∧Q2 d.msgs∧(ZB (ZN d.msgs) d.start).isSome=true:=by
 unfold YA at h
 by_cases h1:Qv d.name=true
 · rw [if_pos h1] at h
   by_cases h2:1≤d.msgs.length∧d.msgs.length≤60
   · rw [if_pos h2] at h
     unfold HH at h
     by_cases h3:(Wg [] [] 0 d.msgs).2.2=0
     · rw [if_pos h3] at h
       by_cases h4:(ZB (ZN d.msgs) d.start).isSome=true
       · exact ⟨h1,h2,h3,h4⟩
       · rw [if_neg h4] at h;exact absurd h (by decide)
     · rw [if_neg h3] at h;exact absurd h h3
   · rw [if_neg h2] at h;exact absurd h (by decide)
 · rw [if_neg h1] at h;exact absurd h (by decide)
end
theorem F3:∀ {a b:List Int},a.Pairwise (· < ·)→b.Pairwise (· < ·)→(∀ x,x∈a↔x∈b)→a=b
 | [],[],_,_,_=>rfl
 | [],y::b,_,_,h=>by have:=(h y).2 (List.mem_cons_self ..);cases this
 | x::a,[],_,_,h=>by have:=(h x).1 (List.mem_cons_self ..);cases this
 | x::a,y::b,ha,hb,h=>by
  obtain ⟨ha1,ha2⟩:=List.pairwise_cons.1 ha
  obtain ⟨hb1,hb2⟩:=List.pairwise_cons.1 hb
  have hxy:x=y:=by
   rcases List.mem_cons.1 ((h x).1 (List.mem_cons_self ..)) with e | e
   · exact e
   · rcases List.mem_cons.1 ((h y).2 (List.mem_cons_self ..)) with e' | e'
     · exact e'.symm
     · have:=hb1 x e
       have:=ha1 y e'
       omega
  subst hxy
  rw [F3 ha2 hb2 λ z=>?_]
  have hz:=h z
  simp only [List.mem_cons] at hz
  constructor
  · intro hm
    have:=ha1 z hm
    rcases hz.1 (.inr hm) with e | e
    · omega
    · exact e
  · intro hm
    have:=hb1 z hm
    rcases hz.2 (.inr hm) with e | e
    · omega
    · exact e
open Go.Lib in
theorem Dx (l:List Int):(l.mergeSort λ x y=>decide (x≤y)).Pairwise (· ≤ ·):=by
 have:=List.pairwise_mergeSort (le:=λ x y:Int=>decide (x≤y)) (λ a b c h1 h2=>by simp only [decide_eq_true_eq] at *;omega) (λ a b=>by simp only [Bool.or_eq_true,decide_eq_true_eq];omega) l
 exact this.imp λ h=>by simpa using h
theorem MY {l:List Int} {x:Int}:x∈l.mergeSort (λ x y=>decide (x≤y))↔x∈l:=(List.mergeSort_perm l _).mem_iff
theorem Nt {l:List Int} (h:l.Nodup):(l.mergeSort λ x y=>decide (x≤y)).Pairwise (· < ·):=by
 have h1:=Dx l
 have h2:(l.mergeSort λ x y=>decide (x≤y)).Nodup:=(List.mergeSort_perm l _).nodup_iff.2 h
 exact (h1.and h2).imp λ ⟨a,b⟩=>by omega
def Kw (n:Nat) (p:Nat→Bool):List Int:=((List.range n).filter p).map λ i:Nat=>(i:Int)
theorem Sj (n:Nat) (p:Nat→Bool):(Kw n p).Pairwise (· < ·):=by
 unfold Kw
 rw [List.pairwise_map]
 exact (List.Pairwise.filter p List.pairwise_lt_range).imp λ h=>by omega
theorem jG {n:Nat} {p:Nat→Bool} {x:Int}:x∈Kw n p↔∃ i:Nat,i < n∧p i=true∧x=i:=by
 unfold Kw
 simp only [List.mem_map,List.mem_filter,List.mem_range]
 constructor
 · rintro ⟨i,⟨h1,h2⟩,rfl⟩;exact ⟨i,h1,h2,rfl⟩
 · rintro ⟨i,h1,h2,rfl⟩;exact ⟨i,⟨h1,h2⟩,rfl⟩
theorem Hb (n:Nat) (p:Nat→Bool):Kw (n+1) p=Kw n p++(if p n then [(n:Int)] else []):=by
 unfold Kw
 rw [List.range_succ,List.filter_append,List.map_append]
 congr 1
 cases h:p n<;>simp [h]
theorem CQ {n:Nat} {p q:Nat→Bool} (h:∀ i,i < n→p i=q i):Kw n p=Kw n q:=by
 unfold Kw
 congr 1
 exact List.filter_congr λ i hi=>h i (List.mem_range.1 hi)
theorem jH (n:Nat) (p:Nat→Bool):(Kw n p).length≤n:=by
 unfold Kw
 rw [List.length_map]
 exact Nat.le_trans (List.length_filter_le _ _) (by simp)
theorem Gv (w0:Wd) (s:BAr):Ret Pg 89 #[.string s] w0 λ r w'=>r = .bool (Qv s)∧Ext w0 w':=by
 have VF:s.data.toList.length=s.size:=by rw [Array.length_toList];rfl
 refine ZhZ (R:=ZO _) ?_;unfold n17
 by_cases h1:1≤s.size
 · have d1:decide ((s.size:Int) < 1)=false:=by simp;omega
   by_cases h2:s.size≤32
   · have d2:decide ((s.size:Int) > 32)=false:=by simp;omega
     simp (disch:=try exact DI) only [↓PR,QR,simprocAttr,d1,d2]
     unfold Lq
     have hd:Qv s=((match s.data.toList with | []=>false | c::_=>Wx c)&&s.data.toList.all Uw):=by
      unfold Qv
      rw [show decide (1≤(s.size:Int))=true by simp;omega,show decide ((s.size:Int)≤32)=true by simp;omega]
      rfl
     rw [hd]
     clear hd
     obtain ⟨c,cs,hcs⟩:∃ c cs,s.data.toList=c::cs:=by
      cases hd:s.data.toList with
      | nil=>rw [hd] at VF;simp at VF;omega
      | cons c cs=>exact ⟨c,cs,rfl⟩
     simp (disch:=try exact DI) only [↓PR,QR,simprocAttr]
     rw [Bc underlying9 s .i64 (b:=c) (by rw [hcs];rfl)]
     refine Zs (jn _ c) ?_
     rintro r w1 ⟨rfl,e⟩
     rw [show (match s.data.toList with | []=>false | c::_=>Wx c)=Wx c by rw [hcs]]
     cases hl:Wx c with
     | false=>
      simp (disch:=try exact DI) only [↓PR,QR,simprocAttr]
      exact ⟨by trivial,e⟩
     | true=>
      simp (disch:=try exact DI) only [↓PR,QR,simprocAttr]
      clear hl hcs
      refine ZF (λ i w'=>∃ k:Nat,i = .int .i64 k∧k≤s.data.toList.length∧Ext w0 w'∧(s.data.toList.drop k).all Uw=s.data.toList.all Uw) (λ i _=>s.data.toList.length - (intOf i).toNat) ⟨0,rfl,by omega,e,rfl⟩ ?_
      rintro _ w2 ⟨k,rfl,hk,e2,hI⟩
      rcases ZD hk with ⟨x,hx,hd,Yv,ZJ⟩ | ⟨hk,hd,ZJ⟩
      · rw [VF] at ZJ
        have hidx:∀ (R:PEn) (w:Wd) (K:KV),opV Pg (Instr.index 9 (.string s) (.int .i64 (k:Int))) R w K=K (.int .u8 (x.toNat:Int)) w:=λ R w K=>qh underlying9 s .i64 k hx
        have GF:Uw x=true→∀ w',Ext w0 w'→(∃ k':Nat,Value.int .i64 ((k+1:Nat):Int) = .int .i64 k'∧k'≤s.data.toList.length∧Ext w0 w'∧(s.data.toList.drop k').all Uw=s.data.toList.all Uw)∧s.data.toList.length - (intOf (Value.int .i64 ((k+1:Nat):Int))).toNat < s.data.toList.length - (intOf (Value.int .i64 (k:Int))).toNat:=by
         intro hx1 w' e'
         refine ⟨⟨k+1,rfl,Yv,e',?_⟩,?_⟩
         · rw [← hI,hd];simp [hx1]
         · show s.data.toList.length - (((k+1:Nat):Int)).toNat < s.data.toList.length - ((k:Int)).toNat
           omega
        have hstop:Uw x=false→s.data.toList.all Uw=false:=by
         intro hx1
         rw [← hI,hd];simp [hx1]
        unfold PP
        simp (disch:=try exact DI) only [↓PR,QR,simprocAttr,ZJ]
        rw [hidx]
        refine Zs (jn _ x) ?_
        rintro r w3 ⟨rfl,e3⟩
        have e4:=e2.trans e3
        unfold Zag
        cases hl:Wx x with
        | true=>
         simp (disch:=try exact DI) only [↓PR,QR,simprocAttr,PO]
         exact GF (by unfold Uw;rw [hl];rfl) _ e4
        | false=>
         simp (disch:=try exact DI) only [↓PR,QR,simprocAttr]
         rw [hidx]
         refine Zs (IG _ x) ?_
         rintro r w5 ⟨rfl,e5⟩
         have e6:=e4.trans e5
         unfold PO
         cases hg:G3 x with
         | true=>
          simp (disch:=try exact DI) only [↓PR,QR,simprocAttr]
          exact GF (by unfold Uw;rw [hl,hg];rfl) _ e6
         | false=>
          simp (disch:=try exact DI) only [↓PR,QR,simprocAttr]
          rw [hidx]
          cases hu:((x.toNat:Int) == 95) with
          | true=>
           have hu':((x.toNat:Int) != 95)=false:=by rw [bne,hu];rfl
           simp (disch:=try exact DI) only [↓PR,QR,simprocAttr,hu']
           exact GF (by unfold Uw;rw [hl,hg,hu];rfl) _ e6
          | false=>
           have hu':((x.toNat:Int) != 95)=true:=by rw [bne,hu];rfl
           simp (disch:=try exact DI) only [↓PR,QR,simprocAttr,hu']
           exact ⟨by rw [hstop (by unfold Uw;rw [hl,hg,hu];rfl)],e6⟩
      · rw [VF] at ZJ hk
        unfold PP
        simp (disch:=try exact DI) only [↓PR,QR,simprocAttr,ZJ]
        refine ⟨?_,e2⟩
        rw [← hI,hd]
        rfl
   · have d2:decide ((s.size:Int) > 32)=true:=by simp;omega
     simp (disch:=try exact DI) only [↓PR,QR,simprocAttr,d1,d2]
     unfold Lq
     simp (disch:=try exact DI) only [↓PR,QR,simprocAttr]
     refine ⟨?_,Ext.refl _⟩
     unfold Qv
     rw [show decide ((s.size:Int)≤32)=false by simp;omega]
     simp
 · have d1:decide ((s.size:Int) < 1)=true:=by simp;omega
   simp (disch:=try exact DI) only [↓PR,QR,simprocAttr,d1]
   unfold Lq
   simp (disch:=try exact DI) only [↓PR,QR,simprocAttr]
   refine ⟨?_,Ext.refl _⟩
   unfold Qv
   rw [show decide (1≤(s.size:Int))=false by simp;omega]
   simp
theorem Bt (w0:Wd) (v:Int):Ret Pg 190 #[.int .i64 v] w0 λ r w'=>r = .bool (W4 v)∧Ext w0 w':=by
 refine Zh3 (R:=ZO _) ?_;unfold n21
 unfold W4
 by_cases h : -1048576≤v
 · have d1:decide (v ≥ -1048576)=true:=by simpa using h
   simp (disch:=try exact DI) only [↓PR,QR,simprocAttr,d1]
   exact ⟨by simp [h],Ext.refl _⟩
 · have d1:decide (v ≥ -1048576)=false:=by simpa using h
   simp (disch:=try exact DI) only [↓PR,QR,simprocAttr,d1]
   exact ⟨by simp [h],Ext.refl _⟩
theorem J9 (w0:Wd) (v:Vl) (base:Int) (ts:List Z3) (hs:KD w0 v base ts):Ret Pg 174 #[v] w0 λ r w'=>r = .bool (WO base ts)∧Ext w0 w':=by
 obtain ⟨tv,rfl,hT⟩:=hs
 obtain ⟨A,c,rfl,hlc,hcm,hlm,Y3⟩:=Zd.open hT
 refine Zh0 (R:=ZO _) ?_;unfold n18
 simp (disch:=try exact DI) only [↓PR,QR,simprocAttr]
 have Xz:=Z6.new (w:=w0) ([.int .i64 base,.slice A ts.length c]) (45)
 have eW:Ext w0 (w0.alloc (Obj.cells (List.toArray ([.int .i64 base,.slice A ts.length c])) (45))):=(Ext.refl _).alloc _
 generalize (w0.alloc (Obj.cells (List.toArray ([.int .i64 base,.slice A ts.length c])) (45)))=W at Xz eW ⊢
 refine zcr (Bt _ base) λ w1 e1=>?_
 have E1:=eW.trans e1
 unfold Zal
 cases hb:W4 base with
 | false=>
  simp (disch:=try exact DI) only [↓PR,QR,simprocAttr]
  exact ⟨by unfold WO;rw [hb];rfl,E1⟩
 | true=>
 by_cases h4:ts.length≤4
 · have d4:decide ((ts.length:Int) > 4)=false:=by simp;omega
   simp (disch:=try exact DI) only [↓PR,QR,simprocAttr,Xz.c2,d4]
   have VF:WO base ts=Gi [] ts:=by unfold WO;rw [hb];simp [h4]
   rw [VF]
   have hbad:∀ {k x},ts[k]?=some x→(Kq ((ts.take k).map (·.field)) x.field||!VE x)=true→Gi [] ts=false:=by
    intro k x hx hm
    cases ht:Gi [] ts with
    | false=>rfl
    | true=>have:=(UX ts []).1 ht k x hx;rw [List.nil_append,hm] at this;cases this
   refine ZF (λ a0 w=>∃ (k:Nat) , a0 = .int .i64 (k:Int)∧k≤ts.length∧Ext w1 w∧∀ j x,j < k→ts[j]?=some x→(Kq ((ts.take j).map (·.field)) x.field||!VE x)=false) (λ a0 _=>ts.length - (intOf a0).toNat) ⟨0,rfl,Nat.zero_le _,ee,by intro j x h;omega⟩ ?_
   rintro _ w ⟨k,rfl,hk,e,hI⟩
   have se:=e.size
   rcases ZD hk with ⟨x,hx,hd,Yv,ZJ⟩ | ⟨hk,hd,ZJ⟩
   · obtain ⟨b,o,cs,rfl,hl,hA,rfl⟩:=Y3 k x hx
     have E:=E1.trans e
     have f:=e1.trans e
     unfold PQ
     simp (disch:=try exact DI) only [↓PR,QR,simprocAttr,Xz.c2,ZJ]
     unfold Zak
     simp (disch:=try exact DI) only [↓PR,QR,simprocAttr,Xz.c2,(hA.c2 E).1]
     refine zcr (Gv _ x.field) λ w2 e2=>?_
     have E2:=E.trans e2
     have f2:=f.trans e2
     unfold Zaj
     cases hn:Qv x.field with
     | false=>
      simp (disch:=try exact DI) only [↓PR,QR,simprocAttr]
      unfold Lr
      simp (disch:=try exact DI) only [↓PR,QR,simprocAttr]
      exact ⟨by rw [hbad hx (by unfold VE;rw [hn];simp)],E2⟩
     | true=>
     by_cases hf:x.factor=0
     · have d1:(x.factor == 0)=true:=by simpa using hf
       simp (disch:=try exact DI) only [↓PR,QR,simprocAttr,Xz.c2,(hA.c2 E2).2,d1]
       unfold Lr
       simp (disch:=try exact DI) only [↓PR,QR,simprocAttr]
       exact ⟨by rw [hbad hx (by unfold VE;rw [hf];simp)],E2⟩
     have d1:(x.factor == 0)=false:=by simpa using hf
     simp (disch:=try exact DI) only [↓PR,QR,simprocAttr,Xz.c2,(hA.c2 E2).2,d1]
     unfold Lr
     simp (disch:=try exact DI) only [↓PR,QR,simprocAttr,Xz.c2,(hA.c2 E2).2]
     refine zcr (Bt _ x.factor) λ w3 e3=>?_
     have E3:=E2.trans e3
     have f3:=f2.trans e3
     cases hsm:W4 x.factor with
     | false=>
      simp (disch:=try exact DI) only [↓PR,QR,simprocAttr]
      exact ⟨by rw [hbad hx (by unfold VE;rw [hsm];simp)],E3⟩
     | true=>
     have hterm:VE x=true:=by unfold VE;rw [hn,hsm,bne,d1];rfl
     simp (disch:=try exact DI) only [↓PR,QR,simprocAttr]
     refine ZF (λ i w'=>∃ j:Nat,i = .int .i64 j∧j≤k∧Ext w3 w'∧∀ i y,i < j→ts[i]?=some y→y.field≠x.field) (λ i _=>k - (intOf i).toNat) ⟨0,rfl,by omega,Ext.refl _,by intro i y h;omega⟩ ?_
     rintro _ w4 ⟨j,rfl,hj,e4,hI4⟩
     have E4:=E3.trans e4
     have f4:=f3.trans e4
     unfold Zai
     by_cases hjk:j < k
     · have d2:decide ((j:Int) < (k:Int))=true:=by simp;omega
       obtain ⟨y,hy⟩:=getElem?_lt (l:=ts) (k:=j) (by omega)
       obtain ⟨b',o',cs',hA',_,hB,rfl⟩:=Y3 j y hy
       injection hA' with hA'
       injection hA' with hb1 ho1 _
       subst hb1 ho1
       have MV:(j:Int) < (ts.length:Int):=by omega
       have hkl:(k:Int) < (ts.length:Int):=by omega
       simp (disch:=try exact DI) only [↓PR,QR,simprocAttr,d2]
       refine Zy ?_
       unfold Zah
       simp (disch:=try exact DI) only [↓PR,QR,simprocAttr,Xz.c2,(hA.c2 E4).1,(hB.c2 E4).1]
       by_cases hxy:y.field=x.field
       · rw [show decide (y.field=x.field)=true by simp [hxy]]
         simp (disch:=try exact DI) only [↓PR,QR,simprocAttr]
         refine ⟨?_,ee⟩
         rw [hbad hx]
         rw [show Kq ((ts.take k).map (·.field)) x.field=true from ?_]
         · rfl
         unfold Kq
         rw [List.any_eq_true]
         exact ⟨y.field,List.mem_map.2 ⟨y,List.mem_of_getElem? (i:=j) (by rw [List.getElem?_take,if_pos hjk];exact hy),rfl⟩,by simp [hxy]⟩
       · rw [show decide (y.field=x.field)=false by simp [hxy]]
         simp (disch:=try exact DI) only [↓PR,QR,simprocAttr]
         refine ⟨⟨j+1,rfl,by omega,ee,λ i z hi hz=>?_⟩,ZM (kd := .i64) hjk⟩
         by_cases hij:i=j
         · subst hij;rw [hy] at hz;injection hz with hz;subst hz;exact hxy
         · exact hI4 i z (by omega) hz
     · have d2:decide ((j:Int) < (k:Int))=false:=by simp;omega
       have hjk':j=k:=by omega
       subst hjk'
       simp (disch:=try exact DI) only [↓PR,QR,simprocAttr,d2]
       have xK:Kq ((ts.take j).map (·.field)) x.field=false:=by
        unfold Kq
        rw [List.any_eq_false]
        intro s hs
        obtain ⟨y,hy,rfl⟩:=List.mem_map.1 hs
        obtain ⟨i,hi⟩:=List.getElem?_of_mem hy
        rw [List.getElem?_take] at hi
        split at hi
        · simpa using hI4 i y (by assumption) hi
        · cases hi
       refine ⟨⟨j+1,rfl,by omega,e.trans (e2.trans (e3.trans e4)),λ i z hi hz=>?_⟩,ZM (kd := .i64) Yv⟩
       by_cases hij:i=j
       · subst hij;rw [hx] at hz;injection hz with hz;subst hz;rw [xK,hterm];rfl
       · exact hI i z (by omega) hz
   · subst hk
     have f:=e1.trans e
     unfold PQ
     simp (disch:=try exact DI) only [↓PR,QR,simprocAttr,Xz.c2,ZJ]
     refine ⟨?_,E1.trans e⟩
     rw [(UX ts []).2 (λ j x hx=>by rw [List.nil_append];exact hI j x (List.getElem?_eq_some_iff.1 hx).1 hx)]
 · have d4:decide ((ts.length:Int) > 4)=true:=by simp;omega
   simp (disch:=try exact DI) only [↓PR,QR,simprocAttr,Xz.c2,d4]
   refine ⟨?_,E1⟩
   unfold WO
   simp [h4]
def Vg (f:Z3→Int):List Z3→Int
 | []=>0
 | t::ts=>t.factor*f t+Vg f ts
def XK (rp:List (BAr×Int×Int)) (t:Z3):Int×Int:=(Ym rp t.field).getD (0,0)
def AA (rp:List (BAr×Int×Int)) (mix i:Nat) (t:Z3):Int:=if mix / 2 ^ i % 2=1 then (XK rp t).2 else (XK rp t).1
def Uq (rp:List (BAr×Int×Int)) (mix:Nat):Nat→List Z3→Int
 | _,[]=>0
 | i,t::ts=>t.factor*AA rp mix i t+Uq rp mix (i+1) ts
section
variable {rp:List (BAr×Int×Int)}
theorem JL (b:Z3→Bool):∀ ts:List Z3,∃ mix:Nat,mix < 2 ^ ts.length∧∀ i r:Nat,r < 2 ^ i→Uq rp (mix*2 ^ i+r) i ts=Vg (λ t=>if b t then (XK rp t).2 else (XK rp t).1) ts
 | []=>⟨0,by simp,λ i r _=>rfl⟩
 | t::ts=>by
  obtain ⟨mix,h1,h2⟩:=JL b ts
  refine ⟨mix*2+(if b t then 1 else 0),?_,λ i r hr=>?_⟩
  · rw [List.length_cons,Nat.pow_succ]
    split<;>omega
  · have hd:((mix*2+(if b t then 1 else 0))*2 ^ i+r) / 2 ^ i=mix*2+(if b t then 1 else 0):=by
     rw [Nat.mul_comm _ (2 ^ i),Nat.mul_add_div (Nat.two_pow_pos i),Nat.div_eq_of_lt hr,Nat.add_zero]
    have hm:(mix*2+(if b t then 1 else 0)) % 2=if b t then 1 else 0:=by split<;>omega
    have he:(mix*2+(if b t then 1 else 0))*2 ^ i+r=mix*2 ^ (i+1)+((if b t then 1 else 0)*2 ^ i+r):=by
     rw [Nat.add_mul,Nat.pow_succ,Nat.mul_assoc,Nat.mul_comm 2 (2 ^ i)];omega
    have hr':(if b t then 1 else 0)*2 ^ i+r < 2 ^ (i+1):=by
     rw [Nat.pow_succ];split<;>omega
    simp only [Uq,Vg]
    have h3:=h2 (i+1) _ hr'
    rw [← he] at h3
    rw [h3]
    unfold AA
    rw [hd,hm]
    cases b t<;>rfl
theorem Tm {ts:List Z3} {f g:Z3→Int} (hf:∀ t∈ts,t.factor*f t≤t.factor*(XK rp t).1∧t.factor*f t≤t.factor*(XK rp t).2) (hg:∀ t∈ts,t.factor*(XK rp t).1≤t.factor*g t∧t.factor*(XK rp t).2≤t.factor*g t) (mix:Nat):∀ i,Vg f ts≤Uq rp mix i ts∧Uq rp mix i ts≤Vg g ts:=by
 induction ts with
 | nil=>intro i;exact ⟨Int.le_refl _,Int.le_refl _⟩
 | cons t ts ih=>
  intro i
  have h1:=hf t List.mem_cons_self
  have h2:=hg t List.mem_cons_self
  have h3:=ih (λ t ht=>hf t (List.mem_cons_of_mem _ ht)) (λ t ht=>hg t (List.mem_cons_of_mem _ ht)) (i+1)
  simp only [Vg,Uq]
  unfold AA
  split<;>omega
theorem BD {ts:List Z3} {f g:Z3→Int} (h:∀ t∈ts,f t=g t):Vg f ts=Vg g ts:=by
 induction ts with
 | nil=>rfl
 | cons t ts ih=>
  simp only [Vg]
  rw [h t List.mem_cons_self,ih (λ t ht=>h t (List.mem_cons_of_mem _ ht))]
theorem UD {a b:Int} (h1 : -1048576≤a) (h2:a≤1048576) (h3:0≤b) (h4:b≤34359738368) : -36028797018963968≤a*b∧a*b≤36028797018963968:=by
 have a1:a*b≤1048576*b:=Int.mul_le_mul_of_nonneg_right h2 h3
 have a2 : -1048576*b≤a*b:=Int.mul_le_mul_of_nonneg_right h1 h3
 omega
def xw (rp:List (BAr×Int×Int)) (t:Z3):Prop := -1048576≤t.factor∧t.factor≤1048576∧0≤(XK rp t).1∧(XK rp t).1≤(XK rp t).2∧(XK rp t).2≤34359738368
theorem A8 {f:Z3→Int}:∀ (ts:List Z3) (n:Int),(∀ t∈ts,-36028797018963968≤t.factor*f t∧t.factor*f t≤36028797018963968) → -4611686018427387904≤n - ts.length*36028797018963968→n+ts.length*36028797018963968≤4611686018427387904→yQ n f ts=n+Vg f ts
 | [],n,_,_,_=>by simp [yQ,Vg]
 | t::ts,n,h,h1,h2=>by
  have h3:=h t List.mem_cons_self
  simp only [List.length_cons] at h1 h2
  have e1:IntKind.i64.wrap (t.factor*f t)=t.factor*f t:=Z0 (by omega) (by omega)
  have e2:IntKind.i64.wrap (n+t.factor*f t)=n+t.factor*f t:=Z0 (by omega) (by omega)
  have ih:=A8 (f:=f) ts (n+t.factor*f t) (λ t ht=>h t (List.mem_cons_of_mem _ ht)) (by omega) (by omega)
  simp only [yQ,List.foldl_cons,Vg] at ih ⊢
  rw [e1,e2,ih]
  omega
theorem JE {t:Z3} (h:(Ym rp t.field).isSome=true) (least:Bool):Wk rp least t=if least == decide (t.factor > 0) then (XK rp t).1 else (XK rp t).2:=by
 unfold Wk XK
 obtain ⟨q,hq⟩:=Option.isSome_iff_exists.1 h
 rw [hq]
 rfl
theorem ZbT {t:Z3} (h:(Ym rp t.field).isSome=true) (hs:xw rp t):t.factor*Wk rp true t≤t.factor*(XK rp t).1∧t.factor*Wk rp true t≤t.factor*(XK rp t).2:=by
 rw [JE h]
 by_cases hp:t.factor > 0
 · have:t.factor*(XK rp t).1≤t.factor*(XK rp t).2:=Int.mul_le_mul_of_nonneg_left hs.2.2.2.1 (by omega)
   simp only [hp,decide_true,BEq.rfl,if_true]
   omega
 · have:t.factor*(XK rp t).2≤t.factor*(XK rp t).1:=Int.mul_le_mul_of_nonpos_left (by omega) hs.2.2.2.1
   rw [show (true == decide (t.factor > 0))=false by simp [hp],if_neg (by decide)]
   omega
theorem ZbS {t:Z3} (h:(Ym rp t.field).isSome=true) (hs:xw rp t):t.factor*(XK rp t).1≤t.factor*Wk rp false t∧t.factor*(XK rp t).2≤t.factor*Wk rp false t:=by
 rw [JE h]
 by_cases hp:t.factor > 0
 · have:t.factor*(XK rp t).1≤t.factor*(XK rp t).2:=Int.mul_le_mul_of_nonneg_left hs.2.2.2.1 (by omega)
   rw [show (false == decide (t.factor > 0))=false by simp [hp],if_neg (by decide)]
   omega
 · have:t.factor*(XK rp t).2≤t.factor*(XK rp t).1:=Int.mul_le_mul_of_nonpos_left (by omega) hs.2.2.2.1
   rw [show (false == decide (t.factor > 0))=true by simp [hp],if_pos rfl]
   omega
theorem N4 {t:Z3} (h:(Ym rp t.field).isSome=true) (hs:xw rp t) (least:Bool) : -36028797018963968≤t.factor*Wk rp least t∧t.factor*Wk rp least t≤36028797018963968:=by
 obtain ⟨h1,h2,h3,h4,h5⟩:=hs
 rw [JE h]
 split
 · exact UD h1 h2 h3 (by omega)
 · exact UD h1 h2 (by omega) h5
theorem Co {ts:List Z3} (h:∀ t∈ts,(Ym rp t.field).isSome=true∧xw rp t):(∀ mix,Vg (Wk rp true) ts≤Uq rp mix 0 ts∧Uq rp mix 0 ts≤Vg (Wk rp false) ts)∧(∃ mix,mix < 2 ^ ts.length∧Uq rp mix 0 ts=Vg (Wk rp true) ts)∧(∃ mix,mix < 2 ^ ts.length∧Uq rp mix 0 ts=Vg (Wk rp false) ts):=by
 refine ⟨λ mix=>Tm (λ t ht=>ZbT (h t ht).1 (h t ht).2) (λ t ht=>ZbS (h t ht).1 (h t ht).2) mix 0,?_,?_⟩
 · obtain ⟨mix,h1,h2⟩:=JL (rp:=rp) (λ t=>!(true == decide (t.factor > 0))) ts
   refine ⟨mix,h1,?_⟩
   have:=h2 0 0 (by decide)
   rw [Nat.pow_zero,Nat.mul_one,Nat.add_zero] at this
   rw [this]
   refine BD λ t ht=>?_
   rw [JE (h t ht).1]
   cases (true == decide (t.factor > 0))<;>rfl
 · obtain ⟨mix,h1,h2⟩:=JL (rp:=rp) (λ t=>!(false == decide (t.factor > 0))) ts
   refine ⟨mix,h1,?_⟩
   have:=h2 0 0 (by decide)
   rw [Nat.pow_zero,Nat.mul_one,Nat.add_zero] at this
   rw [this]
   refine BD λ t ht=>?_
   rw [JE (h t ht).1]
   cases (false == decide (t.factor > 0))<;>rfl
end
theorem R3 {P:Program} {QP:PEn} {w:Wd} {k:KV} (t:TypeId) (c:Bool) (x:Nat) (yk:IntKind) (y:Nat) (h1:y≤64):opV P (ZI .shr t c (.int .i64 (x:Int)) (.int yk (y:Int))) QP w k=k (.int .i64 ((x / 2 ^ y:Nat):Int)) w:=Yi (by
 have h0:(0:Int)≤(y:Int):=by omega
 have h2:(y:Int)≤64:=by omega
 have h3:(x:Int).fdiv (2 ^ y)=((x / 2 ^ y:Nat):Int):=by
  rw [Int.fdiv_eq_ediv_of_nonneg _ (by exact Int.le_of_lt (Int.pow_pos (by decide)))]
  simp
 simp [ZI,go_sem,h0,h2,h3])
abbrev Ga (p:BAr×Int×Int):List Vl:=[.string p.1,.int .i64 p.2.1,.int .i64 p.2.2]
def SJ (_:Wd) (cs:List Vl) (p:BAr×Int×Int):Prop:=cs=Ga p
theorem Tj:BK SJ:=λ _ _ _ _ _ h=>h
def GY (w:Wd) (v:Vl) (l:List (BAr×Int×Int)):Prop:=Zd w 3 SJ v l
theorem GY.ext {w w':Wd} {v:Vl} {l:List (BAr×Int×Int)} (h:GY w v l) (e:Ext w w'):GY w' v l:=Zd.ext Tj h e
def jS (rp:List (BAr×Int×Int)) (s:BAr) (a:Int):Prop:=(a = -1∧Ym rp s=none)∨∃ (j:Nat) (q:Int×Int),a=j∧rp[j]?=some (s,q)∧Ym rp s=some q
theorem G7 (ps:List (BAr×Int×Int)) (p:BAr×Int×Int) (s:BAr):Ym (ps++[p]) s=if p.1=s then some p.2 else Ym ps s:=Aw ps p s
theorem jS.step {rp:List (BAr×Int×Int)} {s:BAr} {a:Int} {k:Nat} {p:BAr×Int×Int} (h:jS (rp.take k) s a) (hk:rp[k]?=some p):jS (rp.take (k+1)) s (if p.1=s then (k:Int) else a):=by
 have Yv:=(List.getElem?_eq_some_iff.1 hk).1
 by_cases he:p.1=s
 · rw [if_pos he]
   refine .inr ⟨k,p.2,rfl,?_,?_⟩
   · rw [List.getElem?_take,if_pos (by omega),hk,← he]
   · rw [Z4 hk,G7,if_pos he]
 · rw [if_neg he]
   rcases h with ⟨h1,h2⟩ | ⟨j,q,h1,h2,h3⟩
   · exact .inl ⟨h1,by rw [Z4 hk,G7,if_neg he];exact h2⟩
   · refine .inr ⟨j,q,h1,?_,by rw [Z4 hk,G7,if_neg he];exact h3⟩
     rw [List.getElem?_take] at h2 ⊢
     split at h2
     · rw [if_pos (by omega)];exact h2
     · cases h2
theorem J6 (w0:Wd) (v:Vl) (rp:List (BAr×Int×Int)) (s:BAr) (hs:GY w0 v rp):Ret Pg 175 #[v,.string s] w0 λ r w'=>(∃ a,r = .int .i64 a∧jS rp s a)∧Ext w0 w':=by
 obtain ⟨A,c,rfl,hlc,hcm,hlm,Y3⟩:=Zd.open hs
 refine ZhX (R:=ZO _) ?_;unfold n14
 refine Yn (λ a0 a1 w=>∃ (k:Nat) (a:Int),a0 = .int .i64 a∧a1 = .int .i64 (k:Int)∧k≤rp.length∧Ext w0 w∧jS (rp.take k) s a) (λ a0 a1 _=>rp.length - (intOf a1).toNat) ⟨0,-1,rfl,rfl,Nat.zero_le _,ee,.inl ⟨rfl,rfl⟩⟩ ?_
 rintro _ _ w ⟨k,a,rfl,rfl,hk,e,hI⟩
 have se:=e.size
 rcases ZD hk with ⟨x,hx,hd,Yv,ZJ⟩ | ⟨hk,hd,ZJ⟩
 · obtain ⟨b,o,cs,rfl,hl,hA,rfl⟩:=Y3 k x hx
   have hst:=hI.step hx
   unfold OZ
   simp (disch:=try exact DI) only [↓PR,QR,simprocAttr,ZJ]
   unfold Zac
   by_cases he:x.1=s
   · rw [if_pos he] at hst
     simp (disch:=try exact DI) only [↓PR,QR,simprocAttr,(hA.c3 e).1,show decide (x.1=s)=true by simp [he]]
     exact ⟨⟨k+1,(k:Int),rfl,rfl,by omega,ee,hst⟩,ZM (kd := .i64) Yv⟩
   · rw [if_neg he] at hst
     simp (disch:=try exact DI) only [↓PR,QR,simprocAttr,(hA.c3 e).1,show decide (x.1=s)=false by simp [he]]
     exact ⟨⟨k+1,a,rfl,rfl,by omega,ee,hst⟩,ZM (kd := .i64) Yv⟩
 · subst hk
   rw [List.take_length] at hI
   unfold OZ
   simp (disch:=try exact DI) only [↓PR,QR,simprocAttr,ZJ]
   exact ⟨⟨_,rfl,hI⟩,e⟩
theorem LU {s:BAr} (h:Qv s=true):s≠ByteArray.empty:=by
 rintro rfl
 exact absurd h (by decide)
theorem JD {rp:List (BAr×Int×Int)}:∀ (ts:List Z3) (no:Bool),(∀ t∈ts,t.field≠ByteArray.empty∧(Ym rp t.field).isSome=true)→Xp ByteArray.empty (RP rp) Hk ts no=if ts.all (λ t=>WX (XK rp t).1 (XK rp t).2) then (if no then 9 else 0) else 2
 | [],no,_=>rfl
 | t::ts,no,h=>by
  obtain ⟨h1,h2⟩:=h t List.mem_cons_self
  have ih:=JD (rp:=rp) ts no (λ t ht=>h t (List.mem_cons_of_mem _ ht))
  obtain ⟨q,hq⟩:=Option.isSome_iff_exists.1 h2
  have hr:XK rp t=q:=by unfold XK;rw [hq];rfl
  simp only [Xp,if_neg h1,Qg,hq,Option.map_some,List.all_cons,hr]
  have hw:Hk (Zv q.1 q.2)=WX q.1 q.2:=rfl
  rw [hw]
  cases WX q.1 q.2 with
  | false=>rfl
  | true=>simpa using ih
theorem Kd {base:Int} {ts:List Z3} (h:WO base ts=true):W4 base=true∧ts.length≤4∧∀ t∈ts,VE t=true:=by
 unfold WO at h
 simp only [Bool.and_eq_true,decide_eq_true_eq] at h
 refine ⟨h.1.1,h.1.2,λ t ht=>?_⟩
 obtain ⟨k,hk⟩:=List.getElem?_of_mem ht
 have:=(UX ts []).1 h.2 k t hk
 simp only [Bool.or_eq_false_iff,Bool.not_eq_false'] at this
 exact this.2
def Au (base:Int) (ts:List Z3) (rp:List (BAr×Int×Int)):Vl := .tuple #[.int .i64 (Y5 base ts rp),.int .i64 (Y4 base ts rp),.int .i64 (YR base ts rp)]
theorem Om {base:Int} {ts:List Z3} {rp:List (BAr×Int×Int)} (h:YR base ts rp=2):Au base ts rp = .tuple #[.int .i64 0,.int .i64 0,.int .i64 2]:=by
 unfold Au Y5 Y4
 rw [h]
 rfl
theorem Li {base:Int} {ts:List Z3} {rp:List (BAr×Int×Int)} (hs:WO base ts=true) (hin:∀ t∈ts,(Ym rp t.field).isSome=true) (hw:∀ t∈ts,WX (XK rp t).1 (XK rp t).2=true):(∀ t∈ts,xw rp t)∧Au base ts rp = .tuple #[.int .i64 (base+Vg (Wk rp true) ts),.int .i64 (base+Vg (Wk rp false) ts),.int .i64 0]:=by
 obtain ⟨h1,h2,h3⟩:=Kd hs
 have h4:∀ t∈ts,xw rp t:=λ t ht=>by
  have a:=h3 t ht
  have b:=hw t ht
  unfold VE W4 at a
  unfold WX at b
  simp only [Bool.and_eq_true,decide_eq_true_eq] at a b
  exact ⟨a.2.1,a.2.2,b.1.1,b.1.2,by omega⟩
 have hb : -1048576≤base∧base≤1048576:=by unfold W4 at h1;simpa using h1
 have hE:YR base ts rp=0:=by
  unfold YR
  rw [if_pos hs,JD ts false (λ t ht=>⟨LU (by have:=h3 t ht;unfold VE at this;simp only [Bool.and_eq_true] at this;exact this.1.1),hin t ht⟩),if_pos (by rw [List.all_eq_true];exact hw)]
  rfl
 refine ⟨h4,?_⟩
 unfold Au Y5 Y4
 rw [hE,if_pos rfl,if_pos rfl,A8 ts base (λ t ht=>N4 (hin t ht) (h4 t ht) true) (by omega) (by omega),A8 ts base (λ t ht=>N4 (hin t ht) (h4 t ht) false) (by omega) (by omega)]
theorem Lj {base:Int} {ts:List Z3} {rp:List (BAr×Int×Int)} (hs:WO base ts=true) (hin:∀ t∈ts,(Ym rp t.field).isSome=true) {t:Z3} (ht:t∈ts) (hw:WX (XK rp t).1 (XK rp t).2=false):Au base ts rp = .tuple #[.int .i64 0,.int .i64 0,.int .i64 2]:=by
 obtain ⟨h1,h2,h3⟩:=Kd hs
 refine Om ?_
 unfold YR
 rw [if_pos hs,JD ts false (λ t ht=>⟨LU (by have:=h3 t ht;unfold VE at this;simp only [Bool.and_eq_true] at this;exact this.1.1),hin t ht⟩),if_neg (by rw [List.all_eq_true];intro h;rw [h t ht] at hw;cases hw)]
def Zfh (e f:Vl) (R:RT) (w:Wd):Prop:=
 opV Pg (Instr.box 124 e) (Zh R) w λ b w=>
 opV Pg (Instr.box 48 f) (Zh R) w λ c w=>
 opV Pg (Instr.alloc 74 true (.tuple #[])) (Zh R) w λ d w=>
 opV Pg (Instr.makeMap 202 none) (Zh R) w λ a w=>
 opU Pg (mapUpdate 202 a (.int .i64 1) (.func (.func 161) #[] #[])) (Zh R) w λ w=>
 opU Pg (mapUpdate 202 a (.int .i64 2) (.func (.func 161) #[] #[])) (Zh R) w λ w=>
 L0 124 b R w λ g w=>
 opV Pg (makeFunc (.func 162) #[g] #[]) (Zh R) w λ h w=>
 opU Pg (mapUpdate 202 a (.int .i64 3) h) (Zh R) w λ w=>
 L0 124 b R w λ i w=>
 opV Pg (makeFunc (.func 163) #[i] #[]) (Zh R) w λ j w=>
 opU Pg (mapUpdate 202 a (.int .i64 4) j) (Zh R) w λ w=>
 opU Pg (mapUpdate 202 a (.int .i64 5) (.func (.func 164) #[] #[])) (Zh R) w λ w=>
 opU Pg (mapUpdate 202 a (.int .i64 6) (.func (.func 165) #[] #[])) (Zh R) w λ w=>
 L0 124 b R w λ k w=>
 opV Pg (makeFunc (.func 166) #[k] #[]) (Zh R) w λ l w=>
 opU Pg (mapUpdate 202 a (.int .i64 7) l) (Zh R) w λ w=>
 opV Pg (makeFunc (.func 167) #[] #[b]) (Zh R) w λ m w=>
 opU Pg (mapUpdate 202 a (.int .i64 8) m) (Zh R) w λ w=>
 L0 124 b R w λ n w=>
 opV Pg (makeFunc (.func 168) #[n] #[]) (Zh R) w λ o w=>
 opU Pg (mapUpdate 202 a (.int .i64 9) o) (Zh R) w λ w=>
 opU Pg (mapUpdate 202 a (.int .i64 10) (.func (.func 169) #[] #[])) (Zh R) w λ w=>
 L0 124 b R w λ p w=>
 opV Pg (makeFunc (.func 170) #[p] #[]) (Zh R) w λ q w=>
 opU Pg (mapUpdate 202 a (.int .i64 11) q) (Zh R) w λ w=>
 L0 124 b R w λ r w=>
 opV Pg (makeFunc (.func 163) #[r] #[]) (Zh R) w λ s w=>
 opU Pg (mapUpdate 202 a (.int .i64 12) s) (Zh R) w λ w=>
 F0 48 c 1 R w λ t w=>
 L0 42 t R w λ u w=>
 opV Pg (Instr.lookup 202 a u false) (Zh R) w λ v w=>
 L0 48 c R w λ x w=>
 XB Pg v #[x] (Zh R) w λ y w=>
 S0 74 d y R w λ w=>
 qW Pg 74 d w λ r0=>
 R (.returned r0) w
theorem Zfi {t0 t1:Vl} {R:RT} {w:Wd} (h:Zfh t0 t1 R w):Calls Pg 127 #[t0,t1] w R:=by
 refine yD func127 ?_
 refine zs<|zr<|yv h λ _ w h=>yv h λ _ w h=>yv h λ _ w h=>zn<|zk<|zs<|zr<|zm<|zn<|zk<|zs<|zr<|yv h λ _ w h=>?_
 refine zm<|yu h λ w h=>zm<|yu h λ w h=>yv h λ _ w h=>yF h λ _ w h=>yu h λ w h=>yv h λ _ w h=>yF h λ _ w h=>yu h λ w h=>yu h λ w h=>yu h λ w h=>yv h λ _ w h=>yF h λ _ w h=>yu h λ w h=>?_
 refine yF h λ _ w h=>yu h λ w h=>yv h λ _ w h=>yF h λ _ w h=>yu h λ w h=>yu h λ w h=>yv h λ _ w h=>yF h λ _ w h=>yu h λ w h=>yv h λ _ w h=>yF h λ _ w h=>yu h λ w h=>zm<|yv h λ _ w h=>yv h λ _ w h=>?_
 exact yv h λ _ w h=>yv h λ _ w h=>yV h λ _ w h=>yu h λ w h=>zn<|zk<|Ze<|Ya rfl rfl h
def ZeS (b c:Vl) (R:RT) (w:Wd):Prop:=
 opV Pg (Instr.box 124 b) (Zh R) w λ d w=>
 opV Pg (Instr.alloc 74 true (.tuple #[])) (Zh R) w λ a w=>
 L0 124 d R w λ e w=>
 L0 3 c R w λ f w=>
 C0 106 #[e,f] R w λ g w=>
 S0 74 a g R w λ w=>
 qW Pg 74 a w λ r0=>
 R (.returned r0) w
theorem ZeT {t0 t1:Vl} {R:RT} {w:Wd} (h:ZeS t0 t1 R w):Calls Pg 128 #[t0,t1] w R:=by
 refine yD func128 ?_
 refine zs<|zr<|yv h λ _ w h=>yv h λ _ w h=>zn<|zk<|zs<|zr<|yv h λ _ w h=>yv h λ _ w h=>yc h ZcN λ _ w h=>yu h λ w h=>zn<|zk<|Ze ?_
 exact Ya rfl rfl h
def Zft (a:Vl) (R:RT) (w:Wd):Prop:=
 opV Pg (Instr.box 124 a) (Zh R) w λ b w=>
 opV Pg (makeFunc (.func 171) #[] #[b]) (Zh R) w λ c w=>
 R (.returned c) w
theorem Zfu {t0:Vl} {R:RT} {w:Wd} (h:Zft t0 R w):Calls Pg 129 #[t0] w R:=by
 refine yD func129 ?_
 exact zs<|zr<|yv h λ _ w h=>zm<|zn<|zk<|zs<|zr<|yF h λ _ w h=>zm<|zn<|zk<|Ze<|Zk rfl rfl h
def Fp (e f g h i:Vl) (a:WPr) (j:KV) (R:RT) (w:Wd):Prop:=
 Zw h (.bool true) i λ c=>
 Zr (λ (b:Vl) (w:Wd)=>
 Zw c (.bool true) b λ k=>
 Zq k (
 R (.returned (.tuple #[(.int .i64 0),(.int .i64 0),(.int .i64 2)])) w) (
 j f w)) λ d=>
 Zn c false (
 M0 173 e g a λ l=>
 J0 206 l 2 a λ m=>
 I0 3 m a λ n=>
 qV Pg a (ZI .geq 3 true n (.int .i64 34359738368)) λ b=>
 d b w) (
 d undef w)
def Zad (b g c:Vl) (a:WPr) (h:KV) (R:RT) (w:Wd):Prop:=
 M0 173 b c a λ i=>
 J0 206 i 1 a λ j=>
 I0 3 j a λ k=>
 qV Pg a (ZI .lss 3 true k (.int .i64 0)) λ e=>
 Zr (λ (d:Vl) (w:Wd)=>
 Fp b g c e d a h R w) λ f=>
 Zn e false (
 M0 173 b c a λ l=>
 J0 206 l 1 a λ m=>
 I0 3 m a λ n=>
 M0 173 b c a λ o=>
 J0 206 o 2 a λ p=>
 I0 3 p a λ q=>
 qV Pg a (ZI .gtr 3 false n q) λ d=>
 f d w) (
 f undef w)
def Pj (b c a d:Vl) (Vx:KW) (R:RT) (w:Wd):Prop:=
 F0 45 b 1 R w λ e w=>
 L0 43 e R w λ f w=>
 X0 43 f a R w λ g w=>
 F0 62 g 1 R w λ h w=>
 L0 3 h R w λ i w=>
 B0 .mul 3 false i d R w λ j w=>
 B0 .add 3 false c j R w λ k w=>
 B0 .add 3 true a (.int .i64 1) R w λ l w=>
 Vx k l w
def Zae (d e f g b h:Vl) (Vx:KW) (R:RT) (w:Wd):Prop:=
 X0 173 d h R w λ i w=>
 L0 206 i R w λ j w=>
 opV Pg (Instr.alloc 206 true (.tuple #[])) (Zh R) w λ a w=>
 S0 206 a j R w λ w=>
 F0 206 a 1 R w λ k w=>
 L0 3 k R w λ l w=>
 B0 .shr 3 false f b R w λ m w=>
 B0 .rem 3 true m (.int .i64 2) R w λ n w=>
 B0 .eql 3 true n (.int .i64 1) R w λ o w=>
 Zr (λ (p:Vl) (w:Wd)=>
 Pj e g b p Vx R w) λ c=>
 Zq o (
 F0 206 a 2 R w λ q w=>
 L0 3 q R w λ r w=>
 c r w) (
 c l w)
def Cp (c a d e f g:Vl) (Qk:Vl→Vl→Vl→Wd→Prop) (R:RT) (w:Wd):Prop:=
 Zw f (.bool true) g λ h=>
 Zr (λ (a:Vl) (w:Wd)=>
 B0 .add 3 true d (.int .i64 1) R w λ i w=>
 Qk c a i w) λ b=>
 Zq h (
 b e w) (
 b a w)
def Lp (g b c d:Vl) (Qk:Vl→Vl→Vl→Wd→Prop) (R:RT) (w:Wd):Prop:=
 B0 .eql 3 true c (.int .i64 0) R w λ e w=>
 Zr (λ (a:Vl) (w:Wd)=>
 Cp g b c d e a Qk R w) λ f=>
 Zn e false (
 B0 .gtr 3 false d b R w λ a w=>
 f a w) (
 f undef w)
def Pk (a h d b:Vl) (Qk:Vl→Vl→Vl→Wd→Prop) (R:RT) (w:Wd):Prop:=
 B0 .eql 3 true d (.int .i64 0) R w λ e w=>
 Zr (λ (c:Vl) (w:Wd)=>
 Zw e (.bool true) c λ i=>
 Zr (λ (a:Vl) (w:Wd)=>
 Lp a h d b Qk R w) λ f=>
 Zq i (
 f b w) (
 f a w)) λ g=>
 Zn e false (
 B0 .lss 3 false b a R w λ c w=>
 g c w) (
 g undef w)
def Zaf (a b d e c:Vl) (Vx:KW) (R:RT) (w:Wd):Prop:=
 F0 45 b 1 R w λ f w=>
 L0 43 f R w λ g w=>
 X0 43 g c R w λ h w=>
 F0 62 h 0 R w λ i w=>
 L0 9 i R w λ j w=>
 C0 175 #[a,j] R w λ k w=>
 Zae a b d e c k Vx R w
def Pm (e a f g b c d:Vl) (Qk:Vl→Vl→Vl→Wd→Prop) (Vx:KW) (R:RT) (w:Wd):Prop:=
 F0 45 a 1 R w λ h w=>
 L0 43 h R w λ i w=>
 G0 43 3 i R w λ j w=>
 B0 .lss 3 false d j R w λ k w=>
 Zq k (
 Zaf e a b c d Vx R w) (
 Pk f g b c Qk R w)
def Pd (b a c d e:Vl) (Qk:Vl→Vl→Vl→Wd→Prop) (R:RT) (w:Wd):Prop:=
 F0 45 a 0 R w λ f w=>
 L0 3 f R w λ g w=>
 Qi (λ h i w Vx=>
 Pm b a c d e h i Qk Vx R w) g (.int .i64 0) w
def Pe (e a b c d:Vl) (Qk:Vl→Vl→Vl→Wd→Prop) (R:RT) (w:Wd):Prop:=
 F0 45 a 1 R w λ f w=>
 L0 43 f R w λ g w=>
 G0 43 3 g R w λ h w=>
 B0 .shl 3 true (.int .i64 1) h R w λ i w=>
 B0 .lss 3 false d i R w λ j w=>
 Zq j (
 Pd e a b c d Qk R w) (
 R (.returned (.tuple #[b,c,(.int .i64 0)])) w)
def Pf (a b c:Vl) (R:RT) (w:Wd):Prop:=
 Zq c (
 R (.returned (.tuple #[(.int .i64 0),(.int .i64 0),(.int .i64 9)])) w) (
 Fk (λ d e f w Qk=>
 Pe a b d e f Qk R w) (.int .i64 0) (.int .i64 0) (.int .i64 0) w)
def Ph (b f a c:Vl) (Zo:KW) (R:RT) (w:Wd):Prop:=
 Zr (λ (a:Vl) (w:Wd)=>
 B0 .add 3 true c (.int .i64 1) R w λ g w=>
 Zo a g w) λ d=>
 F0 45 f 1 R w λ h w=>
 L0 43 h R w λ i w=>
 X0 43 i c R w λ j w=>
 F0 62 j 0 R w λ k w=>
 L0 9 k R w λ l w=>
 C0 175 #[b,l] R w λ e w=>
 B0 .lss 3 true e (.int .i64 0) R w λ m w=>
 Zq m (
 d (.bool true) w) (
 Yy w λ n w=>
 Zad b a e n d R w)
def H0 (b a c d:Vl) (Zo:KW) (R:RT) (w:Wd):Prop:=
 F0 45 a 1 R w λ e w=>
 L0 43 e R w λ f w=>
 G0 43 3 f R w λ g w=>
 B0 .lss 3 false d g R w λ h w=>
 Zq h (
 Ph b a c d Zo R w) (
 Pf b a c R w)
def Pi (a b c:Vl) (R:RT) (w:Wd):Prop:=
 N0 c R w λ d w=>
 Zq d (
 R (.returned (.tuple #[(.int .i64 0),(.int .i64 0),(.int .i64 2)])) w) (
 Qi (λ e f w Zo=>
 H0 a b e f Zo R w) (.bool false) (.int .i64 0) w)
def n15 (b c:Vl) (R:RT) (w:Wd):Prop:=
 opV Pg (Instr.box 45 b) (Zh R) w λ a w=>
 L0 45 a R w λ d w=>
 C0 174 #[d] R w λ e w=>
 Pi c a e R w
set_option maxHeartbeats 40000000 in
theorem ZhY {t0 t1:Vl} {R:RT} {w:Wd} (h:n15 t0 t1 R w):Calls Pg 130 #[t0,t1] w R:=by
 refine yD func130 ?_
 refine zs<|zr<|yv h λ _ w h=>zm<|zm<|zm<|zn<|zk<|zs<|zs<|zr<|yv h λ _ w h=>yc h ZcZ λ _ w h=>yv h λ _ w h=>zn ?_
 refine zk<|yC h (λ h=>zs<|zr<|zm<|zm<|zm<|zn<|zk<|Ze<|Zb<|Gl rfl rfl rfl rfl h) λ h=>Zi<|zk<|zs<|zr<|zm<|zn<|zk<|zs<|zs<|zr<|zm<|zn ?_
 refine zk<|Zj<|yl2 [4,5,6,7,8,9,20,21,22,23,24,25,26,27,28,29,30,31,32,33,34,35,36,37,38,39,40,41,42,43,44,45,46,47,48,49,50,51,52,53,54,55,56,57,58,59,60,61,62,63] 7 8 h λ σ w next h=>zs<|zs<|zr<|zm<|yv h λ _ w h=>yv h λ _ w h=>yx h λ _ w h=>yb h λ _ w h=>zn<|zk<|yC h (λ h=>?_) λ h=>?_
 · refine Zi<|zk<|zs<|yJ1 [4,5,6,7,9,27,28,29,30,31,32,33,34,35,36,37,38,39,40,41,42,43,44,45,46,47,48,49,50,51,52,53,54,55,56,57,58,59,60,61,62,63] 7 h (λ _ _ hkK2 h=>?_) λ σ w h=>?_
   · refine Zj<|zs<|zr<|zm<|yv h λ _ w h=>yv h λ _ w h=>zm<|yv h λ _ w h=>yv h λ _ w h=>yv h λ _ w h=>yc h Zc0 λ _ w h=>zm<|zn<|zk<|zs ?_
     refine zs<|zr<|zm<|yb h λ _ w h=>zn<|zk<|yC h (λ h=>?_) λ h=>?_
     · refine zs<|zr<|zm<|zn<|zk<|ZA<|Zc<|Zp<|zk ?_
       exact zt hkK2 h
     refine Zi<|zk<|zs<|yh [37,38,39,40,41,42,43,44,45,46,47,48,49,50,51,52,53,54,55,56,57,58,59,60,61,62,63] h λ C hC h=>yw 0 hC ?_
     refine yw 1 hC ?_
     refine ye 2 hC h λ _ h=>?_
     refine ye 3 hC h λ _ h=>?_
     refine ye 4 hC h λ _ h=>?_
     refine ye 5 hC h λ _ h=>?_
     refine yw 6 hC ?_
     refine yj1 9 [17,16,15,14,13,12,11,10,9,8,7,6,5,4,3,2,1,0] [44,45,46,47,48,49,50,51,52,53,54] 54 h (λ _ hT hb h=>?_) (λ _ hT hb h=>?_) λ σ w hC h=>?_
     · refine yw 7 hC ?_
       refine yw 8 hC ?_
       refine ye 9 hC h λ _ h=>?_
       refine ye 10 hC h λ _ h=>?_
       refine ye 11 hC h λ _ h=>?_
       refine yw 12 hC ?_
       refine yw 13 hC ?_
       refine ye 14 hC h λ _ h=>?_
       refine ye 15 hC h λ _ h=>?_
       refine ye 16 hC h λ _ h=>?_
       refine ye 17 hC h λ _ h=>?_
       exact yt hT hC h
     · refine yi 7 hC ?_
       refine yi 8 hC ?_
       refine yi 9 hC ?_
       refine yi 10 hC ?_
       refine yi 11 hC ?_
       refine yi 12 hC ?_
       refine yi 13 hC ?_
       refine yi 14 hC ?_
       refine yi 15 hC ?_
       refine yi 16 hC ?_
       refine yi 17 hC ?_
       exact yt hT hC h
     refine yP 18 hC h λ _ h=>?_
     refine yw 19 hC ?_
     refine yj1 1 [25,24,23,22,21,20,19,18,17,16,15,14,13,12,11,10,9,8,7,6,5,4,3,2,1,0] [57,58,59,60,61,62] 62 h (λ _ hT hb h=>?_) (λ _ hT hb h=>?_) λ σ w hC h=>?_
     · refine yw 20 hC ?_
       refine yw 21 hC ?_
       refine ye 22 hC h λ _ h=>?_
       refine ye 23 hC h λ _ h=>?_
       refine ye 24 hC h λ _ h=>?_
       refine ye 25 hC h λ _ h=>?_
       exact yt hT hC h
     · refine yi 20 hC ?_
       refine yi 21 hC ?_
       refine yi 22 hC ?_
       refine yi 23 hC ?_
       refine yi 24 hC ?_
       refine yi 25 hC ?_
       exact yt hT hC h
     refine yP 26 hC h λ _ h=>?_
     refine yz<|zk<|yC h (λ h=>zs<|zr<|zm<|zm<|zm<|zn<|zk<|Ze<|Zf<|Zb<|Zb<|Zb<|Zf<|Zb<|Gl rfl rfl rfl rfl h) λ h=>Zi<|Zg<|zk ?_
     exact zt hkK2 h
   exact zk<|zr<|zm<|yb h λ _ w h=>zm<|zn<|zk<|⟨rfl,h⟩
 refine ZA<|Zc<|Zc<|Zp<|zk<|zs<|zs<|zr<|zm<|zn<|zk<|yC h (λ h=>zs<|zr<|zm<|zm<|zm<|zn<|zk<|Ze<|Zb<|Gl rfl rfl rfl rfl h) λ h=>Zi<|zk ?_
 refine zs<|zr<|zm<|zm<|zn<|zk<|zs<|zs<|zr<|zm<|zn<|zk<|Zj<|yl3 [10,11,12,13,14,15,16,65,66,67,68,69,70,71,72,73,74,75,76,77,78,79,80,81,82,83,84,85,86,87,88,89,90,91,92,93,94,95,96,97,98,99,100,101,102,103,104,105,106,107,108,109,110,111,112,113,114,115,116,117,118,119,120,121,122,123,124,125,126,127] 10 11 12 h λ σ w next h=>zs ?_
 refine zs<|zr<|zm<|yv h λ _ w h=>yv h λ _ w h=>yx h λ _ w h=>yb h λ _ w h=>yb h λ _ w h=>zn<|zk<|yC h (λ h=>?_) λ h=>?_
 · refine Zi<|zk<|zs<|Zj<|zs<|zr<|yv h λ _ w h=>yv h λ _ w h=>zm<|zn<|zk<|zs<|zs<|zr<|zm ?_
   refine zn<|zk<|Zj<|yl2 [13,14,15,16,75,76,77,78,79,80,81,82,83,84,85,86,87,88,89,90,91,92,93,94,95,96,97,98,99,100,101,102,103,104,105,106,107,108,109,110,111] 13 14 h λ σ w next h=>zs<|zs<|zr<|zm<|yv h λ _ w h=>yv h λ _ w h=>yx h λ _ w h=>yb h λ _ w h=>zn<|zk<|yC h (λ h=>?_) λ h=>?_
   · refine Zi<|zk<|zs<|Zj<|zs<|zr<|zm<|zm<|yv h λ _ w h=>yv h λ _ w h=>zm<|yv h λ _ w h=>yv h λ _ w h=>yv h λ _ w h=>yc h Zc0 λ _ w h=>?_
     refine yv h λ _ w h=>yv h λ _ w h=>yv h λ _ w h=>yu h λ w h=>zn<|zk<|zs<|zr<|yv h λ _ w h=>yv h λ _ w h=>zm<|zn<|zk<|zs<|zs ?_
     refine zr<|zm<|zm<|yb h λ _ w h=>yb h λ _ w h=>yb h λ _ w h=>zn<|zk<|yJ1 [16,100,101] 16 h (λ _ _ hkK8 h=>?_) λ σ w h=>?_
     · refine yC h (λ h=>?_) λ h=>?_
       · refine zr<|yv h λ _ w h=>yv h λ _ w h=>zm<|zn<|zk ?_
         exact zt hkK8 h
       refine Zi<|zk ?_
       exact zt hkK8 h
     refine zk<|zr<|zm<|yv h λ _ w h=>yv h λ _ w h=>zm<|yv h λ _ w h=>yv h λ _ w h=>yv h λ _ w h=>zm<|yb h λ _ w h=>yb h λ _ w h=>zm<|zn<|Zg ?_
     exact zk<|zr<|zm<|yb h λ _ w h=>zm<|zn<|zk<|⟨rfl,h⟩
   refine ZA<|Zc<|Zc<|Zp<|zk<|zs<|zs<|Zu<|yG 3<|zm<|yb h λ _ w h=>zm<|zn<|yg1 3 2 false [115,116,117] 117 h (λ _ T hT h=>?_) λ σ w h=>?_
   · refine zm<|zm<|yb h λ _ w h=>zn ?_
     exact zt hT h
   refine yG 1<|yp h λ _ h=>zn<|ZQ<|zk<|yJ1 [10,119] 10 h (λ _ _ hkK10 h=>?_) λ σ w h=>?_
   · refine yC h (λ h=>?_) λ h=>?_
     · refine zr<|zm<|zm<|zn<|zk ?_
       exact zt hkK10 h
     refine Zi<|zk ?_
     exact zt hkK10 h
   refine zk<|zs<|Zu<|yG 3<|zm<|yb h λ _ w h=>zm<|zn<|yg1 3 2 false [123,124,125] 125 h (λ _ T hT h=>?_) λ σ w h=>?_
   · refine zm<|zm<|yb h λ _ w h=>zn ?_
     exact zt hT h
   refine yG 1<|yp h λ _ h=>zn<|ZQ<|zk<|yJ1 [11,127] 11 h (λ _ _ hkK12 h=>?_) λ σ w h=>?_
   · refine yC h (λ h=>?_) λ h=>?_
     · refine zr<|zm<|zm<|zn<|zk ?_
       exact zt hkK12 h
     refine Zi<|zk ?_
     exact zt hkK12 h
   exact Zg<|zk<|zr<|zm<|yb h λ _ w h=>zm<|zn<|zk<|⟨rfl,h⟩
 refine ZA<|Zc<|Zc<|Zp<|zk<|zs<|zr<|zm<|zm<|zm<|zm<|zm<|zn<|zk<|Ze ?_
 exact Gl rfl rfl rfl rfl h
def Za3 (b c d a:Vl) (e:KV) (R:RT) (w:Wd):Prop:=
 E0 a 0 R w λ f w=>
 E0 a 1 R w λ g w=>
 F0 24 b 1 R w λ h w=>
 L0 22 h R w λ i w=>
 X0 22 i d R w λ j w=>
 F0 48 j 0 R w λ k w=>
 L0 9 k R w λ l w=>
 opV Pg (Instr.build 206 #[(0,l),(1,f),(2,g)]) (Zh R) w λ m w=>
 opV Pg (buildSlice 173 1 #[(0,m)]) (Zh R) w λ n w=>
 opV Pg (Builtin.append_ #[173,173] 173 #[c,n]) (Zh R) w λ o w=>
 e o w
def Za4 (a c b:Vl) (d:KV) (R:RT) (w:Wd):Prop:=
 F0 24 a 1 R w λ e w=>
 L0 22 e R w λ f w=>
 X0 22 f b R w λ g w=>
 L0 48 g R w λ h w=>
 C0 152 #[h] R w λ i w=>
 Za3 a c b i d R w
def Za5 (d a b e:Vl) (Zo:KW) (R:RT) (w:Wd):Prop:=
 Zr (λ (a:Vl) (w:Wd)=>
 B0 .add 3 true b (.int .i64 1) R w λ f w=>
 Zo a f w) λ c=>
 Zq e (
 Za4 d a b c R w) (
 c a w)
def Za6 (a c b:Vl) (Zo:KW) (R:RT) (w:Wd):Prop:=
 F0 24 a 1 R w λ d w=>
 L0 22 d R w λ e w=>
 X0 22 e b R w λ f w=>
 L0 48 f R w λ g w=>
 C0 47 #[g] R w λ h w=>
 Za5 a c b h Zo R w
def Za7 (a b c:Vl) (Zo:KW) (R:RT) (w:Wd):Prop:=
 F0 24 a 1 R w λ d w=>
 L0 22 d R w λ e w=>
 G0 22 3 e R w λ f w=>
 B0 .lss 3 false c f R w λ g w=>
 Zq g (
 Za6 a b c Zo R w) (
 R (.returned b) w)
def n48 (a:Vl) (R:RT) (w:Wd):Prop:=
 opV Pg (Instr.box 24 a) (Zh R) w λ b w=>
 Qi (λ c d w Zo=>
 Za7 b c d Zo R w) (Value.slice none 0 0) (.int .i64 0) w
theorem Zit {t0:Vl} {R:RT} {w:Wd} (h:n48 t0 R w):Calls Pg 131 #[t0] w R:=by
 refine yD func131 ?_
 refine zs<|zr<|yv h λ _ w h=>zm<|zn<|zk<|zs<|zr<|zm<|zn<|zk<|zs<|zs<|zr<|zm ?_
 refine zn<|zk<|Zj<|yl2 [3,4,5,6,7,8,9,10,11,12,13,14,15,16,17,18,19,20,21,22,23,24,25,26,27,28,29,30,31,32,33,34,35,36,37,38,39,40] 3 4 h λ σ w next h=>zs<|zs<|zr<|zm<|yv h λ _ w h=>yv h λ _ w h=>yx h λ _ w h=>yb h λ _ w h=>zn<|zk<|yC h (λ h=>?_) λ h=>?_
 · refine Zi<|zk<|zs<|Zj<|zs<|zr<|yv h λ _ w h=>yv h λ _ w h=>zm<|yv h λ _ w h=>yv h λ _ w h=>yc h c47 λ _ w h=>zn<|zk<|yJ1 [3,5,6,20,21,22,23,24,25,26,27,28,29,30,31,32,33,34,35,36,37,38,39,40] 3 h (λ _ _ hkK2 h=>?_) λ σ w h=>?_
   · refine yC h (λ h=>?_) λ h=>?_
     · refine zs<|zr<|yv h λ _ w h=>yv h λ _ w h=>zm<|yv h λ _ w h=>yv h λ _ w h=>yc h ZbN λ _ w h=>zm<|yv h λ _ w h=>yv h λ _ w h=>zm<|zm<|zn<|zk ?_
       refine zr<|zm<|yv h λ _ w h=>yv h λ _ w h=>zm<|yv h λ _ w h=>yv h λ _ w h=>yv h λ _ w h=>zm<|zm<|yB h λ _ w h=>yS h λ _ w h=>yx h λ _ w h=>zm<|zn ?_
       refine zk ?_
       exact zt hkK2 h
     refine Zi<|zk ?_
     exact zt hkK2 h
   exact Zg<|zk<|zr<|zm<|yb h λ _ w h=>zm<|zn<|zk<|⟨rfl,h⟩
 exact ZA<|Zc<|Zc<|Zp<|zk<|zs<|zr<|zm<|zm<|zn<|zk<|Ze<|Zk rfl rfl h
def Za2 (a:Vl) (R:RT) (w:Wd):Prop:=
 B0 .quo 3 true a (.int .i64 128) R w λ b w=>
 C0 132 #[b] R w λ c w=>
 B0 .add 3 true (.int .i64 1) c R w λ d w=>
 R (.returned d) w
def n46 (a:Vl) (R:RT) (w:Wd):Prop:=
 B0 .lss 3 true a (.int .i64 128) R w λ b w=>
 Zq b (
 R (.returned (.int .i64 1)) w) (
 Za2 a R w)
theorem Zir {t0:Vl} {R:RT} {w:Wd} (h:n46 t0 R w):Calls Pg 132 #[t0] w R:=by
 refine yD func132 ?_
 refine zs<|zr<|zm<|zn<|zk<|zs<|zs<|zr<|zm<|yb h λ _ w h=>zn<|zk<|yC h (λ h=>zs<|zr<|zm<|zn<|zk<|Ze<|Zb<|Zk rfl rfl h) λ h=>Zi ?_
 exact zk<|zs<|zr<|zm<|yb h λ _ w h=>yc h SP λ _ w h=>yb h λ _ w h=>zm<|zn<|zk<|Ze<|Zk rfl rfl h
theorem Bq {rp:List (BAr×Int×Int)} {t:Z3} {q:Int×Int} (h:Ym rp t.field=some q):XK rp t=q:=by unfold XK;rw [h];rfl
theorem GU (w0:Wd) (v rv:Vl) (base:Int) (ts:List Z3) (rp:List (BAr×Int×Int)) (hs:KD w0 v base ts) (hR:GY w0 rv rp) (hin:∀ t∈ts,(Ym rp t.field).isSome=true):Ret Pg 130 #[v,rv] w0 λ r w'=>r=Au base ts rp∧Ext w0 w':=by
 obtain ⟨tv,rfl,hT⟩:=hs
 have hS1:=hT
 obtain ⟨A,c,rfl,hlc,hcm,hlm,Y3⟩:=Zd.open hT
 obtain ⟨A2,c2,rfl,hlc2,hcm2,hlm2,hel2⟩:=Zd.open hR
 refine ZhY (R:=ZO _) ?_;unfold n15
 simp (disch:=try exact DI) only [↓PR,QR,simprocAttr]
 have Xz:=Z6.new (w:=w0) ([.int .i64 base,.slice A ts.length c]) (45)
 have eW:Ext w0 (w0.alloc (Obj.cells (List.toArray ([.int .i64 base,.slice A ts.length c])) (45))):=(Ext.refl _).alloc _
 generalize (w0.alloc (Obj.cells (List.toArray ([.int .i64 base,.slice A ts.length c])) (45)))=W at Xz eW ⊢
 refine zcr (J9 _ _ base ts ⟨_,rfl,hS1.ext eW⟩) λ w1 e1=>?_
 have E1:=eW.trans e1
 unfold Pi
 cases VF:WO base ts with
 | false=>
  simp (disch:=try exact DI) only [↓PR,QR,simprocAttr]
  refine ⟨?_,E1⟩
  rw [Om (by unfold YR;rw [VF];rfl)]
 | true=>
 obtain ⟨hb,h4,hterm⟩:=Kd VF
 simp (disch:=try exact DI) only [↓PR,QR,simprocAttr]
 refine Yn (λ a0 a1 w=>∃ (k:Nat) , a0 = .bool false∧a1 = .int .i64 (k:Int)∧k≤ts.length∧Ext w1 w∧∀ j t,j < k→ts[j]?=some t→WX (XK rp t).1 (XK rp t).2=true) (λ a0 a1 _=>ts.length - (intOf a1).toNat) ⟨0,rfl,rfl,Nat.zero_le _,ee,by intro j x h;omega⟩ ?_
 rintro _ _ w ⟨k,rfl,rfl,hk,e,hI⟩
 have se:=e.size
 rcases ZD hk with ⟨x,hx,hd,Yv,ZJ⟩ | ⟨hk,hd,ZJ⟩
 · obtain ⟨b,o,cs,rfl,hl,hA,rfl⟩:=Y3 k x hx
   have E:=E1.trans e
   have f:=e1.trans e
   unfold H0
   simp (disch:=try exact DI) only [↓PR,QR,simprocAttr,Xz.c2,ZJ]
   unfold Ph
   simp (disch:=try exact DI) only [↓PR,QR,simprocAttr,Xz.c2,(hA.c2 E).1]
   refine Zs (J6 _ _ rp x.field (hR.ext E)) ?_
   rintro _ w2 ⟨⟨a,rfl,ha⟩,e2⟩
   have hxm:=List.mem_of_getElem? hx
   rcases ha with ⟨rfl,hno⟩ | ⟨j,q,rfl,hj,hq⟩
   · have:=hin x hxm
     rw [hno] at this;cases this
   obtain ⟨b',o',cs',rfl,_,hB,rfl⟩:=hel2 j _ hj
   have MV:(j:Int) < (rp.length:Int):=by have:=(List.getElem?_eq_some_iff.1 hj).1;omega
   have E2:=E.trans e2
   have hq':=Bq hq
   have d0:decide ((j:Int) < 0)=false:=by simp
   have stop:WX q.1 q.2=false→(Value.tuple #[.int .i64 0,.int .i64 0,.int .i64 2])=Au base ts rp:=λ h=>(Lj VF hin hxm (by rw [hq'];exact h)).symm
   simp (disch:=try exact DI) only [↓PR,QR,simprocAttr,d0]
   refine Zy ?_
   unfold Zad
   by_cases h1:q.1 < 0
   · have d1:decide (q.1 < 0)=true:=by simpa using h1
     simp (disch:=try exact DI) only [↓PR,QR,simprocAttr,(hB.c3 E2).1,(hB.c3 E2).2,d1]
     unfold Fp
     simp (disch:=try exact DI) only [↓PR,QR,simprocAttr]
     exact ⟨stop (by unfold WX;simp;omega),ee⟩
   have d1:decide (q.1 < 0)=false:=by simpa using h1
   by_cases h2:q.1 > q.2
   · have d2:decide (q.1 > q.2)=true:=by simpa using h2
     simp (disch:=try exact DI) only [↓PR,QR,simprocAttr,(hB.c3 E2).1,(hB.c3 E2).2,d1,d2]
     unfold Fp
     simp (disch:=try exact DI) only [↓PR,QR,simprocAttr]
     exact ⟨stop (by unfold WX;simp;omega),ee⟩
   have d2:decide (q.1 > q.2)=false:=by simpa using h2
   by_cases h3:q.2≥34359738368
   · have d3:decide (q.2≥34359738368)=true:=by simpa using h3
     simp (disch:=try exact DI) only [↓PR,QR,simprocAttr,(hB.c3 E2).1,(hB.c3 E2).2,d1,d2,d3]
     unfold Fp
     simp (disch:=try exact DI) only [↓PR,QR,simprocAttr,(hB.c3 E2).1,(hB.c3 E2).2,d3]
     exact ⟨stop (by unfold WX;simp;omega),ee⟩
   have d3:decide (q.2≥34359738368)=false:=by simpa using h3
   simp (disch:=try exact DI) only [↓PR,QR,simprocAttr,(hB.c3 E2).1,(hB.c3 E2).2,d1,d2,d3]
   unfold Fp
   simp (disch:=try exact DI) only [↓PR,QR,simprocAttr,(hB.c3 E2).1,(hB.c3 E2).2,d3]
   refine ⟨⟨k+1,by first | trivial | rfl,by first | trivial | rfl,by omega,e.trans e2.wdrew,λ i z hi hz=>?_⟩,ZM (kd := .i64) Yv⟩
   by_cases hij:i=k
   · subst hij;rw [hx] at hz;injection hz with hz;subst hz;rw [hq'];unfold WX;simp;omega
   · exact hI i z (by omega) hz
 · subst hk
   have E:=E1.trans e
   have f:=e1.trans e
   obtain ⟨hsm,hiv⟩:=Li VF hin (λ t ht=>by obtain ⟨j,hj⟩:=List.getElem?_of_mem ht;exact hI j t (List.getElem?_eq_some_iff.1 hj).1 hj)
   rw [hiv]
   clear hiv hI
   unfold H0
   simp (disch:=try exact DI) only [↓PR,QR,simprocAttr,Xz.c2,ZJ]
   unfold Pf
   simp (disch:=try exact DI) only [↓PR,QR,simprocAttr]
   obtain ⟨hall,⟨mL,hmL,hvL⟩,⟨mH,hmH,hvH⟩⟩:=Co (rp:=rp) (ts:=ts) (λ t ht=>⟨hin t ht,hsm t ht⟩)
   have hp16:2 ^ ts.length≤16:=by
    have:(2:Nat) ^ ts.length≤2 ^ 4:=Nat.pow_le_pow_right (by decide) h4
    exact this
   have hpow:IntKind.i64.wrap (1*2 ^ ((ts.length:Int)).toNat)=((2 ^ ts.length:Nat):Int):=by
    rw [Int.toNat_natCast,Int.one_mul]
    rw [show ((2:Int) ^ ts.length)=((2 ^ ts.length:Nat):Int) by simp]
    exact Z0 (by omega) (by omega)
   have GE : -1048576≤base∧base≤1048576:=by unfold W4 at hb;simpa using hb
   refine Fl (λ x y i w'=>∃ (lo hi:Int) (mix:Nat),x = .int .i64 lo∧y = .int .i64 hi∧i = .int .i64 mix∧mix≤2 ^ ts.length∧Ext w0 w'∧Ext W w'∧(mix≠0→base+Vg (Wk rp true) ts≤lo∧hi≤base+Vg (Wk rp false) ts)∧∀ j,j < mix→lo≤base+Uq rp j 0 ts∧base+Uq rp j 0 ts≤hi) (λ _ _ i _=>2 ^ ts.length - (intOf i).toNat) ⟨0,0,0,rfl,rfl,rfl,Nat.zero_le _,E,f,by simp,by intro j h;omega⟩ ?_
   rintro _ _ _ w3 ⟨lo,hi,mix,rfl,rfl,rfl,hmix,E3,f3,hLH,hall3⟩
   unfold Pe
   by_cases hm:mix < 2 ^ ts.length
   · have d1:decide ((mix:Int) < ((2 ^ ts.length:Nat):Int))=true:=by simp only [decide_eq_true_eq];exact Int.ofNat_lt.2 hm
     simp (disch:=try exact DI) only [↓PR,QR,simprocAttr,Xz.c2,hpow,d1]
     unfold Pd
     simp (disch:=try exact DI) only [↓PR,QR,simprocAttr,Xz.c2]
     have GF:∀ (n:Int) (w':Wd),n=base+Uq rp mix 0 ts→Ext w3 w'→Pk (.int .i64 lo) (.int .i64 hi) (.int .i64 (mix:Int)) (.int .i64 n) (λ t10 t11 t12 w'=>(∃ (lo hi:Int) (mix:Nat),t10 = .int .i64 lo∧t11 = .int .i64 hi∧t12 = .int .i64 mix∧mix≤2 ^ ts.length∧Ext w0 w'∧Ext W w'∧(mix≠0→base+Vg (Wk rp true) ts≤lo∧hi≤base+Vg (Wk rp false) ts)∧∀ j,j < mix→lo≤base+Uq rp j 0 ts∧base+Uq rp j 0 ts≤hi)∧2 ^ ts.length - (intOf t12).toNat < 2 ^ ts.length - (intOf (.int .i64 (mix:Int))).toNat) (ZO λ r w'=>r=Value.tuple #[.int .i64 (base+Vg (Wk rp true) ts),.int .i64 (base+Vg (Wk rp false) ts),.int .i64 0]∧Ext w0 w') w':=by
      intro n w' hn e'
      have hv:=hall mix
      have hw:IntKind.i64.wrap ((mix:Int)+1)=((mix+1:Nat):Int):=by rw [Z0 (by omega) (by omega)];omega
      have hgo:∀ lo' hi':Int,(base+Vg (Wk rp true) ts≤lo'∧hi'≤base+Vg (Wk rp false) ts)→(lo'≤n∧n≤hi')→(∀ j,j < mix→lo'≤base+Uq rp j 0 ts∧base+Uq rp j 0 ts≤hi')→(∃ (lo hi:Int) (mix_1:Nat),Value.int .i64 lo' = .int .i64 lo∧Value.int .i64 hi' = .int .i64 hi∧Value.int .i64 ((mix+1:Nat):Int) = .int .i64 mix_1∧mix_1≤2 ^ ts.length∧Ext w0 w'∧Ext W w'∧(mix_1≠0→base+Vg (Wk rp true) ts≤lo∧hi≤base+Vg (Wk rp false) ts)∧∀ j,j < mix_1→lo≤base+Uq rp j 0 ts∧base+Uq rp j 0 ts≤hi)∧2 ^ ts.length - (intOf (Value.int .i64 ((mix+1:Nat):Int))).toNat < 2 ^ ts.length - (intOf (.int .i64 (mix:Int))).toNat:=by
       intro lo' hi' h1 h2 h3
       refine ⟨⟨lo',hi',mix+1,rfl,rfl,rfl,hm,E3.trans e',f3.trans e',λ _=>h1,λ j hj=>?_⟩,ZM (kd := .i64) hm⟩
       by_cases hjm:j=mix
       · subst hjm;rw [← hn];exact h2
       · exact h3 j (by omega)
      unfold Pk
      by_cases hz:mix=0
      · subst hz
        simp (disch:=try exact DI) only [↓PR,QR,simprocAttr]
        unfold Lp
        simp (disch:=try exact DI) only [↓PR,QR,simprocAttr]
        unfold Cp
        simp (disch:=try exact DI) only [↓PR,QR,simprocAttr]
        exact hgo n n (by omega) (by omega) (by intro j hj;omega)
      · have d2:((mix:Int) == 0)=false:=by simp;omega
        have hl:=hLH hz
        by_cases hlo:n < lo
        · have d3:decide (n < lo)=true:=by simpa using hlo
          simp (disch:=try exact DI) only [↓PR,QR,simprocAttr,d2,d3]
          unfold Lp
          by_cases hhi:n > hi
          · have d4:decide (n > hi)=true:=by simpa using hhi
            simp (disch:=try exact DI) only [↓PR,QR,simprocAttr,d2,d4]
            unfold Cp
            simp (disch:=try exact DI) only [↓PR,QR,simprocAttr]
            exact hgo n n (by omega) (by omega) (λ j hj=>by have:=hall3 j hj;omega)
          · have d4:decide (n > hi)=false:=by simpa using hhi
            simp (disch:=try exact DI) only [↓PR,QR,simprocAttr,d2,d4]
            unfold Cp
            simp (disch:=try exact DI) only [↓PR,QR,simprocAttr]
            exact hgo n hi (by omega) (by omega) (λ j hj=>by have:=hall3 j hj;omega)
        · have d3:decide (n < lo)=false:=by simpa using hlo
          simp (disch:=try exact DI) only [↓PR,QR,simprocAttr,d2,d3]
          unfold Lp
          by_cases hhi:n > hi
          · have d4:decide (n > hi)=true:=by simpa using hhi
            simp (disch:=try exact DI) only [↓PR,QR,simprocAttr,d2,d4]
            unfold Cp
            simp (disch:=try exact DI) only [↓PR,QR,simprocAttr]
            exact hgo lo n (by omega) (by omega) (λ j hj=>by have:=hall3 j hj;omega)
          · have d4:decide (n > hi)=false:=by simpa using hhi
            simp (disch:=try exact DI) only [↓PR,QR,simprocAttr,d2,d4]
            unfold Cp
            simp (disch:=try exact DI) only [↓PR,QR,simprocAttr]
            exact hgo lo hi (by omega) (by omega) (λ j hj=>by have:=hall3 j hj;omega)
     refine Yn (λ a0 a1 wb=>∃ (kb:Nat) (n:Int),a0 = .int .i64 n∧a1 = .int .i64 (kb:Int)∧kb≤ts.length∧Ext w3 wb∧n+Uq rp mix kb (ts.drop kb)=base+Uq rp mix 0 ts ∧ -1048576 - kb*36028797018963968≤n∧n≤1048576+kb*36028797018963968) (λ a0 a1 _=>ts.length - (intOf a1).toNat) ⟨0,base,rfl,rfl,Nat.zero_le _,ee,⟨rfl,by omega,by omega⟩⟩ ?_
     rintro _ _ wb ⟨kb,n,rfl,rfl,hkb,eb,hIb⟩
     have seb:=eb.size
     rcases ZD hkb with ⟨xb,hxb,hdb,hltb,Ap⟩ | ⟨hkb,hdb,Ap⟩
     · obtain ⟨hsum,hn1,hn2⟩:=hIb
       obtain ⟨b,o,cs,rfl,hl,hA,rfl⟩:=Y3 kb xb hxb
       have Eb:=E3.trans eb
       have fb:=f3.trans eb
       unfold Pm
       simp (disch:=try exact DI) only [↓PR,QR,simprocAttr,Xz.c2,Ap]
       unfold Zaf
       simp (disch:=try exact DI) only [↓PR,QR,simprocAttr,Xz.c2,(hA.c2 Eb).1]
       refine Zs (J6 _ _ rp xb.field (hR.ext Eb)) ?_
       rintro _ w5 ⟨⟨a,rfl,ha⟩,e5⟩
       have hxm:=List.mem_of_getElem? hxb
       rcases ha with ⟨rfl,hno⟩ | ⟨j,q,rfl,hj,hq⟩
       · have:=hin xb hxm
         rw [hno] at this;cases this
       obtain ⟨b',o',cs',rfl,_,hB,rfl⟩:=hel2 j _ hj
       have MV:(j:Int) < (rp.length:Int):=by have:=(List.getElem?_eq_some_iff.1 hj).1;omega
       have E5:=Eb.trans e5
       have f5:=fb.trans e5
       have hq':=Bq hq
       obtain ⟨s1,s2,s3,s4,s5⟩:=hsm xb hxm
       rw [hq'] at s3 s4 s5
       unfold Zae
       have hmod:(((mix / 2 ^ kb:Nat):Int)).tmod 2=((mix / 2 ^ kb % 2:Nat):Int):=(Int.ofNat_tmod _ 2).symm
       have QZ:∀ u:Int,u=AA rp mix kb xb→(∃ (kb_1:Nat) (n4:Int),Value.int .i64 (n+xb.factor*u) = .int .i64 n4∧Value.int .i64 ((kb+1:Nat):Int) = .int .i64 kb_1∧kb_1≤ts.length∧n4+Uq rp mix kb_1 (ts.drop kb_1)=base+Uq rp mix 0 ts ∧ -1048576 - kb_1*36028797018963968≤n4∧n4≤1048576+kb_1*36028797018963968):=by
        intro u hu
        have hmb : -36028797018963968≤xb.factor*u∧xb.factor*u≤36028797018963968:=by
         rw [hu]
         unfold AA
         rw [hq']
         split
         · exact UD s1 s2 (by omega) s5
         · exact UD s1 s2 s3 (by omega)
        refine ⟨kb+1,_,rfl,rfl,hltb,?_,by omega,by omega⟩
        rw [hdb] at hsum
        simp only [Uq] at hsum
        rw [hu]
        omega
       simp (disch:=try exact DI) only [↓PR,QR,simprocAttr,hB.c3 E5]
       rw [R3 _ _ mix .i64 kb (by omega)]
       have hmul:∀ u:Int,u=AA rp mix kb xb→IntKind.i64.wrap (xb.factor*u)=xb.factor*u∧IntKind.i64.wrap (n+xb.factor*u)=n+xb.factor*u:=by
        intro u hu
        have hmb : -36028797018963968≤xb.factor*u∧xb.factor*u≤36028797018963968:=by
         rw [hu]
         unfold AA
         rw [hq']
         split
         · exact UD s1 s2 (by omega) s5
         · exact UD s1 s2 s3 (by omega)
        exact ⟨Z0 (by omega) (by omega),Z0 (by omega) (by omega)⟩
       by_cases hbit:mix / 2 ^ kb % 2=1
       · have f6:Ext W (w5.alloc (Obj.cells #[.string xb.field,.int .i64 q.1,.int .i64 q.2] 206)):=f5.alloc _
         have E6:Ext w0 (w5.alloc (Obj.cells #[.string xb.field,.int .i64 q.1,.int .i64 q.2] 206)):=E5.alloc _
         have hu:q.2=AA rp mix kb xb:=by unfold AA;rw [if_pos hbit,hq']
         have d5:((((mix / 2 ^ kb % 2:Nat)):Int) == 1)=true:=by rw [hbit];rfl
         simp (disch:=try exact DI) only [↓PR,QR,simprocAttr,hmod,d5]
         unfold Pj
         simp (disch:=try exact DI) only [↓PR,QR,simprocAttr,Xz.c2,(hA.c2 E6).2,(hmul _ hu).1,(hmul _ hu).2]
         obtain ⟨kk,nn,h1,h2,h3,h4,h5,h6⟩:=QZ _ hu
         exact ⟨⟨kk,nn,h1,h2,h3,eb.trans (e5.alloc _),h4,h5,h6⟩,ZM (kd := .i64) hltb⟩
       · have f6:Ext W (w5.alloc (Obj.cells #[.string xb.field,.int .i64 q.1,.int .i64 q.2] 206)):=f5.alloc _
         have E6:Ext w0 (w5.alloc (Obj.cells #[.string xb.field,.int .i64 q.1,.int .i64 q.2] 206)):=E5.alloc _
         have hu:q.1=AA rp mix kb xb:=by unfold AA;rw [if_neg hbit,hq']
         have d5:((((mix / 2 ^ kb % 2:Nat)):Int) == 1)=false:=by simp only [beq_eq_false_iff_ne,ne_eq];omega
         simp (disch:=try exact DI) only [↓PR,QR,simprocAttr,hmod,d5]
         unfold Pj
         simp (disch:=try exact DI) only [↓PR,QR,simprocAttr,Xz.c2,(hA.c2 E6).2,(hmul _ hu).1,(hmul _ hu).2]
         obtain ⟨kk,nn,h1,h2,h3,h4,h5,h6⟩:=QZ _ hu
         exact ⟨⟨kk,nn,h1,h2,h3,eb.trans (e5.alloc _),h4,h5,h6⟩,ZM (kd := .i64) hltb⟩
     · subst hkb
       obtain ⟨hsum,_⟩:=hIb
       have fb:=f3.trans eb
       rw [hdb] at hsum
       simp only [Uq] at hsum
       unfold Pm
       simp (disch:=try exact DI) only [↓PR,QR,simprocAttr,Xz.c2,Ap]
       exact GF n wb (by omega) eb
   · have hme:mix=2 ^ ts.length:=by omega
     have d1:decide ((mix:Int) < ((2 ^ ts.length:Nat):Int))=false:=by simp only [decide_eq_false_iff_not];exact λ h=>hm (Int.ofNat_lt.1 h)
     simp (disch:=try exact DI) only [↓PR,QR,simprocAttr,Xz.c2,hpow,d1]
     have hpos:0 < 2 ^ ts.length:=Nat.two_pow_pos _
     have h1:=hLH (by omega)
     have h2:=hall3 mL (by omega)
     have h3:=hall3 mH (by omega)
     rw [hvL] at h2
     rw [hvH] at h3
     have e1:lo=base+Vg (Wk rp true) ts:=by omega
     have e2:hi=base+Vg (Wk rp false) ts:=by omega
     subst e1 e2
     exact ⟨rfl,E3⟩
def HQ (b a:Vl) (R:RT) (w:Wd):Prop:=
 E0 a 0 R w λ c w=>
 E0 a 1 R w λ d w=>
 opV Pg (makeFunc (.func 88) #[] #[b]) (Zh R) w λ e w=>
 C0 87 #[c,e] R w λ f w=>
 R (.returned (.tuple #[f,d])) w
def Zdq (a b:Vl) (R:RT) (w:Wd):Prop:=
 opV Pg (Instr.box 28 a) (Zh R) w λ c w=>
 opV Pg (Instr.box 4 b) (Zh R) w λ d w=>
 L0 28 c R w λ e w=>
 C0 55 #[e] R w λ f w=>
 HQ d f R w
theorem Zdr {t0 t1:Vl} {R:RT} {w:Wd} (h:Zdq t0 t1 R w):Calls Pg 51 #[t0,t1] w R:=by
 refine yD func51 ?_
 refine zs<|zr<|yv h λ _ w h=>yv h λ _ w h=>zm<|zm<|zn<|zk<|zs<|zr<|yv h λ _ w h=>yc h c55 λ _ w h=>zm<|yv h λ _ w h=>yv h λ _ w h=>?_
 refine zm<|zm<|zn<|zk<|zs<|zr<|zm<|yF h λ _ w h=>yc h c87 λ _ w h=>zm<|zm<|zm<|zn<|zk<|Ze ?_
 exact Qe rfl rfl rfl h
def PU (a b c d:Vl) (R:RT) (w:Wd):Prop:=
 opV Pg (Instr.build 90 #[(0,b),(1,c),(2,d)]) (Zh R) w λ e w=>
 S0 90 a e R w λ w=>
 qW Pg 90 a w λ r0=>
 R (.returned (.tuple #[r0,(.bool true)])) w
def Ls (c d a b:Vl) (YI:KV) (R:RT) (w:Wd):Prop:=
 B0 .neq 3 true b (.int .i64 0) R w λ e w=>
 Zq e (
 PU c d a b R w) (
 B0 .add 3 true a (.int .i64 1) R w λ f w=>
 YI f w)
def PY (c d b e f:Vl) (a:WPr) (Xs:KV) (R:RT) (w:Wd):Prop:=
 M0 30 b f a λ g=>
 I0 3 g a λ h=>
 qV Pg a (Builtin.max_ #[3,3] 3 #[e,h]) λ i=>
 M0 30 b c a λ j=>
 S0 3 j i R w λ w=>
 Xt w λ l w=>
 B0 .add 3 true d (.int .i64 1) R w λ k w=>
 Xs k w
def PZ (e b c d f:Vl) (a:WPr) (Xs:KV) (R:RT) (w:Wd):Prop:=
 M0 30 d b a λ g=>
 I0 3 g a λ h=>
 I0 28 e a λ i=>
 M0 82 f c a λ j=>
 I0 9 j a λ k=>
 C0 53 #[i,k,b] R w λ l w=>
 Wz a w λ m w=>
 PY b c d h l m Xs R w
def P0 (a b:Vl) (R:RT) (w:Wd):Prop:=
 opV Pg (Instr.build 90 #[(0,b),(1,(.int .i64 (-1))),(2,(.int .i64 10))]) (Zh R) w λ c w=>
 S0 90 a c R w λ w=>
 qW Pg 90 a w λ r0=>
 R (.returned (.tuple #[r0,(.bool true)])) w
def Lt (c a b:Vl) (ZT:KV) (R:RT) (w:Wd):Prop:=
 X0 30 b a R w λ d w=>
 L0 3 d R w λ e w=>
 B0 .add 3 true e (.int .i64 1) R w λ f w=>
 X0 30 b a R w λ g w=>
 S0 3 g f R w λ w=>
 X0 30 b a R w λ h w=>
 L0 3 h R w λ i w=>
 B0 .gtr 3 true i (.int .i64 16) R w λ j w=>
 Zq j (
 P0 c a R w) (
 B0 .add 3 true a (.int .i64 1) R w λ k w=>
 ZT k w)
def Lu (e f a b c d:Vl) (ZT:KV) (Xs:KV) (R:RT) (w:Wd):Prop:=
 G0 82 3 d R w λ g w=>
 B0 .lss 3 false b g R w λ h w=>
 Zq h (
 Yy w λ i w=>
 PZ e a b c d i Xs R w) (
 Lt f a c ZT R w)
def P1 (a b c d e:Vl) (ZT:KV) (R:RT) (w:Wd):Prop:=
 L0 24 d R w λ f w=>
 C0 54 #[f] R w λ g w=>
 YS (λ h w Xs=>
 Lu a b c h e g ZT Xs R w) (.int .i64 0) w
def P2 (c d a e b f:Vl) (ZT:KV) (YI:KV) (R:RT) (w:Wd):Prop:=
 F0 24 e 1 R w λ g w=>
 L0 22 g R w λ h w=>
 G0 22 3 h R w λ i w=>
 B0 .lss 3 false b i R w λ j w=>
 Zq j (
 L0 28 c R w λ k w=>
 C0 90 #[k,a,b] R w λ l w=>
 Ls d a b l YI R w) (
 P1 c d a e f ZT R w)
def PV (a b:Vl) (R:RT) (w:Wd):Prop:=
 opV Pg (Instr.build 90 #[(0,b),(1,(.int .i64 (-1))),(2,(.int .i64 3))]) (Zh R) w λ c w=>
 S0 90 a c R w λ w=>
 qW Pg 90 a w λ r0=>
 R (.returned (.tuple #[r0,(.bool true)])) w
def PW (c a b d e f g:Vl) (ZT:KV) (R:RT) (w:Wd):Prop:=
 Zw f (.bool true) g λ h=>
 Zq h (
 PV a b R w) (
 YS (λ i w YI=>
 P2 c a b d i e ZT YI R w) (.int .i64 0) w)
def H2 (a b:Vl) (R:RT) (w:Wd):Prop:=
 opV Pg (Instr.build 90 #[(0,b),(1,(.int .i64 (-1))),(2,(.int .i64 2))]) (Zh R) w λ c w=>
 S0 90 a c R w λ w=>
 qW Pg 90 a w λ r0=>
 R (.returned (.tuple #[r0,(.bool true)])) w
def PX (e f g a h:Vl) (ZT:KV) (R:RT) (w:Wd):Prop:=
 F0 24 a 1 R w λ i w=>
 L0 22 i R w λ j w=>
 G0 22 3 j R w λ k w=>
 B0 .lss 3 true k (.int .i64 1) R w λ c w=>
 Zr (λ (b:Vl) (w:Wd)=>
 PW e f g a h c b ZT R w) λ d=>
 Zn c false (
 F0 24 a 1 R w λ l w=>
 L0 22 l R w λ m w=>
 G0 22 3 m R w λ n w=>
 B0 .gtr 3 true n (.int .i64 40) R w λ b w=>
 d b w) (
 d undef w)
def H3 (a b:Vl) (R:RT) (w:Wd):Prop:=
 opV Pg (Instr.build 90 #[(0,b),(1,(.int .i64 (-1))),(2,(.int .i64 1))]) (Zh R) w λ c w=>
 S0 90 a c R w λ w=>
 qW Pg 90 a w λ r0=>
 R (.returned (.tuple #[r0,(.bool true)])) w
def H4 (b c a d e:Vl) (ZT:KV) (R:RT) (w:Wd):Prop:=
 L0 28 b R w λ f w=>
 F0 24 d 0 R w λ g w=>
 L0 9 g R w λ h w=>
 C0 53 #[f,h,a] R w λ i w=>
 B0 .geq 3 true i (.int .i64 0) R w λ j w=>
 Zq j (
 H2 c a R w) (
 PX b c a d e ZT R w)
def H5 (a:Vl) (R:RT) (w:Wd):Prop:=
 opV Pg (Instr.build 90 #[(0,(.int .i64 (-1))),(1,(.int .i64 (-1))),(2,(.int .i64 11))]) (Zh R) w λ b w=>
 S0 90 a b R w λ w=>
 qW Pg 90 a w λ r0=>
 R (.returned (.tuple #[r0,(.bool true)])) w
def H6 (a:Vl) (R:RT) (w:Wd):Prop:=
 opV Pg (Instr.build 90 #[]) (Zh R) w λ b w=>
 S0 90 a b R w λ w=>
 qW Pg 90 a w λ r0=>
 R (.returned (.tuple #[r0,(.bool false)])) w
def H7 (a b:Vl) (R:RT) (w:Wd):Prop:=
 L0 28 a R w λ c w=>
 F0 28 a 2 R w λ d w=>
 L0 9 d R w λ e w=>
 F0 28 a 1 R w λ f w=>
 L0 26 f R w λ g w=>
 G0 26 3 g R w λ h w=>
 C0 53 #[c,e,h] R w λ i w=>
 B0 .lss 3 true i (.int .i64 0) R w λ j w=>
 Zq j (
 H5 b R w) (
 H6 b R w)
def H8 (c d a e:Vl) (ZT:KV) (R:RT) (w:Wd):Prop:=
 F0 28 c 1 R w λ f w=>
 L0 26 f R w λ g w=>
 X0 26 g a R w λ h w=>
 L0 24 h R w λ i w=>
 opV Pg (Instr.alloc 24 true (.tuple #[])) (Zh R) w λ b w=>
 S0 24 b i R w λ w=>
 F0 24 b 0 R w λ j w=>
 L0 9 j R w λ k w=>
 C0 89 #[k] R w λ l w=>
 N0 l R w λ m w=>
 Zq m (
 H3 d a R w) (
 H4 c d a b e ZT R w)
def H9 (a b c d:Vl) (ZT:KV) (R:RT) (w:Wd):Prop:=
 F0 28 a 1 R w λ e w=>
 L0 26 e R w λ f w=>
 G0 26 3 f R w λ g w=>
 B0 .lss 3 false c g R w λ h w=>
 Zq h (
 H8 a b c d ZT R w) (
 H7 a b R w)
def Ia (a:Vl) (R:RT) (w:Wd):Prop:=
 opV Pg (Instr.build 90 #[(0,(.int .i64 (-1))),(1,(.int .i64 (-1))),(2,(.int .i64 3))]) (Zh R) w λ b w=>
 S0 90 a b R w λ w=>
 qW Pg 90 a w λ r0=>
 R (.returned (.tuple #[r0,(.bool true)])) w
def Ib (a c:Vl) (R:RT) (w:Wd):Prop:=
 F0 28 a 1 R w λ d w=>
 L0 26 d R w λ e w=>
 G0 26 3 e R w λ b w=>
 opV Pg (Instr.makeSlice 30 b b) (Zh R) w λ f w=>
 YS (λ g w ZT=>
 H9 a c g f ZT R w) (.int .i64 0) w
def Ic (a:Vl) (R:RT) (w:Wd):Prop:=
 opV Pg (Instr.build 90 #[(0,(.int .i64 (-1))),(1,(.int .i64 (-1))),(2,(.int .i64 1))]) (Zh R) w λ b w=>
 S0 90 a b R w λ w=>
 qW Pg 90 a w λ r0=>
 R (.returned (.tuple #[r0,(.bool true)])) w
def Ie (a c:Vl) (R:RT) (w:Wd):Prop:=
 F0 28 a 1 R w λ f w=>
 L0 26 f R w λ g w=>
 G0 26 3 g R w λ h w=>
 B0 .lss 3 true h (.int .i64 1) R w λ d w=>
 Zr (λ (b:Vl) (w:Wd)=>
 Zw d (.bool true) b λ i=>
 Zq i (
 Ia c R w) (
 Ib a c R w)) λ e=>
 Zn d false (
 F0 28 a 1 R w λ j w=>
 L0 26 j R w λ k w=>
 G0 26 3 k R w λ l w=>
 B0 .gtr 3 true l (.int .i64 60) R w λ b w=>
 e b w) (
 e undef w)
def n22 (c:Vl) (R:RT) (w:Wd):Prop:=
 opV Pg (Instr.box 28 c) (Zh R) w λ a w=>
 opV Pg (Instr.alloc 90 true (.tuple #[])) (Zh R) w λ b w=>
 F0 28 a 0 R w λ d w=>
 L0 9 d R w λ e w=>
 C0 89 #[e] R w λ f w=>
 N0 f R w λ g w=>
 Zq g (
 Ic b R w) (
 Ie a b R w)
set_option maxHeartbeats 40000000 in
theorem Zh4 {t0:Vl} {R:RT} {w:Wd} (h:n22 t0 R w):Calls Pg 52 #[t0] w R:=by
 refine yD func52 ?_
 refine zs<|zr<|yv h λ _ w h=>yv h λ _ w h=>zm<|zn<|zk<|zs<|zs<|zr<|yv h λ _ w h=>yv h λ _ w h=>yc h c89 λ _ w h=>yv h λ _ w h=>zn ?_
 refine zk<|yC h (λ h=>zs<|zr<|yB h λ _ w h=>yu h λ w h=>zm<|zn<|zk<|Ze<|Zb<|Yw rfl rfl rfl h) λ h=>Zi<|zk<|zs<|zs<|Zu<|yG 5<|yv h λ _ w h=>yv h λ _ w h=>yx h λ _ w h=>yb h λ _ w h=>zm<|zn ?_
 refine yg1 4 4 false [21,22,23,24] 24 h (λ _ T hT h=>?_) λ σ w h=>?_
 · refine yv h λ _ w h=>yv h λ _ w h=>yx h λ _ w h=>yb h λ _ w h=>zn ?_
   exact zt hT h
 refine yG 1<|yp h λ _ h=>zn<|ZQ<|zk<|yC h (λ h=>zs<|zr<|yB h λ _ w h=>yu h λ w h=>zm<|zn<|zk<|Ze<|Zb<|Yw rfl rfl rfl h) λ h=>Zi<|zk<|zs<|zr<|yv h λ _ w h=>yv h λ _ w h=>yx h λ _ w h=>yv h λ _ w h=>?_
 refine zm<|zn<|zk<|zs<|zs<|zr<|zm<|zn<|zk<|Zj<|yl1 [3,5,6,7,8,9,10,31,32,33,34,35,36,37,38,39,40,41,42,43,44,45,46,47,48,49,50,51,52,53,54,55,56,57,58,59,60,61,62,63,64,65,66,67,68,69,70,71,72,73,74,75,76,77,78,79,80,81,82,83,84,85,86,87,88,89,90,91,92,93,94,95,96,97,98,99,100,101,102,103,104,105,106,107,108,109,110,111,112,113,114,115,116,117,118,119,120,121,122,123,124] 5 h λ σ w next h=>zs<|zs<|zr<|zm ?_
 refine yv h λ _ w h=>yv h λ _ w h=>yx h λ _ w h=>yb h λ _ w h=>zn<|zk<|yC h (λ h=>?_) λ h=>?_
 · refine Zi<|zk<|zs<|Zj<|zs<|zr<|yv h λ _ w h=>yv h λ _ w h=>zm<|yv h λ _ w h=>yv h λ _ w h=>yv h λ _ w h=>yu h λ w h=>zn<|zk ?_
   refine zs<|zs<|zr<|yv h λ _ w h=>yv h λ _ w h=>yc h c89 λ _ w h=>yv h λ _ w h=>zn<|zk<|yC h (λ h=>?_) λ h=>?_
   · refine zs<|zr<|zm<|yB h λ _ w h=>yu h λ w h=>zm<|zn<|zk<|Ze<|Zb<|Zf<|Zb<|Zb<|Zf<|Zb ?_
     exact Yw rfl rfl rfl h
   refine Zi<|zk<|zs<|zs<|zr<|yv h λ _ w h=>yv h λ _ w h=>yv h λ _ w h=>zm<|yc h c53 λ _ w h=>yb h λ _ w h=>zn<|zk<|yC h (λ h=>?_) λ h=>?_
   · refine zs<|zr<|zm<|yB h λ _ w h=>yu h λ w h=>zm<|zn<|zk<|Ze<|Zb<|Zf<|Zb<|Zb<|Zf<|Zb ?_
     exact Yw rfl rfl rfl h
   refine Zi<|zk<|zs<|zs<|Zu<|yG 5<|yv h λ _ w h=>yv h λ _ w h=>yx h λ _ w h=>yb h λ _ w h=>zm<|zn<|yg1 4 4 false [62,63,64,65] 65 h (λ _ T hT h=>?_) λ σ w h=>?_
   · refine yv h λ _ w h=>yv h λ _ w h=>yx h λ _ w h=>yb h λ _ w h=>zn ?_
     exact zt hT h
   refine yG 1<|yp h λ _ h=>zn<|ZQ<|zk<|yC h (λ h=>?_) λ h=>?_
   · refine zs<|zr<|zm<|yB h λ _ w h=>yu h λ w h=>zm<|zn<|zk<|Ze<|Zb<|Zf<|Zb<|Zb<|Zf<|Zb ?_
     exact Yw rfl rfl rfl h
   refine Zi<|zk<|zs<|zs<|zr<|zm<|zn<|zk<|Zj<|yl1 [3,7,8,69,70,71,72,73,74,75,76,77,78,79,80,81,82,83,84,85] 7 h λ σ w next h=>zs<|zs<|zr<|zm<|yv h λ _ w h=>?_
   refine yv h λ _ w h=>yx h λ _ w h=>yb h λ _ w h=>zn<|zk<|yC h (λ h=>?_) λ h=>?_
   · refine Zi<|zk<|zs<|Zj<|zs<|zr<|yv h λ _ w h=>zm<|zm<|yc h c90 λ _ w h=>zm<|zn<|zk<|zs<|zr ?_
     refine zm<|yb h λ _ w h=>zn<|zk<|yC h (λ h=>?_) λ h=>?_
     · refine zs<|zr<|zm<|zm<|zm<|yB h λ _ w h=>yu h λ w h=>zm<|zn<|zk<|Ze<|Zf<|Zb<|Zb<|Zf ?_
       exact Zb<|Zf<|Zb<|Zb<|Zf<|Zb<|Yw rfl rfl rfl h
     exact Zi<|Zg<|zk<|zr<|zm<|yb h λ _ w h=>zm<|zn<|zk<|⟨rfl,h⟩
   refine ZA<|Zc<|Zc<|Zp<|zk<|zs<|zr<|yv h λ _ w h=>yc h c54 λ _ w h=>zm<|zn<|zk<|zs<|zs<|zr ?_
   refine zm<|zn<|zk<|Zj<|yl1 [10,88,89,90,91,92,93,94,95,96,97,98,99,100,101,102,103,104,105,106,107,108,109,110,111] 10 h λ σ w next h=>zs<|zs<|zr<|zm<|zm<|yx h λ _ w h=>yb h λ _ w h=>zn<|zk<|yC h (λ h=>?_) λ h=>?_
   · refine Zi<|zk<|zs<|Zj<|yh [94,95,96,97,98,99,100,101,102,103,104,105,106,107,108,109,110,111] h λ C hC h=>yw 0 hC ?_
     refine yw 1 hC ?_
     refine yw 2 hC ?_
     refine yw 3 hC ?_
     refine ye 4 hC h λ _ h=>?_
     refine ye 5 hC h λ _ h=>?_
     refine yw 6 hC ?_
     refine ye 7 hC h λ _ h=>?_
     refine yw 8 hC ?_
     refine yw 9 hC ?_
     refine ye 10 hC h λ _ h=>?_
     refine ye 11 hC h λ _ h=>?_
     refine yw 12 hC ?_
     refine yr 13 ?_
     refine yc h c53 λ _ w h=>zn ?_
     obtain ⟨C7,hs,hC,h⟩:=h
     refine ⟨C7,hs,hC,?_⟩
     refine ye 14 hC h λ _ h=>?_
     refine ye 15 hC h λ _ h=>?_
     refine ye 16 hC h λ _ h=>?_
     refine ye 17 hC h λ _ h=>?_
     refine yq 18 1 ?_
     refine yu h λ w h=>zn ?_
     obtain ⟨C8,hC,h⟩:=h
     refine ⟨C8,hC,?_⟩
     exact yz<|Zg<|zk<|zr<|zm<|yb h λ _ w h=>zm<|zn<|zk<|⟨rfl,h⟩
   refine ZA<|Zc<|Zc<|Zp<|zk<|zs<|zr<|zm<|zm<|yv h λ _ w h=>yv h λ _ w h=>yb h λ _ w h=>yv h λ _ w h=>yu h λ w h=>zn ?_
   refine zk<|zs<|zr<|zm<|zm<|yv h λ _ w h=>yv h λ _ w h=>yb h λ _ w h=>zn<|zk<|yC h (λ h=>zs<|zr<|zm<|yB h λ _ w h=>yu h λ w h=>zm<|zn<|zk<|Ze<|Zf<|Zb<|Zb<|Zf<|Zb<|Yw rfl rfl rfl h) λ h=>Zi<|Zg<|zk ?_
   exact zr<|zm<|yb h λ _ w h=>zm<|zn<|zk<|⟨rfl,h⟩
 refine ZA<|Zc<|Zc<|Zp<|zk<|zs<|zs<|zr<|yv h λ _ w h=>yv h λ _ w h=>yv h λ _ w h=>yv h λ _ w h=>yv h λ _ w h=>yx h λ _ w h=>yc h c53 λ _ w h=>?_
 refine yb h λ _ w h=>zn<|zk<|yC h (λ h=>zs<|zr<|yB h λ _ w h=>yu h λ w h=>zm<|zn<|zk<|Ze<|Zb<|Yw rfl rfl rfl h) λ h=>Zi<|zk<|zs<|zr<|yB h λ _ w h=>yu h λ w h=>zm<|zn<|zk<|Ze ?_
 exact Yw rfl rfl rfl h
def P4 (b c a:Vl) (Zo:KV) (R:RT) (w:Wd):Prop:=
 F0 28 c 1 R w λ d w=>
 L0 26 d R w λ e w=>
 X0 26 e a R w λ f w=>
 F0 24 f 0 R w λ g w=>
 L0 9 g R w λ h w=>
 B0 .eql 9 false h b R w λ i w=>
 Zq i (
 R (.returned a) w) (
 B0 .add 3 true a (.int .i64 1) R w λ j w=>
 Zo j w)
def n24 (b c d:Vl) (R:RT) (w:Wd):Prop:=
 opV Pg (Instr.box 28 b) (Zh R) w λ e w=>
 YS (λ a w Zo=>
 B0 .lss 3 false a d R w λ f w=>
 Zq f (
 P4 c e a Zo R w) (
 R (.returned (.int .i64 (-1))) w)) (.int .i64 0) w
theorem Zh6 {t0 t1 t2:Vl} {R:RT} {w:Wd} (h:n24 t0 t1 t2 R w):Calls Pg 53 #[t0,t1,t2] w R:=by
 refine yD func53 ?_
 refine zs<|zr<|yv h λ _ w h=>zm<|zn<|zk<|zs<|zs<|zr<|zm<|zn<|zk<|Zj<|yl1 [6,7,8,9,10,11,12,13,14,15,16,17,18,19,20,21] 7 h λ σ w next h=>zs ?_
 refine zs<|zr<|zm<|zm<|yb h λ _ w h=>zn<|zk<|yC h (λ h=>?_) λ h=>?_
 · refine Zi<|zk<|zs<|Zj<|zs<|zr<|yv h λ _ w h=>yv h λ _ w h=>zm<|yv h λ _ w h=>yv h λ _ w h=>yv h λ _ w h=>zm<|yb h λ _ w h=>zn ?_
   exact zk<|yC h (λ h=>zs<|zr<|zm<|zm<|zn<|zk<|Ze<|Zf<|Zb<|Zb<|Zf<|Zb<|Zk rfl rfl h) λ h=>Zi<|Zg<|zk<|zr<|zm<|yb h λ _ w h=>zm<|zn<|zk<|⟨rfl,h⟩
 exact ZA<|Zc<|Zc<|Zp<|zk<|zs<|zr<|zm<|zn<|zk<|Ze<|Zk rfl rfl h
theorem xi {α:Type} {l:List α} {n k:Nat} {x:α} (h:(l.take n)[k]?=some x):l[k]?=some x:=by
 rw [List.getElem?_take] at h
 split at h
 · exact h
 · cases h
theorem XG (w0:Wd) (v:Vl) (d:YQ) (s:BAr) (n:Nat) (hd:YT w0 v d) (hn:n≤d.msgs.length) :
 Ret Pg 53 #[v,.string s,.int .i64 (n:Int)] w0 λ r w'=>r = .int .i64 (idx (λ m=>decide (m.name=s)) (d.msgs.take n))∧Ext w0 w':=by
 obtain ⟨mv,rfl,hM⟩:=hd
 obtain ⟨A,c,rfl,hlc,hcm,hlm,Y3⟩:=Zd.open hM
 have Xl:(d.msgs.take n).length=n:=by rw [List.length_take];omega
 refine Zh6 (R:=ZO _) ?_;unfold n24
 simp (disch:=try exact DI) only [↓PR,QR,simprocAttr]
 generalize hW:World.alloc w0 _=W
 have e0:Ext w0 W:=by rw [← hW];exact ee
 have o3:W.heap[w0.heap.size]?=some (.cells #[.string d.name,.slice A d.msgs.length c,.string d.start] 28 (0,0)):=by rw [← hW];simp (disch:=try exact DI) only [↓PR,QR,simprocAttr]
 clear hW
 refine ZF (λ a0 w=>∃ (k:Nat) , a0 = .int .i64 (k:Int)∧k≤(d.msgs.take n).length∧Ext W w∧∀ (j:Nat) y,j < k→(d.msgs.take n)[j]?=some y→decide (y.name=s)=false) (λ a0 _=>(d.msgs.take n).length - (intOf a0).toNat) ⟨0,rfl,Nat.zero_le _,ee,λ j y h=>by omega⟩ ?_
 rintro _ w ⟨k,rfl,hk,e,hI⟩
 have se:=e.size
 rcases ZD hk with ⟨x,hx,hd,Yv,ZJ⟩ | ⟨hk,hd,ZJ⟩
 · obtain ⟨b,o,cs,rfl,_,hA,hE⟩:=Y3 k x (xi hx)
   obtain ⟨fv,rfl,hF⟩:=hE
   rw [Xl] at ZJ Yv
   have hlt':k < d.msgs.length:=by omega
   have e0':=e0.trans e
   simp (disch:=try exact DI) only [↓PR,QR,simprocAttr,↓P4,ZJ,(Za (e.obj o3)).1,hA.c2]
   cases hp:decide (x.name=s) with
   | true=>
    simp (disch:=try exact DI) only [↓PR,QR,simprocAttr]
    exact ⟨by rw [WU hx hp hI],e0'⟩
   | false=>
    simp (disch:=try exact DI) only [↓PR,QR,simprocAttr]
    have Yv:k < (d.msgs.take n).length:=by omega
    exact ⟨⟨k+1,rfl,by omega,ee,V8 hI hx hp⟩,ZM (kd := .i64) Yv⟩
 · rw [Xl] at hk ZJ
   subst hk
   simp (disch:=try exact DI) only [↓PR,QR,simprocAttr,↓P4,ZJ]
   exact ⟨by rw [Ud λ j y hy=>hI j y (by have:=(List.getElem?_eq_some_iff.1 hy).1;omega) hy],e0.trans e⟩
theorem Jb (w0:Wd) (v:Vl) (d:ZC) (s:BAr) (n:Nat) (hd:Qr w0 v d) (hn:n≤d.fields.length) :
 Ret Pg 45 #[v,.string s,.int .i64 (n:Int)] w0 λ r w'=>r = .int .i64 (idx (λ m=>decide (m.name=s)) (d.fields.take n))∧Ext w0 w':=by
 obtain ⟨mv,rfl,hM⟩:=hd
 obtain ⟨A,c,rfl,hlc,hcm,hlm,Y3⟩:=Zd.open hM
 have Xl:(d.fields.take n).length=n:=by rw [List.length_take];omega
 refine Zh5 (R:=ZO _) ?_;unfold n23
 simp (disch:=try exact DI) only [↓PR,QR,simprocAttr]
 generalize hW:World.alloc w0 _=W
 have e0:Ext w0 W:=by rw [← hW];exact ee
 have o3:W.heap[w0.heap.size]?=some (.cells #[.string d.name,.slice A d.fields.length c] 24 (0,0)):=by rw [← hW];simp (disch:=try exact DI) only [↓PR,QR,simprocAttr]
 clear hW
 refine ZF (λ a0 w=>∃ (k:Nat) , a0 = .int .i64 (k:Int)∧k≤(d.fields.take n).length∧Ext W w∧∀ (j:Nat) y,j < k→(d.fields.take n)[j]?=some y→decide (y.name=s)=false) (λ a0 _=>(d.fields.take n).length - (intOf a0).toNat) ⟨0,rfl,Nat.zero_le _,ee,λ j y h=>by omega⟩ ?_
 rintro _ w ⟨k,rfl,hk,e,hI⟩
 have se:=e.size
 rcases ZD hk with ⟨x,hx,hd,Yv,ZJ⟩ | ⟨hk,hd,ZJ⟩
 · obtain ⟨b,o,cs,rfl,_,hA,hE⟩:=Y3 k x (xi hx)
   obtain ⟨tv,cv,rfl,hT,hC,ht1,hc1⟩:=hE.op
   rw [Xl] at ZJ Yv
   have hlt':k < d.fields.length:=by omega
   have e0':=e0.trans e
   simp (disch:=try exact DI) only [↓PR,QR,simprocAttr,↓P3,ZJ,(Za (e.obj o3)).1,hA.c15]
   cases hp:decide (x.name=s) with
   | true=>
    simp (disch:=try exact DI) only [↓PR,QR,simprocAttr]
    exact ⟨by rw [WU hx hp hI],e0'⟩
   | false=>
    simp (disch:=try exact DI) only [↓PR,QR,simprocAttr]
    have Yv:k < (d.fields.take n).length:=by omega
    exact ⟨⟨k+1,rfl,by omega,ee,V8 hI hx hp⟩,ZM (kd := .i64) Yv⟩
 · rw [Xl] at hk ZJ
   subst hk
   simp (disch:=try exact DI) only [↓PR,QR,simprocAttr,↓P3,ZJ]
   exact ⟨by rw [Ud λ j y hy=>hI j y (by have:=(List.getElem?_eq_some_iff.1 hy).1;omega) hy],e0.trans e⟩
def ZS (s:BAr) (c:Int):Bool:=s.data.toList.any (λ x=>(x.toNat:Int) == c)
theorem Sf (w0:Wd) (s:BAr) (c:Int) (hl:s.size≤9223372036854775806):Ret Pg 147 #[.string s,.int .u8 c] w0 λ r w'=>r = .bool (ZS s c)∧w'=w0:=by
 have VF:s.data.toList.length=s.size:=by rw [Array.length_toList];rfl
 refine Zie (R:=ZO _) ?_;unfold n32
 refine ZF (λ i w'=>∃ k:Nat,i = .int .i64 k∧k≤s.data.toList.length∧w'=w0∧(s.data.toList.drop k).any (λ x=>(x.toNat:Int) == c)=ZS s c) (λ i _=>s.data.toList.length - (intOf i).toNat) ⟨0,rfl,by omega,rfl,rfl⟩ ?_
 rintro _ w2 ⟨k,rfl,hk,rfl,hI⟩
 unfold ZaB
 rcases ZD hk with ⟨x,hx,hd,Yv,ZJ⟩ | ⟨hk,hd,ZJ⟩
 · rw [VF] at ZJ
   rw [hd,List.any_cons] at hI
   simp (disch:=try exact DI) only [↓PR,QR,simprocAttr,ZJ]
   unfold ZaA
   rw [qh underlying9 s .i64 k hx]
   cases hb:((x.toNat:Int) == c) with
   | true=>
    rw [hb] at hI
    simp (disch:=try exact DI) only [↓PR,QR,simprocAttr,hb]
    exact ⟨by rw [← hI];rfl,by trivial⟩
   | false=>
    rw [hb] at hI
    simp (disch:=try exact DI) only [↓PR,QR,simprocAttr,hb]
    exact ⟨⟨k+1,rfl,Yv,by trivial,by simpa using hI⟩,ZM (kd := .i64) Yv⟩
 · rw [VF] at ZJ
   rw [hd] at hI
   simp (disch:=try exact DI) only [↓PR,QR,simprocAttr,ZJ]
   exact ⟨by rw [← hI];rfl,by trivial⟩
theorem Nh (w0:Wd) (lo hi:Int):Ret Pg 149 #[.int .i64 lo,.int .i64 hi] w0 λ r w'=>r = .bool (WX lo hi)∧Ext w0 w':=by
 refine Zik (R:=ZO _) ?_;unfold n39
 unfold WX
 by_cases h1:0≤lo
 · have d1:decide (lo≥0)=true:=by simpa using h1
   by_cases h2:lo≤hi
   · have d2:decide (lo≤hi)=true:=by simpa using h2
     simp (disch:=try exact DI) only [↓PR,QR,simprocAttr,d1,d2]
     unfold Ly
     simp (disch:=try exact DI) only [↓PR,QR,simprocAttr]
     exact ⟨by simp [h1,h2],Ext.refl _⟩
   · have d2:decide (lo≤hi)=false:=by simpa using h2
     simp (disch:=try exact DI) only [↓PR,QR,simprocAttr,d1,d2]
     unfold Ly
     simp (disch:=try exact DI) only [↓PR,QR,simprocAttr]
     exact ⟨by simp [h2],Ext.refl _⟩
 · have d1:decide (lo≥0)=false:=by simpa using h1
   simp (disch:=try exact DI) only [↓PR,QR,simprocAttr,d1]
   unfold Ly
   simp (disch:=try exact DI) only [↓PR,QR,simprocAttr]
   exact ⟨by simp [h1],Ext.refl _⟩
def Zx (k:Int):BAr:=if k=1 then ⟨#[98,108,120,104]⟩ else if k=2 then ⟨#[98,108,120]⟩ else if k=3 then ⟨#[111,120,104]⟩ else if k=4 then ⟨#[115]⟩ else if k=5 then ⟨#[120,104]⟩ else if k=6 then ⟨#[111,104]⟩ else if k=7 then ⟨#[102,115]⟩ else if k=8 then ⟨#[102]⟩ else if k=9 then ⟨#[116,99]⟩ else if k=10 then ⟨#[98]⟩ else if k=11 then ⟨#[114,107]⟩ else if k=12 then ⟨#[102,115,121]⟩ else ByteArray.empty
theorem Ng (w0:Wd) (k:Int) (h1:1≤k) (h2:k≤12):Ret Pg 146 #[.int .i64 k] w0 λ r w'=>r = .string (Zx k)∧Ext w0 w':=by
 refine Zij (R:=ZO _) ?_;unfold n38
 obtain ⟨n,rfl⟩:∃ n:Nat,k=n:=⟨k.toNat,by omega⟩
 have:n=1∨n=2∨n=3∨n=4∨n=5∨n=6∨n=7∨n=8∨n=9∨n=10∨n=11∨n=12:=by omega
 have hn:(n:Int) < ((13:Nat):Int):=by omega
 have hget:[Value.string ⟨#[]⟩,.string ⟨#[98,108,120,104]⟩,.string ⟨#[98,108,120]⟩,.string ⟨#[111,120,104]⟩,.string ⟨#[115]⟩,.string ⟨#[120,104]⟩,.string ⟨#[111,104]⟩,.string ⟨#[102,115]⟩,.string ⟨#[102]⟩,.string ⟨#[116,99]⟩,.string ⟨#[98]⟩,.string ⟨#[114,107]⟩,.string ⟨#[102,115,121]⟩][n*1]?=some (.string (Zx (n:Int))):=by
  rcases this with rfl | rfl | rfl | rfl | rfl | rfl | rfl | rfl | rfl | rfl | rfl | rfl<;>rfl
 simp (disch:=try exact DI) only [↓PR,QR,simprocAttr,hget]
 exact ⟨by first | trivial | rfl,ee⟩
theorem F6 (w0:Wd) (v:Vl) (m:ZC) (s:BAr) (n:Nat) (hm:Qr w0 v m) (hn:n≤m.fields.length):Ret Pg 151 #[v,.string s,.int .i64 (n:Int)] w0 λ r w'=>r = .bool ((m.fields.take n).any (WB s))∧Ext w0 w':=by
 obtain ⟨fv,rfl,hF⟩:=hm
 obtain ⟨A,c,rfl,hlc,hcm,hlm,Y3⟩:=Zd.open hF
 refine Zii (R:=ZO _) ?_;unfold n37
 simp (disch:=try exact DI) only [↓PR,QR,simprocAttr]
 have Xz:=Z6.new (w:=w0) (Z8 m (.slice A m.fields.length c)) (24)
 have eW:Ext w0 (w0.alloc (Obj.cells (List.toArray (Z8 m (.slice A m.fields.length c))) (24))):=(Ext.refl _).alloc _
 generalize (w0.alloc (Obj.cells (List.toArray (Z8 m (.slice A m.fields.length c))) (24)))=W at Xz eW ⊢
 have Xl:(m.fields.take n).length=n:=by rw [List.length_take];omega
 refine ZF (λ i w'=>∃ k:Nat,i = .int .i64 k∧k≤n∧Ext W w'∧∀ j x,j < k→m.fields[j]?=some x→WB s x=false) (λ i _=>n - (intOf i).toNat) ⟨0,rfl,by omega,Ext.refl _,by intro j x h;omega⟩ ?_
 rintro _ w ⟨k,rfl,hk,e,hI⟩
 have E:=eW.trans e
 by_cases hkn:k < n
 · obtain ⟨x,hx⟩:=getElem?_lt (l:=m.fields) (k:=k) (by omega)
   obtain ⟨b,o,cs,rfl,hl,hA,hE⟩:=Y3 k x hx
   obtain ⟨tv,cv,rfl,hT,hC,ht1,hc1⟩:=hE.op
   have Xr:=hA.c15 E
   have d1:decide ((k:Int) < (n:Int))=true:=by simp;omega
   have hkl:(k:Int) < (m.fields.length:Int):=by omega
   have stop:WB s x=true→(m.fields.take n).any (WB s)=true:=λ h=>List.any_eq_true.2 ⟨x,List.mem_of_getElem? (i:=k) (by rw [List.getElem?_take,if_pos hkn];exact hx),h⟩
   have next:WB s x=false→∀ w',Ext W w'→(∃ k_1:Nat,Value.int .i64 ((k+1:Nat):Int) = .int .i64 k_1∧k_1≤n∧Ext W w'∧∀ j x,j < k_1→m.fields[j]?=some x→WB s x=false)∧n - (intOf (Value.int .i64 ((k+1:Nat):Int))).toNat < n - (intOf (Value.int .i64 (k:Int))).toNat:=by
    intro h w' e'
    refine ⟨⟨k+1,rfl,hkn,e',λ j y hj hy=>?_⟩,ZM (kd := .i64) hkn⟩
    by_cases hjk:j=k
    · subst hjk;rw [hx] at hy;injection hy with hy;subst hy;exact h
    · exact hI j y (by omega) hy
   simp (disch:=try exact DI) only [↓PR,QR,simprocAttr,d1]
   unfold ZaK
   cases hk9:(x.kind == 9) with
   | false=>
    simp (disch:=try exact DI) only [↓PR,QR,simprocAttr,Xz.c2,Xr,hk9]
    exact next (by unfold WB;rw [hk9];rfl) _ e
   | true=>
    by_cases hs:x.tag=s
    · simp (disch:=try exact DI) only [↓PR,QR,simprocAttr,Xz.c2,Xr,hk9,show decide (x.tag=s)=true by simp [hs]]
      exact ⟨by rw [stop (by unfold WB;rw [hk9];simp [hs])],E⟩
    · simp (disch:=try exact DI) only [↓PR,QR,simprocAttr,Xz.c2,Xr,hk9,show decide (x.tag=s)=false by simp [hs]]
      exact next (by unfold WB;simp [hs]) _ e
 · have hke:k=n:=by omega
   subst hke
   have d1:decide ((k:Int) < (k:Int))=false:=by simp
   simp (disch:=try exact DI) only [↓PR,QR,simprocAttr,d1]
   refine ⟨?_,E⟩
   congr 1
   symm
   rw [List.any_eq_false]
   intro x hx
   obtain ⟨j,hj⟩:=List.getElem?_of_mem hx
   rw [List.getElem?_take] at hj
   split at hj
   · rw [hI j x (by assumption) hj];decide
   · cases hj
def jA (f:Zl):Int:=if Xo f then (if f.low < 0∨f.low > (if f.kind=2 then f.low else f.high)∨(if f.kind=2 then f.low else f.high)≥2 ^ f.bits.toNat then 7 else 0) else 6
theorem RI {f:Zl} (h:f.kind=1):jA f=orC (Yj (Xo f) 6) (Z2 (Ky f) 0 [f.low,f.high]):=by
 unfold jA Ky
 have h2:¬ f.kind=2:=by omega
 simp only [if_neg h2]
 clear h h2
 cases Xo f with
 | false=>rfl
 | true=>
  have hp:(0:Int) < 2 ^ f.bits.toNat:=Int.pow_pos (by decide)
  generalize (2:Int) ^ f.bits.toNat=q at *
  simp only [Yj,if_true,orC,Z2]
  split<;>simp only [Bool.and_eq_true,decide_eq_true_eq]<;>(repeat' split)<;>first | rfl | omega | (simp only [Bool.and_eq_true,decide_eq_true_eq] at *;omega)
theorem RJ {f:Zl} (h:f.kind=2):jA f=orC (Yj (Xo f) 6) (Z2 (Ky f) 0 [f.low]):=by
 unfold jA Ky
 simp only [if_pos h]
 clear h
 cases Xo f with
 | false=>rfl
 | true=>
  have hp:(0:Int) < 2 ^ f.bits.toNat:=Int.pow_pos (by decide)
  generalize (2:Int) ^ f.bits.toNat=q at *
  simp only [Yj,if_true,orC,Z2]
  split<;>simp only [Bool.and_eq_true,decide_eq_true_eq]<;>(repeat' split)<;>first | rfl | omega | (simp only [Bool.and_eq_true,decide_eq_true_eq] at *;omega)
theorem jo (w0:Wd) (v:Vl) (f:Zl) (hf:Yh w0 v f):Ret Pg 148 #[v] w0 λ r w'=>r = .int .i64 (jA f)∧Ext w0 w':=by
 obtain ⟨tv,cv,rfl,hT,hC,ht1,hc1⟩:=hf.op
 refine Zig (R:=ZO _) ?_;unfold n35
 simp (disch:=try exact DI) only [↓PR,QR,simprocAttr]
 have Xz:=Z6.new (w:=w0) (Zm f tv cv) (48)
 have eW:Ext w0 (w0.alloc (Obj.cells (List.toArray (Zm f tv cv)) (48))):=(Ext.refl _).alloc _
 generalize (w0.alloc (Obj.cells (List.toArray (Zm f tv cv)) (48)))=W at Xz eW ⊢
 have Xr:=Xz.c15 (Ext.refl W)
 have hbad:Xo f=false→Value.int .i64 6 = .int .i64 (jA f):=λ h=>by unfold jA;rw [h];rfl
 by_cases h1:f.bits < 1
 · have d1:decide (f.bits < 1)=true:=by simpa using h1
   simp (disch:=try exact DI) only [↓PR,QR,simprocAttr,Xr,d1,↓AS,↓Fs,↓Ft,↓qT,↓qU,↓qX,↓qZ,↓ja]
   exact ⟨hbad (by unfold Xo;simp;omega),eW⟩
 have d1:decide (f.bits < 1)=false:=by simpa using h1
 by_cases h2:f.bits > 32
 · have d2:decide (f.bits > 32)=true:=by simpa using h2
   simp (disch:=try exact DI) only [↓PR,QR,simprocAttr,Xr,d1,d2,↓AS,↓Fs,↓Ft,↓qT,↓qU,↓qX,↓qZ,↓ja]
   exact ⟨hbad (by unfold Xo;simp;omega),eW⟩
 have d2:decide (f.bits > 32)=false:=by simpa using h2
 have hsh:IntKind.i64.wrap (1*2 ^ f.bits.toNat)=2 ^ f.bits.toNat:=by
  have hle:f.bits.toNat≤32:=by omega
  have hq:(2:Nat) ^ f.bits.toNat≤2 ^ 32:=Nat.pow_le_pow_right (by decide) hle
  have hc:(2:Int) ^ f.bits.toNat=((2 ^ f.bits.toNat:Nat):Int):=by simp
  rw [Int.one_mul,hc]
  generalize (2:Nat) ^ f.bits.toNat=q at *
  have:(2:Nat) ^ 32=4294967296:=rfl
  exact Z0 (by omega) (by omega)
 have hrest:Xo f=true→Ft (.pointer (some ⟨w0.heap.size,0,none⟩)) (ZO λ r w'=>r = .int .i64 (jA f)∧Ext w0 w') W:=by
  intro hb
  have hv:jA f=if f.low < 0∨f.low > (if f.kind=2 then f.low else f.high)∨(if f.kind=2 then f.low else f.high)≥2 ^ f.bits.toNat then 7 else 0:=by unfold jA;rw [if_pos hb]
  rw [hv]
  clear hv
  have tail:∀ top:Int,top=(if f.kind=2 then f.low else f.high)→Fs (.pointer (some ⟨w0.heap.size,0,none⟩)) (.int .i64 top) (ZO λ r w'=>r = .int .i64 (if f.low < 0∨f.low > (if f.kind=2 then f.low else f.high)∨(if f.kind=2 then f.low else f.high)≥2 ^ f.bits.toNat then 7 else 0)∧Ext w0 w') W:=by
   intro top ht
   rw [← ht]
   have h0:(0:Int)≤f.bits:=by omega
   have h64:f.bits≤64:=by omega
   unfold Fs
   by_cases a1:f.low < 0
   · simp (disch:=try exact DI) only [↓PR,QR,simprocAttr,Xr,show decide (f.low < 0)=true by simpa using a1]
     unfold AS
     simp (disch:=try exact DI) only [↓PR,QR,simprocAttr]
     exact ⟨by rw [if_pos (.inl a1)],eW⟩
   by_cases a2:f.low > top
   · simp (disch:=try exact DI) only [↓PR,QR,simprocAttr,Xr,show decide (f.low < 0)=false by simpa using a1,show decide (f.low > top)=true by simpa using a2]
     unfold AS
     simp (disch:=try exact DI) only [↓PR,QR,simprocAttr]
     exact ⟨by rw [if_pos (.inr (.inl a2))],eW⟩
   by_cases a3:top≥2 ^ f.bits.toNat
   · simp (disch:=try exact DI) only [↓PR,QR,simprocAttr,Xr,show decide (f.low < 0)=false by simpa using a1,show decide (f.low > top)=false by simpa using a2]
     unfold AS
     simp (disch:=try exact DI) only [↓PR,QR,simprocAttr,Xr,hsh,show decide (top≥2 ^ f.bits.toNat)=true by simpa using a3]
     exact ⟨by rw [if_pos (.inr (.inr a3))],eW⟩
   · simp (disch:=try exact DI) only [↓PR,QR,simprocAttr,Xr,show decide (f.low < 0)=false by simpa using a1,show decide (f.low > top)=false by simpa using a2]
     unfold AS
     simp (disch:=try exact DI) only [↓PR,QR,simprocAttr,Xr,hsh,show decide (top≥2 ^ f.bits.toNat)=false by simpa using a3]
     exact ⟨by rw [if_neg (by rintro (h | h | h)<;>contradiction)],eW⟩
  unfold Ft
  by_cases hk:f.kind=2
  · simp (disch:=try exact DI) only [↓PR,QR,simprocAttr,Xr,show (f.kind == 2)=true by simpa using hk]
    exact tail _ (by rw [if_pos hk])
  · simp (disch:=try exact DI) only [↓PR,QR,simprocAttr,Xr,show (f.kind == 2)=false by simpa using hk]
    exact tail _ (by rw [if_neg hk])
 cases hli:f.little with
 | false=>
  simp (disch:=try exact DI) only [↓PR,QR,simprocAttr,Xr,hli,d1,d2,↓ja,↓qZ,↓qX,↓qU,↓qT]
  exact hrest (by unfold Xo;rw [hli];simp;omega)
 | true=>
  by_cases h16:f.bits=16
  · simp (disch:=try exact DI) only [↓PR,QR,simprocAttr,Xr,hli,d1,d2,show (f.bits != 16)=false by simp [h16],↓ja,↓qZ,↓qX,↓qU,↓qT]
    exact hrest (by unfold Xo;rw [hli,h16];rfl)
  by_cases h24:f.bits=24
  · simp (disch:=try exact DI) only [↓PR,QR,simprocAttr,Xr,hli,d1,d2,show (f.bits != 16)=true by simp [h16],show (f.bits != 24)=false by simp [h24],↓ja,↓qZ,↓qX,↓qU,↓qT]
    exact hrest (by unfold Xo;rw [hli,h24];rfl)
  by_cases h32:f.bits=32
  · simp (disch:=try exact DI) only [↓PR,QR,simprocAttr,Xr,hli,d1,d2,show (f.bits != 16)=true by simp [h16],show (f.bits != 24)=true by simp [h24],show (f.bits != 32)=false by simp [h32],↓ja,↓qZ,↓qX,↓qU,↓qT]
    exact hrest (by unfold Xo;rw [hli,h32];rfl)
  · simp (disch:=try exact DI) only [↓PR,QR,simprocAttr,Xr,hli,d1,d2,show (f.bits != 16)=true by simp [h16],show (f.bits != 24)=true by simp [h24],show (f.bits != 32)=true by simp [h32],↓ja,↓qZ,↓qX,↓qU,↓qT]
    refine ⟨hbad ?_,eW⟩
    unfold Xo
    rw [hli]
    by_cases h8:8 < f.bits
    · have:f.bits.tmod 8≠0:=by
       rw [Int.tmod_eq_emod_of_nonneg (by omega)];omega
      simp [this]
    · simp [h8]
def Mm (f:Zl):Bool:=
 (ZS (Zx f.kind) 98||!(f.bits != 0))&&((ZS (Zx f.kind) 108||!f.little)&&((ZS (Zx f.kind) 111||!f.loose)&&((ZS (Zx f.kind) 120||!(f.low != 0))&&((ZS (Zx f.kind) 104||!(f.high != 0)) &&
 ((ZS (Zx f.kind) 115||!(f.base != 0||(f.terms.length:Int) != 0))&&((ZS (Zx f.kind) 102||!!decide (f.of=⟨#[]⟩))&&((ZS (Zx f.kind) 116||!!decide (f.tag=⟨#[]⟩))&&((ZS (Zx f.kind) 114||!!decide (f.fr=⟨#[]⟩)) &&
 ((ZS (Zx f.kind) 99||(f.cases.length:Int) == 0)&&((ZS (Zx f.kind) 107||f.check == 0)&&(ZS (Zx f.kind) 121||f.key == 0)))))))))))
theorem Hn {f:Zl} (h:1≤f.kind∧f.kind≤12):Mm f=decide (YB f=Jh f):=by
 have:f.kind=1∨f.kind=2∨f.kind=3∨f.kind=4∨f.kind=5∨f.kind=6∨f.kind=7∨f.kind=8∨f.kind=9∨f.kind=10∨f.kind=11∨f.kind=12:=by omega
 have e:(⟨#[]⟩:BAr)=ByteArray.empty:=rfl
 rw [Bool.eq_iff_iff]
 unfold Mm
 rcases this with hk | hk | hk | hk | hk | hk | hk | hk | hk | hk | hk | hk
 all_goals
  simp [YB,xz,xC,xD,j6,xE,xF,j7,xG,xH,Gm,Gn,ya,Jh,hk,Zx,ZS,Zl.mk.injEq,and_assoc,e]
  try omega
theorem HT:ZS (Zx 1) 98=true∧ZS (Zx 1) 108=true∧ZS (Zx 1) 111=false∧ZS (Zx 1) 120=true∧ZS (Zx 1) 104=true∧ZS (Zx 1) 115=false∧ZS (Zx 1) 102=false∧ZS (Zx 1) 116=false∧ZS (Zx 1) 114=false∧ZS (Zx 1) 99=false∧ZS (Zx 1) 107=false∧ZS (Zx 1) 121=false∧ZS (Zx 2) 98=true∧ZS (Zx 2) 108=true∧ZS (Zx 2) 111=false∧ZS (Zx 2) 120=true∧ZS (Zx 2) 104=false∧ZS (Zx 2) 115=false∧ZS (Zx 2) 102=false∧ZS (Zx 2) 116=false∧ZS (Zx 2) 114=false∧ZS (Zx 2) 99=false∧ZS (Zx 2) 107=false∧ZS (Zx 2) 121=false∧ZS (Zx 3) 98=false∧ZS (Zx 3) 108=false∧ZS (Zx 3) 111=true∧ZS (Zx 3) 120=true∧ZS (Zx 3) 104=true∧ZS (Zx 3) 115=false∧ZS (Zx 3) 102=false∧ZS (Zx 3) 116=false∧ZS (Zx 3) 114=false∧ZS (Zx 3) 99=false∧ZS (Zx 3) 107=false∧ZS (Zx 3) 121=false∧ZS (Zx 4) 98=false∧ZS (Zx 4) 108=false∧ZS (Zx 4) 111=false∧ZS (Zx 4) 120=false∧ZS (Zx 4) 104=false∧ZS (Zx 4) 115=true∧ZS (Zx 4) 102=false∧ZS (Zx 4) 116=false∧ZS (Zx 4) 114=false∧ZS (Zx 4) 99=false∧ZS (Zx 4) 107=false∧ZS (Zx 4) 121=false∧ZS (Zx 5) 98=false∧ZS (Zx 5) 108=false∧ZS (Zx 5) 111=false∧ZS (Zx 5) 120=true∧ZS (Zx 5) 104=true∧ZS (Zx 5) 115=false∧ZS (Zx 5) 102=false∧ZS (Zx 5) 116=false∧ZS (Zx 5) 114=false∧ZS (Zx 5) 99=false∧ZS (Zx 5) 107=false∧ZS (Zx 5) 121=false∧ZS (Zx 6) 98=false∧ZS (Zx 6) 108=false∧ZS (Zx 6) 111=true∧ZS (Zx 6) 120=false∧ZS (Zx 6) 104=true∧ZS (Zx 6) 115=false∧ZS (Zx 6) 102=false∧ZS (Zx 6) 116=false∧ZS (Zx 6) 114=false∧ZS (Zx 6) 99=false∧ZS (Zx 6) 107=false∧ZS (Zx 6) 121=false∧ZS (Zx 7) 98=false∧ZS (Zx 7) 108=false∧ZS (Zx 7) 111=false∧ZS (Zx 7) 120=false∧ZS (Zx 7) 104=false∧ZS (Zx 7) 115=true∧ZS (Zx 7) 102=true∧ZS (Zx 7) 116=false∧ZS (Zx 7) 114=false∧ZS (Zx 7) 99=false∧ZS (Zx 7) 107=false∧ZS (Zx 7) 121=false∧ZS (Zx 8) 98=false∧ZS (Zx 8) 108=false∧ZS (Zx 8) 111=false∧ZS (Zx 8) 120=false∧ZS (Zx 8) 104=false∧ZS (Zx 8) 115=false∧ZS (Zx 8) 102=true∧ZS (Zx 8) 116=false∧ZS (Zx 8) 114=false∧ZS (Zx 8) 99=false∧ZS (Zx 8) 107=false∧ZS (Zx 8) 121=false∧ZS (Zx 9) 98=false∧ZS (Zx 9) 108=false∧ZS (Zx 9) 111=false∧ZS (Zx 9) 120=false∧ZS (Zx 9) 104=false∧ZS (Zx 9) 115=false∧ZS (Zx 9) 102=false∧ZS (Zx 9) 116=true∧ZS (Zx 9) 114=false∧ZS (Zx 9) 99=true∧ZS (Zx 9) 107=false∧ZS (Zx 9) 121=false∧ZS (Zx 10) 98=true∧ZS (Zx 10) 108=false∧ZS (Zx 10) 111=false∧ZS (Zx 10) 120=false∧ZS (Zx 10) 104=false∧ZS (Zx 10) 115=false∧ZS (Zx 10) 102=false∧ZS (Zx 10) 116=false∧ZS (Zx 10) 114=false∧ZS (Zx 10) 99=false∧ZS (Zx 10) 107=false∧ZS (Zx 10) 121=false∧ZS (Zx 11) 98=false∧ZS (Zx 11) 108=false∧ZS (Zx 11) 111=false∧ZS (Zx 11) 120=false∧ZS (Zx 11) 104=false∧ZS (Zx 11) 115=false∧ZS (Zx 11) 102=false∧ZS (Zx 11) 116=false∧ZS (Zx 11) 114=true∧ZS (Zx 11) 99=false∧ZS (Zx 11) 107=true∧ZS (Zx 11) 121=false∧ZS (Zx 12) 98=false∧ZS (Zx 12) 108=false∧ZS (Zx 12) 111=false∧ZS (Zx 12) 120=false∧ZS (Zx 12) 104=false∧ZS (Zx 12) 115=true∧ZS (Zx 12) 102=true∧ZS (Zx 12) 116=false∧ZS (Zx 12) 114=false∧ZS (Zx 12) 99=false∧ZS (Zx 12) 107=false∧ZS (Zx 12) 121=true:=by
 repeat' apply And.intro
 all_goals decide
theorem Ni (w0:Wd) (v:Vl) (f:Zl) (hf:Yh w0 v f) (hk:1≤f.kind∧f.kind≤12):Ret Pg 119 #[v] w0 λ r w'=>r = .bool (Mm f)∧Ext w0 w':=by
 obtain ⟨tv,cv,rfl,hT,hC,_,_⟩:=hf.op
 obtain ⟨At,ct,rfl,_⟩:=Zd.open hT
 obtain ⟨Ac,cc,rfl,_⟩:=Zd.open hC
 refine Zil (R:=ZO _) ?_;unfold n40
 simp (disch:=try exact DI) only [↓PR,QR,simprocAttr]
 have Xz:=Z6.new (w:=w0) (Zm f (.slice At f.terms.length ct) (.slice Ac f.cases.length cc)) (48)
 have eW:Ext w0 (w0.alloc (Obj.cells (List.toArray (Zm f (.slice At f.terms.length ct) (.slice Ac f.cases.length cc))) (48))):=(Ext.refl _).alloc _
 generalize (w0.alloc (Obj.cells (List.toArray (Zm f (.slice At f.terms.length ct) (.slice Ac f.cases.length cc))) (48)))=W at Xz eW ⊢
 have Xr:=Xz.c15 (Ext.refl W)
 simp (disch:=try exact DI) only [↓PR,QR,simprocAttr,Xr]
 refine zcr (Ng _ f.kind hk.1 hk.2) λ w1 e1=>?_
 have Xr:=Xz.c15 e1
 have E:=eW.trans e1
 unfold Mm
 have this:f.kind=1∨f.kind=2∨f.kind=3∨f.kind=4∨f.kind=5∨f.kind=6∨f.kind=7∨f.kind=8∨f.kind=9∨f.kind=10∨f.kind=11∨f.kind=12:=by omega
 clear hk hT hC e1 eW Xz
 rcases this with hk | hk | hk | hk | hk | hk | hk | hk | hk | hk | hk | hk
 all_goals
  simp only [hk,HT,Bool.true_or,Bool.false_or,Bool.true_and]
  repeat' first
   | exact ⟨by trivial,by first | trivial | exact E⟩
   | (refine Zs (Sf _ _ _ (by decide)) ?_;rintro _ _ ⟨rfl,rfl⟩;simp (disch:=try exact DI) only [↓PR,QR,simprocAttr,↓Lz,↓LA,↓LB,↓LC,↓LD,↓LF,↓LG,↓LH,↓LI,↓DC,↓DD,↓DE,↓DF,↓DG,↓DH,↓DJ,↓DK,↓DL,↓DM,↓DN,↓DO,↓DP,↓DQ,↓DR,↓DS,HT, *])
   | (refine U3 (λ _=>?_) (λ _=>?_)<;>simp (disch:=try exact DI) only [↓PR,QR,simprocAttr,↓Lz,↓LA,↓LB,↓LC,↓LD,↓LF,↓LG,↓LH,↓LI,↓DC,↓DD,↓DE,↓DF,↓DG,↓DH,↓DJ,↓DK,↓DL,↓DM,↓DN,↓DO,↓DP,↓DQ,↓DR,↓DS,HT, *])
   | (refine W0 (λ _=>?_) (λ _=>?_)<;>simp (disch:=try exact DI) only [↓PR,QR,simprocAttr,↓Lz,↓LA,↓LB,↓LC,↓LD,↓LF,↓LG,↓LH,↓LI,↓DC,↓DD,↓DE,↓DF,↓DG,↓DH,↓DJ,↓DK,↓DL,↓DM,↓DN,↓DO,↓DP,↓DQ,↓DR,↓DS,HT, *])
end Go.Proofs.YtfjjgjjlebllmaaGreat
