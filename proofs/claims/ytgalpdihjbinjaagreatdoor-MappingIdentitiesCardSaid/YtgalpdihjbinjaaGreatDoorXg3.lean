/-
  Lemmas for the claim.
-/
import Derived.Test.YtgalpdihjbinjaaGreatDoorXg2
set_option linter.all false
set_option maxHeartbeats 40000000
set_option maxRecDepth 100000
open Go.Instr (loadAt storeAt fieldAt indexAt buildSlice mapUpdate makeFunc alloc build box extract fill sliceAt lookup makeInterface)
open Go.Proofs.Tryz
namespace Go.Proofs.YtgalpdihjbinjaaGreatDoor
open Sw
def Sh a b c d R w:=
 opV Pg (build 131 #[(0,b),(1,c),(2,d)]) (Zj R) w λ e w=>
 S0 131 a e R w λ w=>
 qW Pg 131 a w λ r0=>
 R (.returned (.tuple #[r0,(.bool true)])) w
def MB c d a b (Qx:KV) R w:=
 B0 .neq 3 true b (QqJ 0) R w λ e w=>
 Zo e (
 Sh c d a b R w) (
 B0 .add 3 true a (QqJ 1) R w λ f w=>
 Qx f w)
def Sl c d b e f (a:WPr) (Y0:KV) R w:=
 M0 61 b f a λ g=>
 I0 3 g a λ h=>
 qV Pg a (Builtin.max_ #[3,3] 3 #[e,h]) λ i=>
 M0 61 b c a λ j=>
 S0 3 j i R w λ w=>
 Vp w λ l w=>
 B0 .add 3 true d (QqJ 1) R w λ k w=>
 Y0 k w
def Sm e b c d f (a:WPr) (Y0:KV) (R:RT) w:=
 M0 61 d b a λ g=>
 I0 3 g a λ h=>
 I0 27 e a λ i=>
 M0 94 f c a λ j=>
 I0 9 j a λ k=>
 C0 115 #[i,k,b] R w λ l w=>
 Qs a w λ m w=>
 Sl b c d h l m Y0 R w
def Sn a b R w:=
 opV Pg (build 131 #[(0,b),(1,(.int .i64 (-1))),(2,(QqJ 10))]) (Zj R) w λ c w=>
 S0 131 a c R w λ w=>
 qW Pg 131 a w λ r0=>
 R (.returned (.tuple #[r0,(.bool true)])) w
def MC c a b (Zx:KV) R w:=
 X0 61 b a R w λ d w=>
 L0 3 d R w λ e w=>
 B0 .add 3 true e (QqJ 1) R w λ f w=>
 X0 61 b a R w λ g w=>
 S0 3 g f R w λ w=>
 X0 61 b a R w λ h w=>
 L0 3 h R w λ i w=>
 B0 .gtr 3 true i (QqJ 16) R w λ j w=>
 Zo j (
 Sn c a R w) (
 B0 .add 3 true a (QqJ 1) R w λ k w=>
 Zx k w)
def MD e f a b c d (Zx Y0:KV) R w:=
 G0 94 3 d R w λ g w=>
 B0 .lss 3 false b g R w λ h w=>
 Zo h (
 Yg w λ i w=>
 Sm e a b c d i Y0 R w) (
 MC f a c Zx R w)
def So a b c d e (Zx:KV) R w:=
 L0 74 d R w λ f w=>
 C0 117 #[f] R w λ g w=>
 Yz (λ h w Y0=>
 MD a b c h e g Zx Y0 R w) (QqJ 0) w
def Sp c d a e b f (Zx Qx:KV) R w:=
 F0 74 e 1 R w λ g w=>
 L0 72 g R w λ h w=>
 G0 72 3 h R w λ i w=>
 B0 .lss 3 false b i R w λ j w=>
 Zo j (
 L0 27 c R w λ k w=>
 C0 116 #[k,a,b] R w λ l w=>
 MB d a b l Qx R w) (
 So c d a e f Zx R w)
def Si a b R w:=
 opV Pg (build 131 #[(0,b),(1,(.int .i64 (-1))),(2,(QqJ 3))]) (Zj R) w λ c w=>
 S0 131 a c R w λ w=>
 qW Pg 131 a w λ r0=>
 R (.returned (.tuple #[r0,(.bool true)])) w
def Sj c a b d e f g (Zx:KV) R w:=
 Zw f (.bool true) g λ h=>
 Zo h (
 Si a b R w) (
 Yz (λ i w Qx=>
 Sp c a b d i e Zx Qx R w) (QqJ 0) w)
def IX a b R w:=
 opV Pg (build 131 #[(0,b),(1,(.int .i64 (-1))),(2,(QqJ 2))]) (Zj R) w λ c w=>
 S0 131 a c R w λ w=>
 qW Pg 131 a w λ r0=>
 R (.returned (.tuple #[r0,(.bool true)])) w
def Sk e f g a h (Zx:KV) R w:=
 F0 74 a 1 R w λ i w=>
 L0 72 i R w λ j w=>
 G0 72 3 j R w λ k w=>
 B0 .lss 3 true k (QqJ 1) R w λ c w=>
 Zm (λ (b:Vl) (w:Wd)=>
 Sj e f g a h c b Zx R w) λ d=>
 Zl c false (
 F0 74 a 1 R w λ l w=>
 L0 72 l R w λ m w=>
 G0 72 3 m R w λ n w=>
 B0 .gtr 3 true n (QqJ 40) R w λ b w=>
 d b w) (
 d undef w)
def IY a b R w:=
 opV Pg (build 131 #[(0,b),(1,(.int .i64 (-1))),(2,(QqJ 1))]) (Zj R) w λ c w=>
 S0 131 a c R w λ w=>
 qW Pg 131 a w λ r0=>
 R (.returned (.tuple #[r0,(.bool true)])) w
def IZ b c a d e (Zx:KV) R w:=
 L0 27 b R w λ f w=>
 F0 74 d 0 R w λ g w=>
 L0 9 g R w λ h w=>
 C0 115 #[f,h,a] R w λ i w=>
 B0 .geq 3 true i (QqJ 0) R w λ j w=>
 Zo j (
 IX c a R w) (
 Sk b c a d e Zx R w)
def I1 a R w:=
 opV Pg (build 131 #[(0,(.int .i64 (-1))),(1,(.int .i64 (-1))),(2,(QqJ 11))]) (Zj R) w λ b w=>
 S0 131 a b R w λ w=>
 qW Pg 131 a w λ r0=>
 R (.returned (.tuple #[r0,(.bool true)])) w
def I2 a R w:=
 opV Pg (build 131 #[]) (Zj R) w λ b w=>
 S0 131 a b R w λ w=>
 qW Pg 131 a w λ r0=>
 R (.returned (.tuple #[r0,(.bool false)])) w
def I3 a b R w:=
 L0 27 a R w λ c w=>
 F0 27 a 2 R w λ d w=>
 L0 9 d R w λ e w=>
 F0 27 a 1 R w λ f w=>
 L0 25 f R w λ g w=>
 G0 25 3 g R w λ h w=>
 C0 115 #[c,e,h] R w λ i w=>
 B0 .lss 3 true i (QqJ 0) R w λ j w=>
 Zo j (
 I1 b R w) (
 I2 b R w)
def I4 c d a e (Zx:KV) R w:=
 F0 27 c 1 R w λ f w=>
 L0 25 f R w λ g w=>
 X0 25 g a R w λ h w=>
 L0 74 h R w λ i w=>
 opV Pg (alloc 74 true (.tuple #[])) (Zj R) w λ b w=>
 S0 74 b i R w λ w=>
 F0 74 b 0 R w λ j w=>
 L0 9 j R w λ k w=>
 C0 39 #[k] R w λ l w=>
 N0 l R w λ m w=>
 Zo m (
 IY d a R w) (
 IZ c d a b e Zx R w)
def I5 a b c d (Zx:KV) R w:=
 F0 27 a 1 R w λ e w=>
 L0 25 e R w λ f w=>
 G0 25 3 f R w λ g w=>
 B0 .lss 3 false c g R w λ h w=>
 Zo h (
 I4 a b c d Zx R w) (
 I3 a b R w)
def I6 a R w:=
 opV Pg (build 131 #[(0,(.int .i64 (-1))),(1,(.int .i64 (-1))),(2,(QqJ 3))]) (Zj R) w λ b w=>
 S0 131 a b R w λ w=>
 qW Pg 131 a w λ r0=>
 R (.returned (.tuple #[r0,(.bool true)])) w
def I7 a c R w:=
 F0 27 a 1 R w λ d w=>
 L0 25 d R w λ e w=>
 G0 25 3 e R w λ b w=>
 opV Pg (Instr.makeSlice 61 b b) (Zj R) w λ f w=>
 Yz (λ g w Zx=>
 I5 a c g f Zx R w) (QqJ 0) w
def I8 a R w:=
 opV Pg (build 131 #[(0,(.int .i64 (-1))),(1,(.int .i64 (-1))),(2,(QqJ 1))]) (Zj R) w λ b w=>
 S0 131 a b R w λ w=>
 qW Pg 131 a w λ r0=>
 R (.returned (.tuple #[r0,(.bool true)])) w
def I9 a c R w:=
 F0 27 a 1 R w λ f w=>
 L0 25 f R w λ g w=>
 G0 25 3 g R w λ h w=>
 B0 .lss 3 true h (QqJ 1) R w λ d w=>
 Zm (λ (b:Vl) (w:Wd)=>
 Zw d (.bool true) b λ i=>
 Zo i (
 I6 c R w) (
 I7 a c R w)) λ e=>
 Zl d false (
 F0 27 a 1 R w λ j w=>
 L0 25 j R w λ k w=>
 G0 25 3 k R w λ l w=>
 B0 .gtr 3 true l (QqJ 60) R w λ b w=>
 e b w) (
 e undef w)
def n56 c R w:=
 opV Pg (box 27 c) (Zj R) w λ a w=>
 opV Pg (alloc 131 true (.tuple #[])) (Zj R) w λ b w=>
 F0 27 a 0 R w λ d w=>
 L0 9 d R w λ e w=>
 C0 39 #[e] R w λ f w=>
 N0 f R w λ g w=>
 Zo g (
 I8 b R w) (
 I9 a b R w)
def Zlu:QqQ1 80 n56:=λ h=>by
 refine yD func80 ?_
 refine zs<|zr<|yv h λ h=>yv h λ h=>zm<|zn<|zk<|zs<|zs<|zr<|yv h λ h=>yv h λ h=>yc h c39 λ h=>yv h λ h=>zn ?_
 refine zk<|yC h (λ h=>zs<|zr<|yB h λ h=>yu h λ h=>zm<|zn<|zk<|Zh<|Zb<|Z7 rfl rfl rfl h) λ h=>Zi<|zk<|zs<|zs<|Zr<|yG 5<|yv h λ h=>yv h λ h=>yx h λ h=>yb h λ h=>zm<|zn ?_
 refine yg1 4 4 false [21,22,23,24] 24 h (λ _ T hT h=>?_) λ σ w h=>?_
 · refine yv h λ h=>yv h λ h=>yx h λ h=>yb h λ h=>zn ?_
   exact zt hT h
 refine yG 1<|yp h λ h=>zn<|ZG<|zk<|yC h (λ h=>zs<|zr<|yB h λ h=>yu h λ h=>zm<|zn<|zk<|Zh<|Zb<|Z7 rfl rfl rfl h) λ h=>Zi<|zk<|zs<|zr<|yv h λ h=>yv h λ h=>yx h λ h=>yv h λ h=>?_
 refine zm<|zn<|zk<|zs<|zs<|zr<|zm<|zn<|zk<|Zk<|yl1 [3,5,6,7,8,9,10,31,32,33,34,35,36,37,38,39,40,41,42,43,44,45,46,47,48,49,50,51,52,53,54,55,56,57,58,59,60,61,62,63,64,65,66,67,68,69,70,71,72,73,74,75,76,77,78,79,80,81,82,83,84,85,86,87,88,89,90,91,92,93,94,95,96,97,98,99,100,101,102,103,104,105,106,107,108,109,110,111,112,113,114,115,116,117,118,119,120,121,122,123,124] 5 h λ σ w next h=>zs<|zs<|zr<|zm ?_
 refine yv h λ h=>yv h λ h=>yx h λ h=>yb h λ h=>zn<|zk<|yC h (λ h=>?_) λ h=>?_
 · refine Zi<|zk<|zs<|Zk<|zs<|zr<|yv h λ h=>yv h λ h=>zm<|yv h λ h=>yv h λ h=>yv h λ h=>yu h λ h=>zn<|zk ?_
   refine zs<|zs<|zr<|yv h λ h=>yv h λ h=>yc h c39 λ h=>yv h λ h=>zn<|zk<|yC h (λ h=>?_) λ h=>?_
   · refine zs<|zr<|zm<|yB h λ h=>yu h λ h=>zm<|zn<|zk<|Zh<|Zb<|Zd<|Zb<|Zb<|Zd<|Zb ?_
     exact Z7 rfl rfl rfl h
   refine Zi<|zk<|zs<|zs<|zr<|yv h λ h=>yv h λ h=>yv h λ h=>zm<|yc h Fv λ h=>yb h λ h=>zn<|zk<|yC h (λ h=>?_) λ h=>?_
   · refine zs<|zr<|zm<|yB h λ h=>yu h λ h=>zm<|zn<|zk<|Zh<|Zb<|Zd<|Zb<|Zb<|Zd<|Zb ?_
     exact Z7 rfl rfl rfl h
   refine Zi<|zk<|zs<|zs<|Zr<|yG 5<|yv h λ h=>yv h λ h=>yx h λ h=>yb h λ h=>zm<|zn<|yg1 4 4 false [62,63,64,65] 65 h (λ _ T hT h=>?_) λ σ w h=>?_
   · refine yv h λ h=>yv h λ h=>yx h λ h=>yb h λ h=>zn ?_
     exact zt hT h
   refine yG 1<|yp h λ h=>zn<|ZG<|zk<|yC h (λ h=>?_) λ h=>?_
   · refine zs<|zr<|zm<|yB h λ h=>yu h λ h=>zm<|zn<|zk<|Zh<|Zb<|Zd<|Zb<|Zb<|Zd<|Zb ?_
     exact Z7 rfl rfl rfl h
   refine Zi<|zk<|zs<|zs<|zr<|zm<|zn<|zk<|Zk<|yl1 [3,7,8,69,70,71,72,73,74,75,76,77,78,79,80,81,82,83,84,85] 7 h λ σ w next h=>zs<|zs<|zr<|zm<|yv h λ h=>?_
   refine yv h λ h=>yx h λ h=>yb h λ h=>zn<|zk<|yC h (λ h=>?_) λ h=>?_
   · refine Zi<|zk<|zs<|Zk<|zs<|zr<|yv h λ h=>zm<|zm<|yc h ZjJ λ h=>zm<|zn<|zk<|zs<|zr ?_
     refine zm<|yb h λ h=>zn<|zk<|yC h (λ h=>?_) λ h=>?_
     · refine zs<|zr<|zm<|zm<|zm<|yB h λ h=>yu h λ h=>zm<|zn<|zk<|Zh<|Zd<|Zb<|Zb<|Zd ?_
       exact Zb<|Zd<|Zb<|Zb<|Zd<|Zb<|Z7 rfl rfl rfl h
     exact Zi<|Zg<|zk<|zr<|zm<|yb h λ h=>zm<|zn<|zk<|⟨rfl,h⟩
   refine ZD<|Zc<|Zc<|Zp<|zk<|zs<|zr<|yv h λ h=>yc h Zfi λ h=>zm<|zn<|zk<|zs<|zs<|zr ?_
   refine zm<|zn<|zk<|Zk<|yl1 [10,88,89,90,91,92,93,94,95,96,97,98,99,100,101,102,103,104,105,106,107,108,109,110,111] 10 h λ σ w next h=>zs<|zs<|zr<|zm<|zm<|yx h λ h=>yb h λ h=>zn<|zk<|yC h (λ h=>?_) λ h=>?_
   · refine Zi<|zk<|zs<|Zk<|yh [94,95,96,97,98,99,100,101,102,103,104,105,106,107,108,109,110,111] h λ C hC h=>yw 0 hC ?_
     refine yw 1 hC ?_
     refine yw 2 hC ?_
     refine yw 3 hC ?_
     refine ye 4 hC h λ h=>?_
     refine ye 5 hC h λ h=>?_
     refine yw 6 hC ?_
     refine ye 7 hC h λ h=>?_
     refine yw 8 hC ?_
     refine yw 9 hC ?_
     refine ye 10 hC h λ h=>?_
     refine ye 11 hC h λ h=>?_
     refine yw 12 hC ?_
     refine yr 13 ?_
     refine yc h Fv λ h=>zn ?_
     obtain ⟨C7,hs,hC,h⟩:=h
     refine ⟨C7,hs,hC,?_⟩
     refine ye 14 hC h λ h=>?_
     refine ye 15 hC h λ h=>?_
     refine ye 16 hC h λ h=>?_
     refine ye 17 hC h λ h=>?_
     refine yq 18 1 ?_
     refine yu h λ h=>zn ?_
     obtain ⟨C8,hC,h⟩:=h
     refine ⟨C8,hC,?_⟩
     exact yz<|Zg<|zk<|zr<|zm<|yb h λ h=>zm<|zn<|zk<|⟨rfl,h⟩
   refine ZD<|Zc<|Zc<|Zp<|zk<|zs<|zr<|zm<|zm<|yv h λ h=>yv h λ h=>yb h λ h=>yv h λ h=>yu h λ h=>zn ?_
   refine zk<|zs<|zr<|zm<|zm<|yv h λ h=>yv h λ h=>yb h λ h=>zn<|zk<|yC h (λ h=>zs<|zr<|zm<|yB h λ h=>yu h λ h=>zm<|zn<|zk<|Zh<|Zd<|Zb<|Zb<|Zd<|Zb<|Z7 rfl rfl rfl h) λ h=>Zi<|Zg<|zk ?_
   exact zr<|zm<|yb h λ h=>zm<|zn<|zk<|⟨rfl,h⟩
 refine ZD<|Zc<|Zc<|Zp<|zk<|zs<|zs<|zr<|yv h λ h=>yv h λ h=>yv h λ h=>yv h λ h=>yv h λ h=>yx h λ h=>yc h Fv λ h=>?_
 refine yb h λ h=>zn<|zk<|yC h (λ h=>zs<|zr<|yB h λ h=>yu h λ h=>zm<|zn<|zk<|Zh<|Zb<|Z7 rfl rfl rfl h) λ h=>Zi<|zk<|zs<|zr<|yB h λ h=>yu h λ h=>zm<|zn<|zk<|Zh ?_
 exact Z7 rfl rfl rfl h
def Sf g c d (R:RT) w:=
 Zm (λ (a:Vl) (w:Wd)=>
 Zm (λ (b:Vl) (w:Wd)=>
 Zw c (.bool true) b λ h=>
 R (.returned h) w) λ e=>
 Zl c false (
 Zw d a (.bool false) λ b=>
 e b w) (
 e undef w)) λ f=>
 Zl d true (
 opV Pg (ZP .leq 5 true g (.int .u8 122)) (Zj R) w λ a w=>
 f a w) (
 f undef w)
def Sg a d e R w:=
 Zw d e (.bool false) λ b=>
 Zm (λ (f:Vl) (w:Wd)=>
 Sf a b f R w) λ c=>
 Zl b false (
 opV Pg (ZP .geq 5 true a (.int .u8 97)) (Zj R) w λ g w=>
 c g w) (
 c undef w)
def n54 a R w:=
 opV Pg (ZP .geq 5 true a (.int .u8 65)) (Zj R) w λ c w=>
 Zm (λ (b:Vl) (w:Wd)=>
 Sg a c b R w) λ d=>
 Zl c true (
 opV Pg (ZP .leq 5 true a (.int .u8 90)) (Zj R) w λ b w=>
 d b w) (
 d undef w)
def Zls:QqQ1 81 n54:=λ h=>by
 refine yD func81 ?_
 refine zs<|zr<|zm<|zn<|zk<|zs<|Zr<|yG 3<|zm<|yb h λ h=>zm<|zn<|yg1 2 2 true [6,7] 7 h (λ _ T hT h=>?_) λ σ w h=>?_
 · refine zm<|yb h λ h=>zn ?_
   exact zt hT h
 refine yG 2<|yp h λ h=>zm<|zn<|yg1 3 6 false [10,11,12] 12 h (λ _ T hT h=>?_) λ σ w h=>?_
 · refine zm<|yb h λ h=>zm<|zn ?_
   exact zt hT h
 refine yg1 2 9 true [13,14] 14 h (λ _ T hT h=>?_) λ σ w h=>?_
 · refine zm<|yb h λ h=>zn ?_
   exact zt hT h
 refine yg1 1 6 false [15] 15 h (λ _ T hT h=>?_) λ σ w h=>?_
 · refine yp h λ h=>zn ?_
   exact zt hT h
 exact yG 2<|yp h λ h=>zm<|zn<|ZG<|zk<|Zh<|Zf rfl rfl h
def n53 b R w:=
 opV Pg (ZP .geq 5 true b (.int .u8 48)) (Zj R) w λ c w=>
 Zm (λ (a:Vl) (w:Wd)=>
 Zw c a (.bool false) λ e=>
 R (.returned e) w) λ d=>
 Zl c true (
 opV Pg (ZP .leq 5 true b (.int .u8 57)) (Zj R) w λ a w=>
 d a w) (
 d undef w)
def Zlr:QqQ1 82 n53:=λ h=>by
 refine yD func82 ?_
 refine zs<|zr<|zm<|zn<|zk<|zs<|Zr<|yG 3<|zm<|yb h λ h=>zm<|zn<|yg1 2 2 true [6,7] 7 h (λ _ T hT h=>?_) λ σ w h=>?_
 · refine zm<|yb h λ h=>zn ?_
   exact zt hT h
 exact yG 2<|yp h λ h=>zm<|zn<|ZG<|zk<|Zh<|Zf rfl rfl h
def Hk a b c d (Wf:KV) (ds:LDf) (R:RT) w:=
 Zw c d (.bool false) λ e=>
 opU Pg (storeAt 4 a e) (ZI Pg ds [] R) w λ w=>
 opV Pg (ZP .add 3 true b (QqJ 1)) (ZI Pg ds [] R) w λ f w=>
 Wf f w
def SQ b e f (Wf:KV) (ds:LDf) (R:RT) w:=
 opV Pg (loadAt 4 b) (ZI Pg ds [] R) w λ c w=>
 Zm (λ (a:Vl) (w:Wd)=>
 Hk b f c a Wf ds R w) λ d=>
 Zl c true (
 opV Pg (fieldAt 123 e 4) (ZI Pg ds [] R) w λ g w=>
 opV Pg (loadAt 4 g) (ZI Pg ds [] R) w λ h w=>
 opV Pg (Op.unary .not h) (ZI Pg ds [] R) w λ a w=>
 d a w) (
 d undef w)
def SR f c g (h:WPr) (a:PEn) (R:RT) w:=
 opV Pg (loadAt 4 c) a w λ d w=>
 Zm (λ (b:Vl) (w:Wd)=>
 Zw d b (.bool false) λ i=>
 opU Pg (storeAt 4 c i) a w λ w=>
 h w) λ e=>
 Zl d true (
 opV Pg (loadAt 167 f) a w λ j w=>
 opN Pg (Y6 j) a w λ k w=>
 opV Pg (fieldAt 201 k 2) a w λ l w=>
 opV Pg (loadAt 199 l) a w λ m w=>
 opV Pg (lookup 199 m g false) a w λ b w=>
 e b w) (
 e undef w)
def SS b f c d (a g:WPr) (e:PEn) R w:=
 I0 3 c a λ h=>
 I0 167 b a λ i=>
 qN Pg a (Y6 i) λ j=>
 J0 201 j 1 a λ k=>
 I0 198 k a λ l=>
 qV Pg a (lookup 198 l d false) λ m=>
 qV Pg a (Builtin.max_ #[3,3] 3 #[h,m]) λ n=>
 opU Pg (storeAt 3 c n) e w λ w=>
 Vp w λ o w=>
 SR b f d g e R w
def SU a b (ds:LDf) (R:RT) w:=
 opV Pg (loadAt 167 a) (ZI Pg ds [] R) w λ c w=>
 opV Pg (loadAt 3 b) (ZI Pg ds [] R) w λ d w=>
 opV Pg (ZP .lss 3 true d (QqJ 16)) (ZI Pg ds [] R) w λ e w=>
 Yb Pg 135 #[c,e,(QqJ 10)] (ZI Pg ds [] R) w λ f w=>
 Kz Pg ds [] R w
def SV a b c d e (f:WPr) (ds:LDf) (R:RT) w:=
 qV Pg f (extract e 1) λ g=>
 opU Pg (Instr.entryStore 199 c g d) (ZI Pg ds [] R) w λ w=>
 Vp w λ h w=>
 SU a b ds R w
def SW c d e b f g h i (a:WPr) (ds:LDf) (R:RT) w:=
 qV Pg a (extract i 1) λ j=>
 opU Pg (Instr.entryStore 198 e j g) (ZI Pg ds [] R) w λ w=>
 a w∧(
 opV Pg (Instr.mapEntry 199 b f) (ZI Pg ds [] R) w λ k w=>
 a w∧(
 SV c d b h k a ds R w))
def MW b c f d (a:WPr) (ds:LDf) (R:RT) w:=
 I0 167 b a λ g=>
 qN Pg a (Y6 g) λ h=>
 J0 201 h 1 a λ i=>
 I0 198 i a λ e=>
 J0 74 c 0 a λ j=>
 I0 9 j a λ k=>
 I0 167 b a λ l=>
 qN Pg a (Y6 l) λ m=>
 J0 201 m 2 a λ n=>
 I0 199 n a λ o=>
 J0 74 c 0 a λ p=>
 I0 9 p a λ q=>
 I0 3 d a λ r=>
 qV Pg a (ZP .add 3 true r (QqJ 1)) λ s=>
 I0 4 f a λ t=>
 opV Pg (Instr.mapEntry 198 e k) (ZI Pg ds [] R) w λ u w=>
 a w∧(
 SW b d e o q s t u a ds R w)
def SX a d b c e (ds:LDf) R w:=
 EN Pg e ds (λ l8 f w g k h=>
 Ct l8 w λ w=>
 Yg w λ i w=>
 SS a b c f i g h R w) (λ ch ds w=>ZI Pg ds [] R ch w) w (λ ds w=>
 Yg w λ j w=>
 MW a d b c j ds R w) []
def Ez a b d (ds:LDf) (R:RT) w:=
 opV Pg (loadAt 167 a) (ZI Pg ds [] R) w λ e w=>
 opN Pg (Y6 e) (ZI Pg ds [] R) w λ f w=>
 opV Pg (fieldAt 201 f 4) (ZI Pg ds [] R) w λ g w=>
 opU Pg (storeAt 3 g (.int .i64 (-1))) (ZI Pg ds [] R) w λ w=>
 opV Pg (alloc 3 true (.tuple #[])) (ZI Pg ds [] R) w λ c w=>
 opU Pg (storeAt 3 c (QqJ 0)) (ZI Pg ds [] R) w λ w=>
 opV Pg (loadAt 74 b) (ZI Pg ds [] R) w λ h w=>
 Yb Pg 162 #[h] (ZI Pg ds [] R) w λ i w=>
 SX a b d c i ds R w
def Lf c d e a (Wf:KV) (ds:LDf) (R:RT) w:=
 opV Pg (indexAt 72 e a) (ZI Pg ds [] R) w λ f w=>
 opV Pg (loadAt 123 f) (ZI Pg ds [] R) w λ g w=>
 opV Pg (alloc 123 true (.tuple #[])) (ZI Pg ds [] R) w λ b w=>
 opU Pg (storeAt 123 b g) (ZI Pg ds [] R) w λ w=>
 opV Pg (loadAt 167 c) (ZI Pg ds [] R) w λ h w=>
 opN Pg (Y6 h) (ZI Pg ds [] R) w λ i w=>
 opV Pg (fieldAt 201 i 4) (ZI Pg ds [] R) w λ j w=>
 opU Pg (storeAt 3 j a) (ZI Pg ds [] R) w λ w=>
 opV Pg (loadAt 167 c) (ZI Pg ds [] R) w λ k w=>
 opV Pg (loadAt 123 b) (ZI Pg ds [] R) w λ l w=>
 Yb Pg 161 #[k,l] (ZI Pg ds [] R) w λ m w=>
 SQ d b a Wf ds R w
def EA a d b e f c (Wf:KV) (ds:LDf) (R:RT) w:=
 opV Pg (ZP .lss 3 false c f) (ZI Pg ds [] R) w λ g w=>
 Zo g (
 Lf a b e c Wf ds R w) (
 Ez a d b ds R w)
def Bm d a (ds:LDf) (R:RT) w:=
 opV Pg (alloc 4 true (.tuple #[])) (ZI Pg ds [] R) w λ b w=>
 opU Pg (storeAt 4 b (.bool true)) (ZI Pg ds [] R) w λ w=>
 opV Pg (fieldAt 74 a 1) (ZI Pg ds [] R) w λ e w=>
 opV Pg (loadAt 72 e) (ZI Pg ds [] R) w λ c w=>
 opV Pg (Builtin.len_ #[72] 3 #[c]) (ZI Pg ds [] R) w λ f w=>
 Yz (λ g w Wf=>
 EA d a b c f g Wf ds R w) (QqJ 0) w
def Lg c a (ds:LDf) (R:RT) w:=
 opV Pg (loadAt 167 c) (ZI Pg ds [] R) w λ f w=>
 opV Pg (fieldAt 74 a 1) (ZI Pg ds [] R) w λ g w=>
 opV Pg (loadAt 72 g) (ZI Pg ds [] R) w λ h w=>
 opV Pg (Builtin.len_ #[72] 3 #[h]) (ZI Pg ds [] R) w λ i w=>
 opV Pg (ZP .geq 3 true i (QqJ 1)) (ZI Pg ds [] R) w λ d w=>
 Zm (λ (b:Vl) (w:Wd)=>
 Zw d b (.bool false) λ j=>
 Yb Pg 135 #[f,j,(QqJ 3)] (ZI Pg ds [] R) w λ n w=>
 Bm c a ds R w) λ e=>
 Zl d true (
 opV Pg (fieldAt 74 a 1) (ZI Pg ds [] R) w λ k w=>
 opV Pg (loadAt 72 k) (ZI Pg ds [] R) w λ l w=>
 opV Pg (Builtin.len_ #[72] 3 #[l]) (ZI Pg ds [] R) w λ m w=>
 opV Pg (ZP .leq 3 true m (QqJ 40)) (ZI Pg ds [] R) w λ b w=>
 e b w) (
 e undef w)
def Lh b c (a:WPr) (ds:LDf) (R:RT) w:=
 I0 167 b a λ e=>
 qN Pg a (Y6 e) λ f=>
 J0 201 f 1 a λ g=>
 I0 198 g a λ h=>
 J0 74 c 0 a λ i=>
 I0 9 i a λ j=>
 qV Pg a (lookup 198 h j true) λ d=>
 qV Pg a (extract d 0) λ n=>
 qV Pg a (extract d 1) λ k=>
 opV Pg (loadAt 167 b) (ZI Pg ds [] R) w λ l w=>
 opV Pg (Op.unary .not k) (ZI Pg ds [] R) w λ m w=>
 Yb Pg 135 #[l,m,(QqJ 2)] (ZI Pg ds [] R) w λ o w=>
 Lg b c ds R w
def Li b c (a:WPr) (ds:LDf) (R:RT) w:=
 I0 167 b a λ d=>
 J0 74 c 0 a λ e=>
 I0 9 e a λ f=>
 Yb Pg 35 #[f] (ZI Pg ds [] R) w λ g w=>
 a w∧(
 Yb Pg 135 #[d,g,(QqJ 1)] (ZI Pg ds [] R) w λ i w=>
 a w∧(
 Yg w λ h w=>
 Lh b c h ds R w))
def EB b c d (a:WPr) (ds:LDf) (R:RT) w:=
 qN Pg a (Y6 d) λ e=>
 J0 201 e 4 a λ f=>
 opU Pg (storeAt 3 f (.int .i64 (-1))) (ZI Pg ds [] R) w λ w=>
 Vp w λ h w=>
 Yg w λ g w=>
 Li b c g ds R w
def Lj b c (a:WPr) (ds:LDf) (R:RT) w:=
 I0 167 b a λ d=>
 I0 167 b a λ e=>
 I0 74 c a λ f=>
 qN Pg a (Y6 d) λ g=>
 J0 201 g 5 a λ h=>
 opU Pg (storeAt 74 h f) (ZI Pg ds [] R) w λ w=>
 a w∧(
 EB b c e a ds R w)
def n97 a b (R:RT) w:=
 (λ (ds:LDf)=>
 opV Pg (box 167 a) (ZI Pg ds [] R) w λ c w=>
 opV Pg (box 74 b) (ZI Pg ds [] R) w λ d w=>
 Yg w λ e w=>
 Lj c d e ds R w) []
def Zl8:QqQ2 136 n97:=λ h=>by
 refine yE func136 ?_
 unfold n97 at h
 dsimp only at h
 refine zs<|zr<|yv h λ h=>yv h λ h=>zn<|zk<|zs<|yh [11,12,13,14,15,16,17] h λ C hC h=>ye 0 hC h λ h=>?_
 refine ye 1 hC h λ h=>?_
 refine ye 2 hC h λ h=>?_
 refine yn 3 hC h λ h=>?_
 refine ye 4 hC h λ h=>?_
 refine yo 5 ?_
 refine yu h λ h=>zn ?_
 obtain ⟨hC,h⟩:=h
 refine ⟨hC,?_⟩
 refine yn 6 hC h λ h=>?_
 refine ye 7 hC h λ h=>?_
 refine yq 8 2 ?_
 refine yu h λ h=>zn ?_
 obtain ⟨C2,hC,h⟩:=h
 refine ⟨C2,hC,?_⟩
 refine yz<|zk<|zs<|yh [18,19,20,21,22] h λ C hC h=>ye 0 hC h λ h=>?_
 refine ye 1 hC h λ h=>?_
 refine ye 2 hC h λ h=>?_
 refine yo 3 ?_
 refine yc h c35 λ h=>zn ?_
 obtain ⟨hC,h⟩:=h
 refine ⟨hC,?_⟩
 refine yo 4 ?_
 refine yc h Us λ h=>zn ?_
 obtain ⟨hC,h⟩:=h
 refine ⟨hC,?_⟩
 refine yz<|zk<|zs<|yh [4,5,23,24,25,26,27,28,29,30,31,32] h λ C hC h=>ye 0 hC h λ h=>?_
 refine yn 1 hC h λ h=>?_
 refine ye 2 hC h λ h=>?_
 refine ye 3 hC h λ h=>?_
 refine ye 4 hC h λ h=>?_
 refine ye 5 hC h λ h=>?_
 refine ye 6 hC h λ h=>?_
 refine yw 7 hC ?_
 refine ye 8 hC h λ h=>?_
 refine ye 9 hC h λ h=>?_
 refine yw 10 hC ?_
 refine yw 11 hC ?_
 refine yz<|zk<|zs<|zr<|yv h λ h=>zm<|yv h λ h=>yc h Us λ h=>zn<|zk<|zs<|Zr<|yG 6<|yv h λ h=>yv h λ h=>?_
 refine yv h λ h=>yx h λ h=>yb h λ h=>zm<|zn<|yg1 4 5 true [43,44,45,46] 46 h (λ _ T hT h=>?_) λ σ w h=>?_
 · refine yv h λ h=>yv h λ h=>yx h λ h=>yb h λ h=>zn ?_
   exact zt hT h
 refine yG 2<|yp h λ h=>yc h Us λ h=>zn<|ZG<|zk<|zs<|zr<|yv h λ h=>yu h λ h=>zn<|zk<|zs<|zs<|zr ?_
 refine yv h λ h=>yv h λ h=>yx h λ h=>zm<|zn<|zk<|Zk<|yl1 [7,8,52,53,54,55,56,57,58,59,60,61,62,63,64,65,66,67,68,69,70] 52 h λ σ w next h=>zs<|zr<|yb h λ h=>zn<|zk<|zs<|yC h (λ h=>?_) λ h=>?_
 · refine Zi<|zk<|zs<|Zk<|zs<|zr<|zm<|yv h λ h=>yv h λ h=>yv h λ h=>zm<|yu h λ h=>zn<|zk<|zs ?_
   refine zr<|yv h λ h=>zm<|yN h λ h=>yv h λ h=>yu h λ h=>zn<|zk<|zs<|zr<|yv h λ h=>yv h λ h=>yc h ZjR λ h=>zn<|zk ?_
   refine Zr<|yG 2<|yv h λ h=>zm<|zn<|yg1 3 1 true [66,67,68] 68 h (λ _ T hT h=>?_) λ σ w h=>?_
   · refine yv h λ h=>yv h λ h=>yv h λ h=>zn ?_
     exact zt hT h
   exact yG 2<|yp h λ h=>yu h λ h=>zn<|ZG<|Zg<|zk<|zr<|yb h λ h=>zm<|zn<|zk<|⟨rfl,h⟩
 refine ZD<|Zc<|Zc<|Zp<|zk<|zs<|zr<|yv h λ h=>yN h λ h=>yv h λ h=>yu h λ h=>zn<|zk<|zs<|zr ?_
 refine yv h λ h=>yu h λ h=>zn<|zk<|zs<|zs<|zr<|yv h λ h=>yc h Zfm λ h=>zn<|zk<|Zk<|qb [] h rfl (λ l8 t76 w Kr8 Xr8 Qr8 h=>?_) (λ ds w h=>?_) (λ c ds w h=>?_) (λ ch ds w h=>QM rfl h)
 · refine zr<|zm<|zn<|zk ?_
   obtain ⟨hr,h⟩:=h
   refine ⟨rfl,hr,λ w hb=>?_⟩
   have h:=h w hb
   refine Zk<|zs<|yh [77,78,79,80,81,82,83,84] h λ C hC h=>ye 0 hC h λ h=>?_
   refine ye 1 hC h λ h=>?_
   refine yn 2 hC h λ h=>?_
   refine ye 3 hC h λ h=>?_
   refine ye 4 hC h λ h=>?_
   refine yw 5 hC ?_
   refine ye 6 hC h λ h=>?_
   refine ye 7 hC h λ h=>?_
   refine yq 8 1 ?_
   refine yu h λ h=>zn ?_
   obtain ⟨C10,hC,h⟩:=h
   refine ⟨C10,hC,?_⟩
   refine yz<|zk<|Zr<|yG 2<|yv h λ h=>zm<|zn<|yg1 6 1 true [87,88,89,90,91,92] 92 h (λ _ T hT h=>?_) λ σ w h=>?_
   · refine yv h λ h=>yN h λ h=>yv h λ h=>yv h λ h=>zm<|yv h λ h=>zn ?_
     exact zt hT h
   exact yG 2<|yp h λ h=>yu h λ h=>zn<|ZG<|Zg<|⟨rfl,h⟩
 · refine Zg<|zk<|zs<|yh [94,95,96,97,98,99,100,101,102,103,104,105,106,107,108,109,110,111,112] h λ C hC h=>ye 0 hC h λ h=>?_
   refine yn 1 hC h λ h=>?_
   refine ye 2 hC h λ h=>?_
   refine ye 3 hC h λ h=>?_
   refine ye 4 hC h λ h=>?_
   refine ye 5 hC h λ h=>?_
   refine ye 6 hC h λ h=>?_
   refine yn 7 hC h λ h=>?_
   refine ye 8 hC h λ h=>?_
   refine ye 9 hC h λ h=>?_
   refine ye 10 hC h λ h=>?_
   refine ye 11 hC h λ h=>?_
   refine ye 12 hC h λ h=>?_
   refine ye 13 hC h λ h=>?_
   refine ye 14 hC h λ h=>?_
   refine yo 15 ?_
   refine yv h λ h=>zn ?_
   obtain ⟨hC,h⟩:=h
   refine ⟨hC,?_⟩
   refine ye 16 hC h λ h=>?_
   refine yo 17 ?_
   refine yu h λ h=>zn ?_
   obtain ⟨hC,h⟩:=h
   refine ⟨hC,?_⟩
   refine yo 18 ?_
   refine yv h λ h=>zn ?_
   obtain ⟨hC,h⟩:=h
   refine ⟨hC,?_⟩
   refine ye 19 hC h λ h=>?_
   refine yq 20 1 ?_
   refine yu h λ h=>zn ?_
   obtain ⟨C13,hC,h⟩:=h
   refine ⟨C13,hC,?_⟩
   exact yz<|zk<|zr<|yv h λ h=>yv h λ h=>yb h λ h=>yc h Us λ h=>zn<|zP<|Wi rfl h
 exact h.elim
def IC b c a (Zu:KV) R w:=
 X0 170 b a R w λ d w=>
 L0 4 d R w λ e w=>
 B0 .eql 4 false c e R w λ f w=>
 Zo f (
 R (.returned a) w) (
 B0 .add 3 true a (QqJ 1) R w λ g w=>
 Zu g w)
def Zh5 a c R w:=
 G0 170 3 a R w λ d w=>
 Yz (λ b w Zu=>
 B0 .lss 3 false b d R w λ e w=>
 Zo e (
 IC a c b Zu R w) (
 R (.returned (.int .i64 (-1))) w)) (QqJ 0) w
def Zh6:QqQ2 137 Zh5:=λ h=>by
 refine yD func137 ?_
 refine zs<|zr<|zm<|zn<|zk<|zs<|zs<|zr<|zm<|yx h λ h=>zm<|zn<|zk<|Zk<|yl1 [4,5,8,9,10,11,12,13,14,15,16,17,18] 8 h λ σ w next h=>?_
 refine zs<|zr<|yb h λ h=>zn<|zk<|zs<|yC h (λ h=>?_) λ h=>?_
 · refine Zi<|zk<|zs<|Zk<|zs<|zr<|zm<|zm<|zn<|zk<|zs<|zr<|zm<|zm<|zm ?_
   refine yv h λ h=>yv h λ h=>yb h λ h=>zn<|zk<|yC h (λ h=>zs<|zr<|zm<|zm<|zn<|zk<|Zh<|Zd<|Zb<|Zb<|Zd<|Zb<|Zf rfl rfl h) λ h=>Zi<|Zg<|zk<|zr<|yb h λ h=>zm<|zn<|zk ?_
   exact ⟨rfl,h⟩
 exact ZD<|Zc<|Zc<|Zp<|zk<|zs<|zr<|zm<|zn<|zk<|Zh<|Zf rfl rfl h
def PL a R w:=
 opV Pg (Builtin.max_ #[3,3] 3 #[a,(QqJ 0)]) (Zj R) w λ b w=>
 B0 .geq 3 true a (QqJ 0) R w λ c w=>
 R (.returned (.tuple #[b,c])) w
def ZfX a b (R:RT) w:=
 C0 163 #[a,b] R w λ c w=>
 PL c R w
def ZfY:QqQ2 138 ZfX:=λ h=>by
 refine yD func138 ?_
 refine zs<|zr<|zm<|zm<|zn<|zk<|zs<|zr<|zm<|zm<|yc h ZjS λ h=>zm<|zn<|zk<|zs ?_
 exact zr<|zm<|yx h λ h=>zm<|yb h λ h=>zm<|zm<|zn<|zk<|Zh<|Xp rfl rfl rfl h
def n85 a b R w:=
 opV Pg (box 74 a) (Zj R) w λ c w=>
 F0 74 c 0 R w λ d w=>
 L0 9 d R w λ e w=>
 L0 9 b R w λ f w=>
 B0 .eql 9 false e f R w λ g w=>
 R (.returned g) w
def ZlX:QqQ2 139 n85:=λ h=>by
 refine yD func139 ?_
 refine zs<|zr<|yv h λ h=>zm<|zn<|zk<|zs<|zr<|yv h λ h=>yv h λ h=>yv h λ h=>yb h λ h=>zm<|zn<|zk ?_
 exact Zh<|Zf rfl rfl h
def n82 b c R w:=
 opV Pg (box 74 b) (Zj R) w λ d w=>
 opV Pg (box 9 c) (Zj R) w λ e w=>
 F0 74 d 1 R w λ f w=>
 L0 72 f R w λ g w=>
 opV Pg (makeFunc (.func 165) #[] #[e]) (Zj R) w λ h w=>
 C0 164 #[g,h] R w λ a w=>
 E0q a 0 R w λ i w=>
 E0q a 1 R w λ j w=>
 R (.returned (.tuple #[i,j])) w
def ZlU:QqQ2 140 n82:=λ h=>by
 refine yD func140 ?_
 refine zs<|zr<|yv h λ h=>yv h λ h=>zm<|zm<|zn<|zk<|zs<|zr<|yv h λ h=>yv h λ h=>yF h λ h=>yc h ZjT λ h=>yv h λ h=>?_
 exact yv h λ h=>zm<|zm<|zn<|zk<|Zh<|Xp rfl rfl rfl h
def n41 a R w:=
 opV Pg (box 123 a) (Zj R) w λ b w=>
 L0 123 b R w λ c w=>
 opV Pg (buildSlice 72 1 #[(0,c)]) (Zj R) w λ d w=>
 opV Pg (build 74 #[(1,d)]) (Zj R) w λ e w=>
 C0 162 #[e] R w λ f w=>
 C0 166 #[f] R w λ g w=>
 R (.returned g) w
def Zlf:QqQ1 141 n41:=λ h=>by
 refine yD func141 ?_
 refine zs<|zr<|yv h λ h=>zm<|zn<|zk<|zs<|zr<|yv h λ h=>yS h λ h=>yB h λ h=>yc h Zfm λ h=>yc h ZjV λ h=>zm<|zn ?_
 exact zk<|Zh<|Zf rfl rfl h
def ZhB a b (R:RT) w:=
 C0 167 #[a,b] R w λ c w=>
 B0 .geq 3 true c (QqJ 0) R w λ d w=>
 R (.returned d) w
def ZhC:QqQ2 142 ZhB:=λ h=>by
 refine yD func142 ?_
 refine zs<|zr<|zm<|zn<|zk<|zs<|zr<|zm<|zm<|yc h ZjW λ h=>yb h λ h=>zm<|zn<|zk<|Zh ?_
 exact Zf rfl rfl h
def Sq b c a (Zu:KV) R w:=
 F0 74 c 1 R w λ d w=>
 L0 72 d R w λ e w=>
 X0 72 e a R w λ f w=>
 F0 123 f 0 R w λ g w=>
 L0 9 g R w λ h w=>
 B0 .eql 9 false h b R w λ i w=>
 Zo i (
 R (.returned a) w) (
 B0 .add 3 true a (QqJ 1) R w λ j w=>
 Zu j w)
def n57 b c d R w:=
 opV Pg (box 74 b) (Zj R) w λ e w=>
 Yz (λ a w Zu=>
 B0 .lss 3 false a d R w λ f w=>
 Zo f (
 Sq c e a Zu R w) (
 R (.returned (.int .i64 (-1))) w)) (QqJ 0) w
def Zlv:QqQ3 143 n57:=λ h=>by
 refine yD func143 ?_
 refine zs<|zr<|yv h λ h=>zm<|zn<|zk<|zs<|zs<|zr<|zm<|zn<|zk<|Zk<|yl1 [6,7,8,9,10,11,12,13,14,15,16,17,18,19,20,21] 7 h λ σ w next h=>zs ?_
 refine zs<|zr<|zm<|zm<|yb h λ h=>zn<|zk<|yC h (λ h=>?_) λ h=>?_
 · refine Zi<|zk<|zs<|Zk<|zs<|zr<|yv h λ h=>yv h λ h=>zm<|yv h λ h=>yv h λ h=>yv h λ h=>zm<|yb h λ h=>zn ?_
   exact zk<|yC h (λ h=>zs<|zr<|zm<|zm<|zn<|zk<|Zh<|Zd<|Zb<|Zb<|Zd<|Zb<|Zf rfl rfl h) λ h=>Zi<|Zg<|zk<|zr<|zm<|yb h λ h=>zm<|zn<|zk<|⟨rfl,h⟩
 exact ZD<|Zc<|Zc<|Zp<|zk<|zs<|zr<|zm<|zn<|zk<|Zh<|Zf rfl rfl h
def Zgh a R w:=
 opN Pg (Y6 a) (Zj R) w λ b w=>
 F0 123 b 2 R w λ c w=>
 opU Pg (storeAt 3 c (QqJ 0)) (Zj R) w λ w=>
 R (.returned (.tuple #[])) w
def Zgi:QqQ1 233 Zgh:=λ h=>by
 refine yD func233 ?_
 exact zr<|zm<|yN h λ h=>yv h λ h=>yu h λ h=>zn<|ZS<|Z2 rfl h
def Iv d b e f (R:RT) w:=
 Zm (λ (a:Vl) (w:Wd)=>
 Zw b (.bool true) a λ g=>
 C0 135 #[d,g,(QqJ 6)] R w λ h w=>
 R (.returned (.tuple #[])) w) λ c=>
 Zl b false (
 Zw e f (.bool false) λ a=>
 c a w) (
 c undef w)
def Iw d e f b R w:=
 Zm (λ (a:Vl) (w:Wd)=>
 Iv d f b a R w) λ c=>
 Zl b true (
 F0 123 e 2 R w λ g w=>
 L0 3 g R w λ h w=>
 B0 .rem 3 true h (QqJ 8) R w λ i w=>
 B0 .eql 3 true i (QqJ 0) R w λ a w=>
 c a w) (
 c undef w)
def Iy g b c d R w:=
 Zm (λ (a:Vl) (w:Wd)=>
 Zm (λ (h:Vl) (w:Wd)=>
 Iw g b c h R w) λ e=>
 Zl c false (
 Zw d a (.bool false) λ i=>
 e i w) (
 e undef w)) λ f=>
 Zl d true (
 F0 123 b 2 R w λ j w=>
 L0 3 j R w λ k w=>
 B0 .leq 3 true k (QqJ 512) R w λ a w=>
 f a w) (
 f undef w)
def Iz d a e f R w:=
 Zw e (.bool true) f λ b=>
 Zm (λ (g:Vl) (w:Wd)=>
 Iy d a b g R w) λ c=>
 Zl b false (
 F0 123 a 2 R w λ h w=>
 L0 3 h R w λ i w=>
 B0 .geq 3 true i (QqJ 8) R w λ j w=>
 c j w) (
 c undef w)
def Zgj e f R w:=
 opV Pg (box 123 f) (Zj R) w λ a w=>
 F0 123 a 2 R w λ g w=>
 L0 3 g R w λ h w=>
 B0 .eql 3 true h (QqJ 2) R w λ c w=>
 Zm (λ (b:Vl) (w:Wd)=>
 Iz e a c b R w) λ d=>
 Zl c false (
 F0 123 a 2 R w λ i w=>
 L0 3 i R w λ j w=>
 B0 .eql 3 true j (QqJ 4) R w λ b w=>
 d b w) (
 d undef w)
def Zgk:QqQ2 234 Zgj:=λ h=>by
 refine yD func234 ?_
 refine zs<|zr<|yv h λ h=>zn<|zk<|Zr<|yG 5<|zm<|yv h λ h=>yv h λ h=>yb h λ h=>zm<|zn<|yg1 3 4 false [9,10,11] 11 h (λ _ T hT h=>?_) λ σ w h=>?_
 · refine yv h λ h=>yv h λ h=>yb h λ h=>zn ?_
   exact zt hT h
 refine yG 2<|yp h λ h=>zm<|zn<|yg1 4 9 false [14,15,16,17] 17 h (λ _ T hT h=>?_) λ σ w h=>?_
 · refine yv h λ h=>yv h λ h=>yb h λ h=>zm<|zn ?_
   exact zt hT h
 refine yg1 3 13 true [18,19,20] 20 h (λ _ T hT h=>?_) λ σ w h=>?_
 · refine yv h λ h=>yv h λ h=>yb h λ h=>zn ?_
   exact zt hT h
 refine yg1 2 9 false [21,22] 22 h (λ _ T hT h=>?_) λ σ w h=>?_
 · refine yp h λ h=>zm<|zn ?_
   exact zt hT h
 refine yg1 4 18 true [23,24,25,26] 26 h (λ _ T hT h=>?_) λ σ w h=>?_
 · refine yv h λ h=>yv h λ h=>yb h λ h=>yb h λ h=>zn ?_
   exact zt hT h
 refine yg1 1 9 false [27] 27 h (λ _ T hT h=>?_) λ σ w h=>?_
 · refine yp h λ h=>zn ?_
   exact zt hT h
 exact yG 2<|yp h λ h=>yc h Us λ h=>zn<|ZG<|ZS<|Z2 rfl h
def Zgl a R w:=
 opN Pg (Y6 a) (Zj R) w λ b w=>
 F0 123 b 10 R w λ c w=>
 opU Pg (storeAt 9 c (.string { data := #[] })) (Zj R) w λ w=>
 opN Pg (Y6 a) (Zj R) w λ d w=>
 F0 123 d 12 R w λ e w=>
 opU Pg (storeAt 3 e (QqJ 0)) (Zj R) w λ w=>
 R (.returned (.tuple #[])) w
def Zgm:QqQ1 235 Zgl:=λ h=>by
 refine yD func235 ?_
 exact zr<|zm<|zm<|yN h λ h=>yv h λ h=>yu h λ h=>yN h λ h=>yv h λ h=>yu h λ h=>zn<|ZS<|Z2 rfl h
def Ec c a (b:WPr) (R:RT) w:=
 qV Pg b (extract a 0) λ e=>
 qV Pg b (extract a 1) λ d=>
 C0 135 #[c,d,(QqJ 8)] R w λ f w=>
 R (.returned (.tuple #[])) w
def Ed b c (a:WPr) (R:RT) w:=
 J0 123 c 10 a λ d=>
 I0 9 d a λ e=>
 C0 195 #[b] R w λ f w=>
 a w∧(
 qV Pg a (build 74 #[(1,f)]) λ g=>
 C0 140 #[g,e] R w λ h w=>
 a w∧(
 Ec b h a R w))
def Zgp a c R w:=
 opV Pg (box 123 c) (Zj R) w λ b w=>
 F0 123 b 12 R w λ d w=>
 L0 3 d R w λ e w=>
 opV Pg (buildSlice 61 1 #[(0,e)]) (Zj R) w λ f w=>
 C0 215 #[a,(QqJ 1),(QqJ 3),f] R w λ h w=>
 Yg w λ g w=>
 Ed a b g R w
def Zgq:QqQ2 236 Zgp:=λ h=>by
 refine yD func236 ?_
 refine zs<|zr<|yv h λ h=>zn<|zk<|zs<|zr<|zm<|yv h λ h=>yv h λ h=>yS h λ h=>yc h DL λ h=>zn<|zk<|zs ?_
 refine yh [4,5,11,12,13,14,15,16,17,18,19] h λ C hC h=>yw 0 hC ?_
 refine ye 3 hC h λ h=>?_
 refine ye 4 hC h λ h=>?_
 refine yo 1 ?_
 refine yc h Np λ h=>zn ?_
 obtain ⟨hC,h⟩:=h
 refine ⟨hC,?_⟩
 refine ye 2 hC h λ h=>?_
 refine yo 5 ?_
 refine yc h ZdS λ h=>zn ?_
 obtain ⟨hC,h⟩:=h
 refine ⟨hC,?_⟩
 refine yw 6 hC ?_
 refine ye 7 hC h λ h=>?_
 refine ye 8 hC h λ h=>?_
 refine yw 9 hC ?_
 refine yw 10 hC ?_
 exact yz<|zk<|zr<|zm<|zm<|yc h Us λ h=>zn<|ZS<|Z2 rfl h
def Zgr a R w:=
 opV Pg (build 120 #[]) (Zj R) w λ b w=>
 opN Pg (Y6 a) (Zj R) w λ c w=>
 F0 123 c 8 R w λ d w=>
 opU Pg (storeAt 9 d (.string { data := #[] })) (Zj R) w λ w=>
 opN Pg (Y6 a) (Zj R) w λ e w=>
 F0 123 e 7 R w λ f w=>
 S0 120 f b R w λ w=>
 opN Pg (Y6 a) (Zj R) w λ g w=>
 F0 123 g 13 R w λ h w=>
 opU Pg (storeAt 3 h (QqJ 0)) (Zj R) w λ w=>
 R (.returned (.tuple #[])) w
def Zgs:QqQ1 237 Zgr:=λ h=>by
 refine yD func237 ?_
 refine zr<|zm<|zm<|zm<|yB h λ h=>yN h λ h=>yv h λ h=>yu h λ h=>yN h λ h=>yv h λ h=>yu h λ h=>yN h λ h=>yv h λ h=>yu h λ h=>zn ?_
 exact ZS<|Z2 rfl h
def PN b c (a:WPr) (R:RT) w:=
 qN Pg a (Y6 b) λ d=>
 J0 201 d 2 a λ e=>
 I0 199 e a λ f=>
 J0 123 c 8 a λ g=>
 I0 9 g a λ h=>
 qV Pg a (lookup 199 f h false) λ i=>
 C0 135 #[b,i,(QqJ 8)] R w λ k w=>
 a w∧(
 L0 123 c R w λ j w=>
 C0 221 #[b,j] R w λ l w=>
 R (.returned (.tuple #[])) w)
def Zgt a c R w:=
 opV Pg (box 123 c) (Zj R) w λ b w=>
 F0 123 b 13 R w λ d w=>
 L0 3 d R w λ e w=>
 opV Pg (buildSlice 61 1 #[(0,e)]) (Zj R) w λ f w=>
 C0 215 #[a,(QqJ 0),(QqJ 4294967295),f] R w λ h w=>
 Yg w λ g w=>
 PN a b g R w
def Zgu:QqQ2 238 Zgt:=λ h=>by
 refine yD func238 ?_
 refine zs<|zr<|yv h λ h=>zn<|zk<|zs<|zr<|zm<|yv h λ h=>yv h λ h=>yS h λ h=>yc h DL λ h=>zn<|zk<|zs ?_
 refine yh [9,10,11,12,13,14,15,16,17] h λ C hC h=>yw 0 hC ?_
 refine yw 1 hC ?_
 refine yn 2 hC h λ h=>?_
 refine ye 3 hC h λ h=>?_
 refine ye 4 hC h λ h=>?_
 refine ye 5 hC h λ h=>?_
 refine ye 6 hC h λ h=>?_
 refine ye 7 hC h λ h=>?_
 refine yo 8 ?_
 refine yc h Us λ h=>zn ?_
 obtain ⟨hC,h⟩:=h
 refine ⟨hC,?_⟩
 exact yz<|zk<|zr<|zm<|yv h λ h=>yc h ZdU λ h=>zn<|ZS<|Z2 rfl h
def ZgJ c R w:=
 opV Pg (box 123 c) (Zj R) w λ a w=>
 opV Pg (alloc 287 true (.tuple #[])) (Zj R) w λ b w=>
 F0 123 a 0 R w λ d w=>
 L0 9 d R w λ e w=>
 F0 123 a 8 R w λ f w=>
 L0 9 f R w λ g w=>
 F0 123 a 9 R w λ h w=>
 L0 9 h R w λ i w=>
 F0 123 a 10 R w λ j w=>
 L0 9 j R w λ k w=>
 F0 123 a 1 R w λ l w=>
 L0 117 l R w λ m w=>
 F0 123 a 2 R w λ n w=>
 L0 3 n R w λ o w=>
 F0 123 a 5 R w λ p w=>
 L0 3 p R w λ q w=>
 F0 123 a 6 R w λ r w=>
 L0 3 r R w λ s w=>
 F0 123 a 7 R w λ t w=>
 F0 120 t 0 R w λ u w=>
 L0 3 u R w λ v w=>
 F0 123 a 12 R w λ x w=>
 L0 3 x R w λ y w=>
 F0 123 a 13 R w λ z w=>
 L0 3 z R w λ A w=>
 F0 123 a 3 R w λ B w=>
 L0 4 B R w λ C w=>
 F0 123 a 4 R w λ D w=>
 L0 4 D R w λ E w=>
 opV Pg (build 287 #[(0,e),(1,g),(2,i),(3,k),(4,m),(5,o),(6,q),(7,s),(8,v),(9,y),(10,A),(11,C),(12,E)]) (Zj R) w λ G w=>
 S0 287 b G R w λ w=>
 qW Pg 287 b w λ r0=>
 R (.returned r0) w
def ZgK:QqQ1 239 ZgJ:=λ h=>by
 refine yD func239 ?_
 refine zs<|zr<|yv h λ h=>yv h λ h=>zn<|zk<|zs<|zr<|yv h λ h=>yv h λ h=>yv h λ h=>yv h λ h=>yv h λ h=>yv h λ h=>yv h λ h=>?_
 refine yv h λ h=>yv h λ h=>yv h λ h=>yv h λ h=>yv h λ h=>yv h λ h=>yv h λ h=>yv h λ h=>yv h λ h=>yv h λ h=>yv h λ h=>yv h λ h=>yv h λ h=>yv h λ h=>yv h λ h=>?_
 exact yv h λ h=>yv h λ h=>yv h λ h=>yv h λ h=>yv h λ h=>yB h λ h=>yu h λ h=>zn<|zk<|Zh<|UY rfl rfl h
def JE c d b (a:WPr) (Zu:KV) (R:RT) w:=
 M0 118 c b a λ e=>
 I0 128 e a λ f=>
 M0 118 d b a λ g=>
 I0 128 g a λ h=>
 qV Pg a (ZP .neq 128 false f h) λ i=>
 Zo i (
 R (.returned (.bool false)) w) (
 B0 .add 3 true b (QqJ 1) R w λ j w=>
 Zu j w)
def JF a c R w:=
 G0 118 3 a R w λ d w=>
 Yz (λ b w Zu=>
 B0 .lss 3 false b d R w λ e w=>
 Zo e (
 Yg w λ f w=>
 JE a c b f Zu R w) (
 R (.returned (.bool true)) w)) (QqJ 0) w
def ZhL a b R w:=
 G0 118 3 a R w λ c w=>
 G0 118 3 b R w λ d w=>
 B0 .neq 3 false c d R w λ e w=>
 Zo e (
 R (.returned (.bool false)) w) (
 JF a b R w)
def ZhM:QqQ2 240 ZhL:=λ h=>by
 refine yD func240 ?_
 refine zs<|zr<|zm<|zn<|zk<|zs<|zs<|zr<|zm<|yx h λ h=>zm<|yx h λ h=>yb h λ h=>zn<|zk ?_
 refine yC h (λ h=>zs<|zr<|zm<|zn<|zk<|Zh<|Zb<|Zf rfl rfl h) λ h=>Zi<|zk<|zs<|zs<|zr<|zm<|yx h λ h=>zm<|zn<|zk<|Zk<|yl1 [4,5,13,14,15,16,17,18,19,20,21,22,23,24,25] 13 h λ σ w next h=>zs ?_
 refine zr<|yb h λ h=>zn<|zk<|zs<|yC h (λ h=>?_) λ h=>?_
 · refine Zi<|zk<|zs<|Zk<|zs<|zr<|zm<|zm<|zn<|zk<|zs<|yh [16,17,18,19,20,21,22,23,24] h λ C hC h=>yw 0 hC ?_
   refine yw 1 hC ?_
   refine ye 2 hC h λ h=>?_
   refine ye 3 hC h λ h=>?_
   refine yw 4 hC ?_
   refine yw 5 hC ?_
   refine ye 6 hC h λ h=>?_
   refine ye 7 hC h λ h=>?_
   refine ye 8 hC h λ h=>?_
   exact yz<|zk<|yC h (λ h=>zs<|zr<|zm<|zn<|zk<|Zh<|Zd<|Zb<|Zb<|Zd<|Zb<|Zf rfl rfl h) λ h=>Zi<|Zg<|zk<|zr<|yb h λ h=>zm<|zn<|zk<|⟨rfl,h⟩
 exact ZD<|Zc<|Zc<|Zp<|zk<|zs<|zr<|zm<|zn<|zk<|Zh<|Zf rfl rfl h
def JA c d b (a:WPr) (Zu:KV) (R:RT) w:=
 M0 121 c b a λ e=>
 I0 213 e a λ f=>
 M0 121 d b a λ g=>
 I0 213 g a λ h=>
 qV Pg a (ZP .neq 213 false f h) λ i=>
 Zo i (
 R (.returned (.bool false)) w) (
 B0 .add 3 true b (QqJ 1) R w λ j w=>
 Zu j w)
def JB a c R w:=
 G0 121 3 a R w λ d w=>
 Yz (λ b w Zu=>
 B0 .lss 3 false b d R w λ e w=>
 Zo e (
 Yg w λ f w=>
 JA a c b f Zu R w) (
 R (.returned (.bool true)) w)) (QqJ 0) w
def ZhH a b R w:=
 G0 121 3 a R w λ c w=>
 G0 121 3 b R w λ d w=>
 B0 .neq 3 false c d R w λ e w=>
 Zo e (
 R (.returned (.bool false)) w) (
 JB a b R w)
def ZhI:QqQ2 241 ZhH:=λ h=>by
 refine yD func241 ?_
 refine zs<|zr<|zm<|zn<|zk<|zs<|zs<|zr<|zm<|yx h λ h=>zm<|yx h λ h=>yb h λ h=>zn<|zk ?_
 refine yC h (λ h=>zs<|zr<|zm<|zn<|zk<|Zh<|Zb<|Zf rfl rfl h) λ h=>Zi<|zk<|zs<|zs<|zr<|zm<|yx h λ h=>zm<|zn<|zk<|Zk<|yl1 [4,5,13,14,15,16,17,18,19,20,21,22,23,24,25] 13 h λ σ w next h=>zs ?_
 refine zr<|yb h λ h=>zn<|zk<|zs<|yC h (λ h=>?_) λ h=>?_
 · refine Zi<|zk<|zs<|Zk<|zs<|zr<|zm<|zm<|zn<|zk<|zs<|yh [16,17,18,19,20,21,22,23,24] h λ C hC h=>yw 0 hC ?_
   refine yw 1 hC ?_
   refine ye 2 hC h λ h=>?_
   refine ye 3 hC h λ h=>?_
   refine yw 4 hC ?_
   refine yw 5 hC ?_
   refine ye 6 hC h λ h=>?_
   refine ye 7 hC h λ h=>?_
   refine ye 8 hC h λ h=>?_
   exact yz<|zk<|yC h (λ h=>zs<|zr<|zm<|zn<|zk<|Zh<|Zd<|Zb<|Zb<|Zd<|Zb<|Zf rfl rfl h) λ h=>Zi<|Zg<|zk<|zr<|yb h λ h=>zm<|zn<|zk<|⟨rfl,h⟩
 exact ZD<|Zc<|Zc<|Zp<|zk<|zs<|zr<|zm<|zn<|zk<|Zh<|Zf rfl rfl h
def n55 b R w:=
 opV Pg (ZP .geq 3 true b (.int .i64 (-1048576))) (Zj R) w λ c w=>
 Zm (λ (a:Vl) (w:Wd)=>
 Zw c a (.bool false) λ e=>
 R (.returned e) w) λ d=>
 Zl c true (
 B0 .leq 3 true b (QqJ 1048576) R w λ a w=>
 d a w) (
 d undef w)
def Zlt:QqQ1 242 n55:=λ h=>by
 refine yD func242 ?_
 refine zs<|zr<|zm<|zn<|zk<|zs<|Zr<|yG 3<|zm<|yb h λ h=>zm<|zn<|yg1 2 2 true [6,7] 7 h (λ _ T hT h=>?_) λ σ w h=>?_
 · refine zm<|yb h λ h=>zn ?_
   exact zt hT h
 exact yG 2<|yp h λ h=>zm<|zn<|ZG<|zk<|Zh<|Zf rfl rfl h
def Zcz d e a b (Zu:KW) R w:=
 X0 264 d b R w λ f w=>
 F0 266 f 0 R w λ g w=>
 L0 9 g R w λ h w=>
 B0 .eql 9 false h e R w λ i w=>
 Zm (λ (a:Vl) (w:Wd)=>
 B0 .add 3 true b (QqJ 1) R w λ j w=>
 Zu a j w) λ c=>
 Zo i (
 c b w) (
 c a w)
def R3 a d b c (Zu:KW) R w:=
 G0 264 3 a R w λ e w=>
 B0 .lss 3 false c e R w λ f w=>
 Zo f (
 Zcz a d b c Zu R w) (
 R (.returned b) w)
def n49 a b R w:=
 Qq (λ c d w Zu=>
 R3 a b c d Zu R w) (.int .i64 (-1)) (QqJ 0) w
def Zln:QqQ2 243 n49:=λ h=>by
 refine yD func243 ?_
 refine zs<|zr<|zm<|zn<|zk<|zs<|zr<|zm<|zn<|zk<|zs<|zs<|zr<|zm<|zn ?_
 refine zk<|Zk<|yl2 [5,6,7,8,9,10,11,12,13,14,15,16,17,18,19,20] 5 6 h λ σ w next h=>zs<|zs<|zr<|zm<|zm<|yx h λ h=>yb h λ h=>zn<|zk<|yC h (λ h=>?_) λ h=>?_
 · refine Zi<|zk<|zs<|Zk<|zs<|zr<|zm<|zm<|yv h λ h=>yv h λ h=>yv h λ h=>zm<|yb h λ h=>zn<|zk ?_
   refine yJ1 [5,20] 5 h (λ _ _ hkK2 h=>?_) λ σ w h=>?_
   · refine yC h (λ h=>?_) λ h=>?_
     · refine zr<|zm<|zm<|zn<|zk ?_
       exact zt hkK2 h
     refine Zi<|zk ?_
     exact zt hkK2 h
   exact Zg<|zk<|zr<|zm<|yb h λ h=>zm<|zn<|zk<|⟨rfl,h⟩
 exact ZD<|Zc<|Zc<|Zp<|zk<|zs<|zr<|zm<|zm<|zn<|zk<|Zh<|Zf rfl rfl h
def xI e f c (a:WPr) (R:RT) w:=
 Zm (λ (b:Vl) (w:Wd)=>
 Zw c b (.bool false) λ g=>
 R (.returned g) w) λ d=>
 Zl c true (
 J0 120 e 1 a λ h=>
 I0 118 h a λ i=>
 C0 254 #[i,f] R w λ j w=>
 a w∧(
 qV Pg a (Op.unary .not j) λ b=>
 d b w)) (
 d undef w)
def xJ b c d e (a:WPr) R w:=
 a w∧(
 opV Pg (buildSlice 170 2 #[(0,d),(1,e)]) (Zj R) w λ f w=>
 a w∧(
 C0 74 #[f] R w λ g w=>
 a w∧(
 xI b c g a R w)))
def xK b c (a:WPr) (R:RT) w:=
 J0 120 b 0 a λ d=>
 I0 3 d a λ e=>
 J0 120 b 1 a λ f=>
 I0 118 f a λ g=>
 qV Pg a (Builtin.len_ #[118] 3 #[g]) λ h=>
 qV Pg a (ZP .leq 3 true h (QqJ 4)) λ i=>
 C0 253 #[e] R w λ j w=>
 xJ b c j i a R w
def Zg5 b R w:=
 opV Pg (box 120 b) (Zj R) w λ c w=>
 opV Pg (Instr.makeMap 199 none) (Zj R) w λ d w=>
 opV Pg (alloc 199 true (.tuple #[])) (Zj R) w λ a w=>
 S0 199 a d R w λ w=>
 opV Pg (makeFunc (.func 252) #[] #[a]) (Zj R) w λ e w=>
 Yg w λ f w=>
 xK c e f R w
def Zg6:QqQ1 246 Zg5:=λ h=>by
 refine yD func246 ?_
 refine zs<|zr<|yv h λ h=>zm<|zn<|zk<|zs<|zr<|yv h λ h=>yv h λ h=>yu h λ h=>zn<|zk<|zs<|zr ?_
 refine yF h λ h=>zm<|zn<|zk<|zs<|yh [2,7,8,9,10,11,12,13,14,15,16,17,18,19,20,21,22] h λ C hC h=>ye 0 hC h λ h=>?_
 refine ye 1 hC h λ h=>?_
 refine ye 3 hC h λ h=>?_
 refine ye 4 hC h λ h=>?_
 refine ye 5 hC h λ h=>?_
 refine ye 6 hC h λ h=>?_
 refine yo 2 ?_
 refine yc h Zfy λ h=>zn ?_
 obtain ⟨hC,h⟩:=h
 refine ⟨hC,?_⟩
 refine yo 7 ?_
 refine yS h λ h=>zn ?_
 obtain ⟨hC,h⟩:=h
 refine ⟨hC,?_⟩
 refine yo 8 ?_
 refine yc h c74 λ h=>zn ?_
 obtain ⟨hC,h⟩:=h
 refine ⟨hC,?_⟩
 refine yw 9 hC ?_
 refine yj1 2 [14,13,12,11,10,9,8,7,2,6,5,4,3,1,0] [17,18,19,20,21] 21 h (λ _ hT hb h=>?_) (λ _ hT hb h=>?_) λ σ w hC h=>?_
 · refine ye 10 hC h λ h=>?_
   refine ye 11 hC h λ h=>?_
   refine yw 12 hC ?_
   refine yo 13 ?_
   refine yc h Zkz λ h=>zn ?_
   obtain ⟨hC,h⟩:=h
   refine ⟨hC,?_⟩
   refine ye 14 hC h λ h=>?_
   exact yt hT hC h
 · refine yi 10 hC ?_
   refine yi 11 hC ?_
   refine yi 12 hC ?_
   refine yi 13 hC ?_
   refine yi 14 hC ?_
   exact yt hT hC h
 refine yP 15 hC h λ _ h=>?_
 refine yw 16 hC ?_
 exact yz<|zk<|Zh<|Zf rfl rfl h
def xC a b c (d:WPr) R w:=
 F0 123 a 0 R w λ e w=>
 L0 9 e R w λ f w=>
 L0 300 b R w λ g w=>
 opU Pg (mapUpdate 296 c f g) (Zj R) w λ w=>
 d w
def xD d e f a (Zu:KV) R w:=
 E0q a 0 R w λ g w=>
 E0q a 1 R w λ h w=>
 opV Pg (alloc 300 true (.tuple #[])) (Zj R) w λ b w=>
 S0 300 b g R w λ w=>
 B0 .eql 49 true h (QqJ 0) R w λ i w=>
 Zm (λ (w:Wd)=>
 B0 .add 3 true f (QqJ 1) R w λ j w=>
 Zu j w) λ c=>
 Zo i (
 xC d b e c R w) (
 c w)
def xE c d b (Zu:KV) R w:=
 X0 72 c b R w λ e w=>
 L0 123 e R w λ f w=>
 opV Pg (alloc 123 true (.tuple #[])) (Zj R) w λ a w=>
 S0 123 a f R w λ w=>
 L0 123 a R w λ g w=>
 C0 255 #[g] R w λ h w=>
 xD a d b h Zu R w
def ZgL a R w:=
 opV Pg (Instr.makeMap 296 none) (Zj R) w λ b w=>
 G0 72 3 a R w λ d w=>
 Yz (λ c w Zu=>
 B0 .lss 3 false c d R w λ e w=>
 Zo e (
 xE a b c Zu R w) (
 R (.returned b) w)) (QqJ 0) w
def ZgM:QqQ1 247 ZgL:=λ h=>by
 refine yD func247 ?_
 refine zs<|zr<|zm<|zn<|zk<|zs<|zr<|yv h λ h=>zm<|zn<|zk<|zs<|zs<|zr<|zm ?_
 refine yx h λ h=>zm<|zn<|zk<|Zk<|yl1 [5,6,7,11,12,13,14,15,16,17,18,19,20,21,22,23,24,25,26] 11 h λ σ w next h=>zs<|zr<|yb h λ h=>zn<|zk<|zs<|yC h (λ h=>?_) λ h=>?_
 · refine Zi<|zk<|zs<|Zk<|zs<|zr<|yv h λ h=>yv h λ h=>yv h λ h=>yu h λ h=>zn<|zk<|zs<|zr<|yv h λ h=>?_
   refine yc h ZkA λ h=>zm<|yv h λ h=>yv h λ h=>yv h λ h=>yu h λ h=>zm<|zn<|zk<|zs<|zr<|zm<|yb h λ h=>zn<|zk ?_
   refine yJ0 [22,23,24,25] h (λ _ _ hkK2 h=>?_) λ σ w h=>?_
   · refine yC h (λ h=>?_) λ h=>?_
     · refine zr<|zm<|yv h λ h=>yv h λ h=>yv h λ h=>yu h λ h=>zn<|zk ?_
       exact zt hkK2 h
     refine Zi<|zk ?_
     exact zt hkK2 h
   exact Zg<|zk<|zr<|yb h λ h=>zm<|zn<|zk<|⟨rfl,h⟩
 exact ZD<|Zc<|Zc<|Zp<|zk<|zs<|zr<|zm<|zm<|zn<|zk<|Zh<|Zf rfl rfl h
def AO a b (c:WPr) R w:=
 F0 120 a 1 R w λ d w=>
 L0 118 d R w λ e w=>
 C0 256 #[e] R w λ f w=>
 S0 118 b f R w λ w=>
 c w
def Zg1 d R w:=
 opV Pg (box 120 d) (Zj R) w λ a w=>
 opV Pg (alloc 118 true (.tuple #[])) (Zj R) w λ b w=>
 L0 120 a R w λ e w=>
 C0 246 #[e] R w λ f w=>
 Zm (λ (w:Wd)=>
 opV Pg (makeFunc (.func 257) #[] #[b]) (Zj R) w λ g w=>
 R (.returned g) w) λ c=>
 Zo f (
 AO a b c R w) (
 c w)
def Zg2:QqQ1 248 Zg1:=λ h=>by
 refine yD func248 ?_
 refine zs<|zr<|yv h λ h=>zm<|zn<|zk<|zs<|zr<|yv h λ h=>zn<|zk<|zs<|zs<|zr<|yv h λ h=>?_
 refine yc h ZdW λ h=>zn<|zk<|yJ0 [6,7,8] h (λ _ _ hkK1 h=>?_) λ σ w h=>?_
 · refine yC h (λ h=>?_) λ h=>?_
   · refine zr<|yv h λ h=>yv h λ h=>yc h ZkB λ h=>yu h λ h=>zn<|zk ?_
     exact zt hkK1 h
   refine Zi<|zk ?_
   exact zt hkK1 h
 exact zk<|zs<|zr<|yF h λ h=>zm<|zn<|zk<|Zh<|Zf rfl rfl h
def AM a b c R w:=
 opV Pg (build 300 #[(0,b),(1,c)]) (Zj R) w λ d w=>
 S0 300 a d R w λ w=>
 qW Pg 300 a w λ r0=>
 R (.returned (.tuple #[r0,(QqJ 0)])) w
def AN b c d R w:=
 opV Pg (makeFunc (.func 260) #[] #[b,c]) (Zj R) w λ a w=>
 Qp Pg a #[(.bool true)] (Zj R) w λ e w=>
 Qp Pg a #[(.bool false)] (Zj R) w λ f w=>
 AM d e f R w
def xF c d a b R w:=
 B0 .neq 49 true b (QqJ 0) R w λ e w=>
 Zo e (
 opV Pg (build 300 #[]) (Zj R) w λ f w=>
 S0 300 a f R w λ w=>
 qW Pg 300 a w λ r0=>
 R (.returned (.tuple #[r0,b])) w) (
 AN c d a R w)
def ZgP c d R w:=
 opV Pg (box 120 c) (Zj R) w λ a w=>
 opV Pg (box 296 d) (Zj R) w λ b w=>
 opV Pg (alloc 300 true (.tuple #[])) (Zj R) w λ e w=>
 L0 120 a R w λ f w=>
 L0 296 b R w λ g w=>
 Yb Pg 259 #[f,(.string { data := #[] }),g,(.func (.func 258) #[] #[])] (Zj R) w λ h w=>
 xF a b e h R w
def ZgQ:QqQ2 249 ZgP:=λ h=>by
 refine yD func249 ?_
 refine zs<|zr<|yv h λ h=>yv h λ h=>yv h λ h=>zm<|zn<|zk<|zs<|zr<|zm<|zn<|zk<|zs<|zs ?_
 refine zr<|yv h λ h=>yv h λ h=>zm<|yc h ZkD λ h=>zm<|zn<|zk<|zs<|zr<|zm<|yb h λ h=>zn<|zk<|yC h (λ h=>zs<|zr<|yB h λ h=>zm<|yu h λ h=>zm<|zn<|zk<|Zh<|Zb<|Z7 rfl rfl rfl h) λ h=>?_
 refine Zi<|zk<|zs<|zr<|yF h λ h=>zm<|zn<|zk<|zs<|zr<|zm<|yV h λ h=>zm<|yV h λ h=>yB h λ h=>?_
 exact yu h λ h=>zm<|zn<|zk<|Zh<|Z7 rfl rfl rfl h
def Zhp a b (R:RT) w:=
 C0 199 #[a,b] R w λ c w=>
 B0 .geq 3 true c (QqJ 0) R w λ d w=>
 R (.returned d) w
def Zhq:QqQ2 250 Zhp:=λ h=>by
 refine yD func250 ?_
 refine zs<|zr<|zm<|zn<|zk<|zs<|zr<|zm<|zm<|yc h Zfr λ h=>yb h λ h=>zm<|zn<|zk<|Zh ?_
 exact Zf rfl rfl h
def n94 e f R w:=
 opV Pg (box 123 e) (Zj R) w λ b w=>
 F0 123 b 1 R w λ g w=>
 L0 117 g R w λ h w=>
 B0 .eql 117 true h (QqJ 9) R w λ c w=>
 Zm (λ (a:Vl) (w:Wd)=>
 Zw c a (.bool false) λ i=>
 R (.returned i) w) λ d=>
 Zl c true (
 F0 123 b 9 R w λ j w=>
 L0 9 j R w λ k w=>
 F0 123 f 9 R w λ l w=>
 L0 9 l R w λ m w=>
 B0 .eql 9 false k m R w λ a w=>
 d a w) (
 d undef w)
def Zl5:QqQ2 251 n94:=λ h=>by
 refine yD func251 ?_
 refine zs<|zr<|yv h λ h=>zm<|zn<|zk<|zs<|Zr<|yG 4<|yv h λ h=>yv h λ h=>yb h λ h=>zm<|zn<|yg1 5 3 true [8,9,10,11,12] 12 h (λ _ T hT h=>?_) λ σ w h=>?_
 · refine yv h λ h=>yv h λ h=>yv h λ h=>yv h λ h=>yb h λ h=>zn ?_
   exact zt hT h
 exact yG 2<|yp h λ h=>zm<|zn<|ZG<|zk<|Zh<|Zf rfl rfl h
def AR b c d (a:WPr) (e:KV) R w:=
 opV Pg (buildSlice 170 3 #[(0,b),(1,c),(2,d)]) (Zj R) w λ f w=>
 a w∧(
 C0 74 #[f] R w λ g w=>
 a w∧(
 qV Pg a (Op.unary .not g) λ h=>
 e h w))
def AS b (a:WPr) (c:KV) (R:RT) w:=
 J0 128 b 0 a λ d=>
 I0 9 d a λ e=>
 J0 128 b 1 a λ f=>
 I0 3 f a λ g=>
 qV Pg a (ZP .neq 3 true g (QqJ 0)) λ h=>
 J0 128 b 1 a λ i=>
 I0 3 i a λ j=>
 C0 35 #[e] R w λ k w=>
 a w∧(
 C0 253 #[j] R w λ l w=>
 a w∧(
 AR k h l a c R w))
def Zg7 e b R w:=
 opV Pg (box 128 e) (Zj R) w λ a w=>
 L0 199 b R w λ f w=>
 F0 128 a 0 R w λ g w=>
 L0 9 g R w λ h w=>
 opV Pg (lookup 199 f h false) (Zj R) w λ c w=>
 L0 199 b R w λ i w=>
 F0 128 a 0 R w λ j w=>
 L0 9 j R w λ k w=>
 opU Pg (mapUpdate 199 i k (.bool true)) (Zj R) w λ w=>
 Yg w λ l w=>
 Zm (λ (m:Vl) (w:Wd)=>
 Zw c (.bool true) m λ n=>
 R (.returned n) w) λ d=>
 Zl c false (
 AS a l d R w) (
 d undef w)
def Zg8:QqQ2 252 Zg7:=λ h=>by
 refine yD func252 ?_
 refine zs<|zr<|yv h λ h=>zm<|zn<|zk<|zs<|zr<|yv h λ h=>yv h λ h=>yv h λ h=>yv h λ h=>zm<|zn<|zk ?_
 refine zs<|zr<|yv h λ h=>yv h λ h=>yv h λ h=>yu h λ h=>zn<|zk<|zs<|yh [3,12,13,14,15,16,17,18,19,20,21,22,23,24,25,26] h λ C hC h=>yw 0 hC ?_
 refine yw 1 hC ?_
 refine yj1 2 [13,12,11,10,4,9,8,7,6,5,3,2,1,0] [14,15,16,17,18,19,20,21,22,23,24,25] 25 h (λ _ hT hb h=>?_) (λ _ hT hb h=>?_) λ σ w hC h=>?_
 · refine ye 2 hC h λ h=>?_
   refine ye 3 hC h λ h=>?_
   refine ye 5 hC h λ h=>?_
   refine ye 6 hC h λ h=>?_
   refine ye 7 hC h λ h=>?_
   refine ye 8 hC h λ h=>?_
   refine ye 9 hC h λ h=>?_
   refine yo 4 ?_
   refine yc h c35 λ h=>zn ?_
   obtain ⟨hC,h⟩:=h
   refine ⟨hC,?_⟩
   refine yo 10 ?_
   refine yc h Zfy λ h=>zn ?_
   obtain ⟨hC,h⟩:=h
   refine ⟨hC,?_⟩
   refine yo 11 ?_
   refine yS h λ h=>zn ?_
   obtain ⟨hC,h⟩:=h
   refine ⟨hC,?_⟩
   refine yo 12 ?_
   refine yc h c74 λ h=>zn ?_
   obtain ⟨hC,h⟩:=h
   refine ⟨hC,?_⟩
   refine ye 13 hC h λ h=>?_
   exact yt hT hC h
 · refine yi 2 hC ?_
   refine yi 3 hC ?_
   refine yi 5 hC ?_
   refine yi 6 hC ?_
   refine yi 7 hC ?_
   refine yi 8 hC ?_
   refine yi 9 hC ?_
   refine yi 4 hC ?_
   refine yi 10 hC ?_
   refine yi 11 hC ?_
   refine yi 12 hC ?_
   refine yi 13 hC ?_
   exact yt hT hC h
 refine yP 14 hC h λ _ h=>?_
 refine yw 15 hC ?_
 exact yz<|zk<|Zh<|Zf rfl rfl h
def Zhi b R w:=
 opV Pg (ZP .geq 3 true b (.int .i64 (-1048576))) (Zj R) w λ c w=>
 Zm (λ (a:Vl) (w:Wd)=>
 Zw c a (.bool false) λ e=>
 R (.returned e) w) λ d=>
 Zl c true (
 B0 .leq 3 true b (QqJ 1048576) R w λ a w=>
 d a w) (
 d undef w)
def Zhj:QqQ1 253 Zhi:=λ h=>by
 refine yD func253 ?_
 refine zs<|zr<|zm<|zn<|zk<|zs<|Zr<|yG 3<|zm<|yb h λ h=>zm<|zn<|yg1 2 2 true [6,7] 7 h (λ _ T hT h=>?_) λ σ w h=>?_
 · refine zm<|yb h λ h=>zn ?_
   exact zt hT h
 exact yG 2<|yp h λ h=>zm<|zn<|ZG<|zk<|Zh<|Zf rfl rfl h
def Zht a b (R:RT) w:=
 C0 263 #[a,b] R w λ c w=>
 B0 .geq 3 true c (QqJ 0) R w λ d w=>
 R (.returned d) w
def Zhu:QqQ2 254 Zht:=λ h=>by
 refine yD func254 ?_
 refine zs<|zr<|zm<|zn<|zk<|zs<|zr<|zm<|zm<|yc h ZkG λ h=>yb h λ h=>zm<|zn<|zk<|Zh ?_
 exact Zf rfl rfl h
def CW a b R w:=
 F0 123 a 5 R w λ c w=>
 L0 3 c R w λ d w=>
 F0 123 a 5 R w λ e w=>
 L0 3 e R w λ f w=>
 opV Pg (build 300 #[(0,d),(1,f)]) (Zj R) w λ g w=>
 S0 300 b g R w λ w=>
 qW Pg 300 b w λ r0=>
 R (.returned (.tuple #[r0,(QqJ 0)])) w
def CX a b R w:=
 F0 123 a 5 R w λ c w=>
 L0 3 c R w λ d w=>
 F0 123 a 6 R w λ e w=>
 L0 3 e R w λ f w=>
 opV Pg (build 300 #[(0,d),(1,f)]) (Zj R) w λ g w=>
 S0 300 b g R w λ w=>
 qW Pg 300 b w λ r0=>
 R (.returned (.tuple #[r0,(QqJ 0)])) w
def CY a R w:=
 opV Pg (build 300 #[]) (Zj R) w λ b w=>
 S0 300 a b R w λ w=>
 qW Pg 300 a w λ r0=>
 R (.returned (.tuple #[r0,(QqJ 2)])) w
def CZ a b R w:=
 F0 123 a 1 R w λ c w=>
 L0 117 c R w λ d w=>
 B0 .eql 117 true d (QqJ 2) R w λ e w=>
 Zo e (
 CW a b R w) (
 CX a b R w)
def n87 c R w:=
 opV Pg (box 123 c) (Zj R) w λ a w=>
 opV Pg (alloc 300 true (.tuple #[])) (Zj R) w λ b w=>
 L0 123 a R w λ d w=>
 C0 264 #[d] R w λ e w=>
 N0 e R w λ f w=>
 Zo f (
 CY b R w) (
 CZ a b R w)
def ZlZ:QqQ1 255 n87:=λ h=>by
 refine yD func255 ?_
 refine zs<|zr<|yv h λ h=>yv h λ h=>zm<|zn<|zk<|zs<|Zk<|zs<|zr<|yv h λ h=>yc h ZkH λ h=>yv h λ h=>zm ?_
 refine zn<|zk<|yC h (λ h=>zs<|zr<|yB h λ h=>yu h λ h=>zm<|zn<|zk<|Zh<|Zd<|Zb<|Z7 rfl rfl rfl h) λ h=>zs<|zr<|yv h λ h=>yv h λ h=>yb h λ h=>zm<|zn<|zk<|yC h (λ h=>zs<|zr<|yv h λ h=>yv h λ h=>yv h λ h=>yv h λ h=>yB h λ h=>yu h λ h=>zm<|zn<|zk<|Zh<|Zd<|Zb<|Z7 rfl rfl rfl h) λ h=>Zi ?_
 exact Zg<|zk<|zs<|zr<|yv h λ h=>yv h λ h=>yv h λ h=>yv h λ h=>yB h λ h=>yu h λ h=>zm<|zn<|zk<|Zh<|Z7 rfl rfl rfl h
def Zhl a R w:=
 opV Pg (ZP .eql 118 true a (Value.slice none 0 0)) (Zj R) w λ b w=>
 Zo b (
 R (.returned (Value.slice none 0 0)) w) (
 opV Pg (buildSlice 118 0 #[]) (Zj R) w λ c w=>
 opV Pg (Builtin.append_ #[118,118] 118 #[c,a]) (Zj R) w λ d w=>
 R (.returned d) w)
def Zhm:QqQ1 256 Zhl:=λ h=>by
 refine yD func256 ?_
 refine zs<|zr<|zm<|zn<|zk<|zs<|zs<|zr<|zm<|yb h λ h=>zn<|zk<|yC h (λ h=>zs<|zr<|zm<|zn<|zk<|Zh<|Zb<|Zf rfl rfl h) λ h=>Zi ?_
 exact zk<|zs<|zr<|yS h λ h=>zm<|yx h λ h=>zm<|zn<|zk<|Zh<|Zf rfl rfl h
def AP a b (Zu:KV) R w:=
 N0 b R w λ c w=>
 Zo c (
 R (.returned (.tuple #[])) w) (
 B0 .add 3 true a (QqJ 1) R w λ d w=>
 Zu d w)
def AQ c d a (Zu:KV) R w:=
 X0 118 d a R w λ e w=>
 L0 128 e R w λ f w=>
 opV Pg (alloc 128 true (.tuple #[])) (Zj R) w λ b w=>
 S0 128 b f R w λ w=>
 F0 128 b 0 R w λ g w=>
 L0 9 g R w λ h w=>
 Qp Pg c #[h] (Zj R) w λ i w=>
 AP a i Zu R w
def Zg3 c d R w:=
 L0 118 d R w λ a w=>
 G0 118 3 a R w λ e w=>
 Yz (λ b w Zu=>
 B0 .lss 3 false b e R w λ f w=>
 Zo f (
 AQ c a b Zu R w) (
 R (.returned (.tuple #[])) w)) (QqJ 0) w
def Zg4:QqQ2 257 Zg3:=λ h=>by
 refine yD func257 ?_
 refine zs<|zr<|yv h λ h=>yx h λ h=>zm<|zn<|zk<|Zk<|yl1 [4,7,8,9,10,11,12,13,14,15,16] 7 h λ σ w next h=>zs<|zr<|yb h λ h=>zn<|zk<|zs ?_
 refine yC h (λ h=>?_) λ h=>?_
 · refine Zi<|zk<|zs<|Zk<|zs<|zr<|yv h λ h=>yv h λ h=>yv h λ h=>yu h λ h=>zn<|zk<|zs<|zr<|zm ?_
   refine yv h λ h=>yv h λ h=>yV h λ h=>yv h λ h=>zn<|zk<|yC h (λ h=>Zh<|Zd<|Zb<|Zb<|Zd<|Z2 rfl h) λ h=>Zi<|Zg<|zk<|zr<|yb h λ h=>zm<|zn ?_
   exact zk<|⟨rfl,h⟩
 exact ZD<|Zc<|Zc<|Zp<|ZS<|Z2 rfl h
def ZgR b R w:=
 opV Pg (box 300 b) (Zj R) w λ a w=>
 F0 300 a 0 R w λ c w=>
 L0 3 c R w λ d w=>
 B0 .geq 3 true d (QqJ 0) R w λ e w=>
 F0 300 a 0 R w λ f w=>
 L0 3 f R w λ g w=>
 F0 300 a 1 R w λ h w=>
 L0 3 h R w λ i w=>
 B0 .leq 3 false g i R w λ j w=>
 F0 300 a 1 R w λ k w=>
 L0 3 k R w λ l w=>
 B0 .lss 3 true l (QqJ 34359738368) R w λ m w=>
 opV Pg (buildSlice 170 3 #[(0,e),(1,j),(2,m)]) (Zj R) w λ n w=>
 C0 74 #[n] R w λ o w=>
 R (.returned o) w
def ZgS:QqQ1 258 ZgR:=λ h=>by
 refine yD func258 ?_
 refine zs<|zr<|yv h λ h=>zm<|zn<|zk<|zs<|zr<|yv h λ h=>yv h λ h=>yb h λ h=>yv h λ h=>yv h λ h=>yv h λ h=>yv h λ h=>?_
 exact yb h λ h=>yv h λ h=>yv h λ h=>yb h λ h=>yS h λ h=>yc h c74 λ h=>zm<|zn<|zk<|Zh<|Zf rfl rfl h
def Vw b c d (e:WPr) (a:PEn) (f:Nat→Wd→Prop) (R:RT) w:=
 opV Pg (loadAt 311 b) a w λ g w=>
 opV Pg (loadAt 300 d) a w λ h w=>
 Qp Pg g #[h] a w λ i w=>
 opV Pg (Op.unary .not i) a w λ j w=>
 Zo j (
 opU Pg (storeAt 49 c (QqJ 2)) a w λ w=>
 f 0 w) (
 e w)
def Vx f g h i j c (k:WPr) (a:PEn) (l:Nat→Wd→Prop) R w:=
 opV Pg (loadAt 296 g) a w λ m w=>
 opV Pg (lookup 296 m c true) a w λ d w=>
 opV Pg (extract d 0) a w λ n w=>
 opV Pg (extract d 1) a w λ o w=>
 opV Pg (alloc 300 true (.tuple #[])) a w λ e w=>
 opU Pg (storeAt 300 e n) a w λ w=>
 opV Pg (loadAt 9 f) a w λ p w=>
 opV Pg (ZP .eql 9 false c p) a w λ q w=>
 Zm (λ (w:Wd)=>
 k w) λ b=>
 Zo q (
 b w) (
 opV Pg (Op.unary .not o) a w λ r w=>
 Zo r (
 opU Pg (storeAt 4 j (.bool true)) a w λ w=>
 b w) (
 Vw h i e b a l R w))
def Vy a b (ds:LDf) R w:=
 opV Pg (loadAt 4 b) (OQ0 ds 49 a R) w λ c w=>
 Zo c (
 opU Pg (storeAt 49 a (QqJ 9)) (OQ0 ds 49 a R) w λ w=>
 Kz Pg ds [(some 49,a)] R w) (
 opU Pg (storeAt 49 a (QqJ 0)) (OQ0 ds 49 a R) w λ w=>
 Kz Pg ds [(some 49,a)] R w)
def Vh c d e a b f (ds:LDf) R w:=
 EN Pg f ds (λ l1 g w h i j=>
 Ct l1 w λ w=>
 Vx c d e a b g h j i R w) (λ ch ds w=>OQ0 ds 49 a R ch w) w (λ ds w=>
 Vy a b ds R w) [λ ds w=>
 Kz Pg ds [(some 49,a)] R w]
def Vz c d e f a (ds:LDf) R w:=
 opV Pg (alloc 4 true (.tuple #[])) (OQ0 ds 49 a R) w λ b w=>
 opU Pg (storeAt 4 b (.bool false)) (OQ0 ds 49 a R) w λ w=>
 opV Pg (loadAt 120 c) (OQ0 ds 49 a R) w λ g w=>
 Yb Pg 248 #[g] (OQ0 ds 49 a R) w λ h w=>
 Vh d e f a b h ds R w
def VA b c d e a f (ds:LDf) R w:=
 opV Pg (Op.unary .not f) (OQ0 ds 49 a R) w λ g w=>
 Zo g (
 opU Pg (storeAt 49 a (QqJ 2)) (OQ0 ds 49 a R) w λ w=>
 Kz Pg ds [(some 49,a)] R w) (
 Vz b c d e a ds R w)
def Zej c d e f (R:RT) w:=
 (λ (ds:LDf)=>
 opV Pg (box 120 c) (ZI Pg ds [(some 49,undef)] R) w λ b w=>
 opV Pg (box 9 d) (ZI Pg ds [(some 49,undef)] R) w λ g w=>
 opV Pg (box 296 e) (ZI Pg ds [(some 49,undef)] R) w λ h w=>
 opV Pg (box 311 f) (ZI Pg ds [(some 49,undef)] R) w λ i w=>
 opV Pg (alloc 49 true (.tuple #[])) (ZI Pg ds [(some 49,undef)] R) w λ a w=>
 opV Pg (loadAt 120 b) (OQ0 ds 49 a R) w λ j w=>
 Yb Pg 246 #[j] (OQ0 ds 49 a R) w λ k w=>
 VA b g h i a k ds R w) []
def Zhb:QqQ4 259 Zej:=λ h=>by
 refine yE func259 ?_
 unfold Zej at h
 dsimp only at h
 refine zs<|zr<|yv h λ h=>yv h λ h=>yv h λ h=>yv h λ h=>yv h λ h=>zn<|zk<|zs<|zs<|zr<|yv h λ h=>yc h ZdW λ h=>yv h λ h=>?_
 refine zn<|zk<|yC h (λ h=>zs<|zr<|yu h λ h=>zn<|zk<|Zh<|Zb<|Wi rfl h) λ h=>Zi<|zk<|zs<|zr<|yv h λ h=>yu h λ h=>zn<|zk<|zs<|zs<|zr ?_
 refine yv h λ h=>yc h Zfx λ h=>zn<|zk<|Zk<|qb [.ret] h rfl (λ l1 t18 w Kr1 Xr1 Qr1 h=>?_) (λ ds w h=>?_) (λ c ds w h=>?_) (λ ch ds w h=>QM rfl h)
 · refine zr<|zm<|zn<|zk ?_
   obtain ⟨hr,h⟩:=h
   refine ⟨rfl,hr,λ w hb=>?_⟩
   have h:=h w hb
   refine Zk<|zs<|zr<|yv h λ h=>zm<|yv h λ h=>zm<|yv h λ h=>yv h λ h=>yv h λ h=>yu h λ h=>zm<|zn<|zk<|Zk ?_
   refine zs<|zr<|zm<|yv h λ h=>yb h λ h=>zm<|zn<|zk<|yJ0 [29,30,31,32,33,34,35,36] h (λ _ _ hkK2 h=>?_) λ σ w h=>?_
   · refine yC h (λ h=>?_) λ h=>?_
     · refine Zi<|zk ?_
       exact zt hkK2 h
     refine zs<|zr<|zm<|yv h λ h=>zm<|zn<|zk<|yC h (λ h=>?_) λ h=>?_
     · refine zr<|yu h λ h=>zn<|zk ?_
       exact zt hkK2 h
     refine zs<|zr<|yv h λ h=>yv h λ h=>yV h λ h=>yv h λ h=>zm<|zn<|zk<|yC h (λ h=>zs<|zr<|yu h λ h=>zn<|zk<|Zh<|Zb<|Zd<|Zd<|⟨rfl,0,rfl,h⟩) λ h=>Zi<|zk ?_
     exact zt hkK2 h
   exact Zg<|Zg<|⟨rfl,h⟩
 · refine Zg<|zk<|zs<|zs<|zr<|yv h λ h=>zn<|zk<|yC h (λ h=>zs<|zr<|yu h λ h=>zn<|zk<|Zh<|Zb<|Wi rfl h) λ h=>Zi<|zk<|zs<|zr<|yu h λ h=>?_
   exact zn<|zk<|Zh<|Wi rfl h
 rcases c with _ | c
 · refine ⟨_,rfl,.inl ⟨rfl,?_⟩⟩
   exact Zd<|Zb<|Wi rfl h
 exact h.elim
def ZgT a b c R w:=
 opV Pg (box 4 a) (Zj R) w λ d w=>
 L0 120 b R w λ e w=>
 opV Pg (makeFunc (.func 262) #[] #[c,d]) (Zj R) w λ f w=>
 C0 261 #[e,f] R w λ g w=>
 R (.returned g) w
def ZgU:QqQ3 260 ZgT:=λ h=>by
 refine yD func260 ?_
 refine zs<|zr<|yv h λ h=>zm<|zn<|zk<|zs<|zr<|yv h λ h=>yF h λ h=>yc h ZkE λ h=>zm<|zn<|zk<|Zh ?_
 exact Zf rfl rfl h
open Go.RowKit (intOf)
def Wm (c:UInt8):Bool:=(decide (65≤(c.toNat:Int))&&decide ((c.toNat:Int)≤90))||(decide (97≤(c.toNat:Int))&&decide ((c.toNat:Int)≤122))
def G3 (c:UInt8):Bool:=decide (48≤(c.toNat:Int))&&decide ((c.toNat:Int)≤57)
def VZ (c:UInt8):Bool:=Wm c||G3 c||((c.toNat:Int) == 95)
def WW (v:Int):Bool:=decide (-1048576≤v)&&decide (v≤1048576)
def YZ (s:BAr):Bool:=decide (1≤(s.size:Int))&&decide ((s.size:Int)≤32)&&(match s.data.toList with | []=>false | c::_=>Wm c)&&s.data.toList.all VZ
def Ax (w0:Wd) (c:UInt8):Ret Pg 72 #[.int .u8 c.toNat] w0 λ r w'=>r = .bool (Wm c)∧Ext w0 w':=by
 refine Zhf (R:=ZR _) ?_;unfold Zhe
 simp (disch:=try exact DI) only [↓PR,QR,simprocAttr,↓IA,↓IB]
 unfold Wm
 have e:=Ext.refl w0
 generalize decide (65≤(c.toNat:Int))=b1
 generalize decide ((c.toNat:Int)≤90)=b2
 generalize decide (97≤(c.toNat:Int))=b3
 generalize decide ((c.toNat:Int)≤122)=b4
 cases b1<;>cases b2<;>cases b3<;>cases b4<;>simp (disch:=try exact DI) only [↓PR,QR,simprocAttr,↓IA,↓IB]<;>exact ⟨by trivial,e⟩
def jg (w0:Wd) (c:UInt8):Ret Pg 81 #[.int .u8 c.toNat] w0 λ r w'=>r = .bool (Wm c)∧Ext w0 w':=by
 refine Zls (R:=ZR _) ?_;unfold n54
 simp (disch:=try exact DI) only [↓PR,QR,simprocAttr,↓Sf,↓Sg]
 unfold Wm
 have e:=Ext.refl w0
 generalize decide (65≤(c.toNat:Int))=b1
 generalize decide ((c.toNat:Int)≤90)=b2
 generalize decide (97≤(c.toNat:Int))=b3
 generalize decide ((c.toNat:Int)≤122)=b4
 cases b1<;>cases b2<;>cases b3<;>cases b4<;>simp (disch:=try exact DI) only [↓PR,QR,simprocAttr,↓Sf,↓Sg]<;>exact ⟨by trivial,e⟩
def NH (w0:Wd) (c:UInt8):Ret Pg 73 #[.int .u8 c.toNat] w0 λ r w'=>r = .bool (G3 c)∧Ext w0 w':=by
 refine Zhd (R:=ZR _) ?_;unfold Zhc
 refine Qqv ?_
 unfold G3
 have e:=Ext.refl w0
 generalize decide (48≤(c.toNat:Int))=b1
 generalize decide ((c.toNat:Int)≤57)=b2
 cases b1<;>cases b2<;>simp (disch:=try exact DI) only [↓PR,QR,simprocAttr,joinK_eq]<;>exact ⟨by trivial,e⟩
def LG (w0:Wd) (c:UInt8):Ret Pg 82 #[.int .u8 c.toNat] w0 λ r w'=>r = .bool (G3 c)∧Ext w0 w':=by
 refine Zlr (R:=ZR _) ?_;unfold n53
 refine Qqv ?_
 unfold G3
 have e:=Ext.refl w0
 generalize decide (48≤(c.toNat:Int))=b1
 generalize decide ((c.toNat:Int)≤57)=b2
 cases b1<;>cases b2<;>simp (disch:=try exact DI) only [↓PR,QR,simprocAttr,joinK_eq]<;>exact ⟨by trivial,e⟩
def Dr (w0:Wd) (v:Int):Ret Pg 253 #[.int .i64 v] w0 λ r w'=>r = .bool (WW v)∧Ext w0 w':=by
 refine Zhj (R:=ZR _) ?_;unfold Zhi
 refine Qqv ?_
 unfold WW
 have e:=Ext.refl w0
 generalize decide (-1048576≤v)=b1
 generalize decide (v≤1048576)=b2
 cases b1<;>cases b2<;>simp (disch:=try exact DI) only [↓PR,QR,simprocAttr,joinK_eq]<;>exact ⟨by trivial,e⟩
def jz (w:Wd) (v:Vl) (l:List Bool):Prop:=Ze w 1 OG v l
def jK (w0:Wd) (v:Vl) (l:List Bool) (x:Bool) (hs:jz w0 v l) :
 Ret Pg 137 #[v,.bool x] w0 λ r w'=>r = .int .i64 (idx (x == ·) l)∧Ext w0 w':=by
 obtain ⟨A,c,rfl,hlc,hcm,hlm,YS⟩:=Ze.open hs
 refine Zh6 (R:=ZR _) ?_;unfold Zh5
 refine Qqk ?_
 refine ZE (λ i w=>∃ k:Nat,i = .int .i64 k∧k≤l.length∧Ext w0 w∧∀ (j:Nat) y,j < k→l[j]?=some y→(x == y)=false) (λ i _=>l.length - (intOf i).toNat) ⟨0,rfl,by omega,Ext.refl _,λ j y h=>by omega⟩ ?_
 rintro i w ⟨k,rfl,hk,e,hb⟩
 by_cases Ym:k < l.length
 · obtain ⟨y,hy⟩:=getElem?_lt Ym
   obtain ⟨b,o,cs,rfl,hl,hA,rfl⟩:=YS k y hy
   have hd:decide ((k:Int) < (l.length:Int))=true:=by simp;omega
   have hc:w.cell? ⟨b,o+k*1,none⟩=some (.bool y):=(hA.ext e).cell 0 rfl
   simp (disch:=try exact DI) only [↓PR,QR,simprocAttr,hd,hc,↓IC]
   cases hp:(x == y) with
   | true=>
    refine Qqk ?_
    exact ⟨by rw [QU hy hp hb],e⟩
   | false=>
    refine Qqk ?_
    exact ⟨⟨k+1,rfl,by omega,e,before_succ hb hy hp⟩,by simp [intOf];omega⟩
 · have hd:decide ((k:Int) < (l.length:Int))=false:=by simp;omega
   simp (disch:=try exact DI) only [↓PR,QR,simprocAttr,hd,↓IC]
   exact ⟨by rw [QV λ j y hy=>hb j y (by have:=(Qqj hy).1;omega) hy],e⟩
def zL (w0:Wd) (v:Vl) (l:List Bool) (x:Bool) (hs:jz w0 v l) :
 Ret Pg 107 #[v,.bool x] w0 λ r w'=>r = .bool (l.any (x == ·))∧Ext w0 w':=by
 refine ZhA (R:=ZR _) ?_;unfold Zhz
 refine Zs (jK _ _ l x hs) ?_
 rintro r w' ⟨rfl,e⟩
 refine Qqv ?_
 exact ⟨by rw [QH],e⟩
def DG (w0:Wd) (v:Vl) (l:List Bool) (hs:jz w0 v l) :
 Ret Pg 74 #[v] w0 λ r w'=>r = .bool (l.all id)∧Ext w0 w':=by
 refine Zha (R:=ZR _) ?_;unfold Zg9
 refine Zs (zL _ _ l false hs) ?_
 rintro r w' ⟨rfl,e⟩
 refine Qqv ?_
 refine ⟨?_,e⟩
 congr 1
 clear hs
 induction l with
 | nil=>rfl
 | cons a l ih=>cases a<;>simp_all
def H3 (w0:Wd) (c:UInt8):Ret Pg 71 #[.int .u8 c.toNat] w0 λ r w'=>r = .bool (!VZ c)∧Ext w0 w':=by
 refine Zg0 (R:=ZR _) ?_;unfold ZgZ
 refine Zs (Ax _ c) ?_
 rintro r w' ⟨rfl,e⟩
 simp (disch:=try exact DI) only [↓PR,QR,simprocAttr,↓xG,↓xH]
 unfold VZ
 cases Wm c with
 | true=>simp (disch:=try exact DI) only [↓PR,QR,simprocAttr,↓xG,↓xH];exact ⟨by trivial,e⟩
 | false=>
  simp (disch:=try exact DI) only [↓PR,QR,simprocAttr,↓xG,↓xH]
  refine Zs (NH _ c) ?_
  rintro r w2 ⟨rfl,e2⟩
  have e3:=e.trans e2
  cases G3 c with
  | true=>simp (disch:=try exact DI) only [↓PR,QR,simprocAttr,↓xG,↓xH];exact ⟨by trivial,e3⟩
  | false=>simp (disch:=try exact DI) only [↓PR,QR,simprocAttr,↓xG,↓xH];exact ⟨by trivial,e3⟩
def Dv (w:Wd) (v:Vl) (l:List UInt8):Prop:=Ze w 1 Cp v l
def KK (w0:Wd) (v:Vl) (l:List UInt8) (g:FuncId) (caps:AVl) (p:UInt8→Bool) (hs:Dv w0 v l) (hg:Callable Pg g) (hc:UV w0 (λ _ v x=>v = .int .u8 (x.toNat:Int)) g caps p l) :
 Ret Pg 75 #[v,.func (.func g) #[] caps] w0 λ r w'=>r = .bool (l.any p)∧Ext w0 w':=by
 refine Zhw (R:=ZR _) ?_;unfold Zhv
 refine Zs (GV _ _ l g caps p hs hg hc) ?_
 rintro r w' ⟨rfl,e⟩
 refine Qqv ?_
 exact ⟨by rw [QH],e⟩
def jX (w:Wd) (l:List Bool) (T:TypeId) (hl:l.length≤9223372036854775807):jz (w.alloc (.cells (l.map Value.bool).toArray T)) (.slice (some ⟨w.heap.size,0,none⟩) l.length l.length) l:=Ze.new1 _ (λ _ _=>rfl) w l T hl
def OQ {w:Wd} {p:Nat} (hp:p=w.heap.size) (a b:Bool) (T:TypeId):Ret Pg 74 #[.slice (some ⟨p,0,none⟩) 2 2] (w.alloc (.cells #[.bool a,.bool b] T)) λ r w'=>r = .bool (a&&b)∧Ext (w.alloc (.cells #[.bool a,.bool b] T)) w':=by
 subst hp
 have h:=DG _ _ [a,b] (jX w [a,b] T (by simp))
 simpa using h
def Fs {w:Wd} {p:Nat} (hp:p=w.heap.size) (a b c:Bool) (T:TypeId):Ret Pg 74 #[.slice (some ⟨p,0,none⟩) 3 3] (w.alloc (.cells #[.bool a,.bool b,.bool c] T)) λ r w'=>r = .bool (a&&b&&c)∧Ext (w.alloc (.cells #[.bool a,.bool b,.bool c] T)) w':=by
 subst hp
 have h:=DG _ _ [a,b,c] (jX w [a,b,c] T (by simp))
 simpa [Bool.and_assoc] using h
def UU (w0:Wd) (s:BAr):Ret Pg 35 #[.string s] w0 λ r w'=>r = .bool (YZ s)∧Ext w0 w':=by
 refine ZgY (R:=ZR _) ?_;unfold ZgX
 simp (disch:=try exact DI) only [↓PR,QR,simprocAttr,↓ze,↓zf]
 have e1:Ext w0 (w0.alloc (.cells #[.bool (decide (1≤(s.size:Int))),.bool (decide ((s.size:Int)≤32))] 4)):=(Ext.refl w0).alloc _
 refine Zs (DG _ _ [decide (1≤(s.size:Int)),decide ((s.size:Int)≤32)] (jX w0 [decide (1≤(s.size:Int)),decide ((s.size:Int)≤32)] 4 (by simp))) ?_
 rintro r w1 ⟨rfl,e2⟩
 have e:=e1.trans e2
 have hall:[decide (1≤(s.size:Int)),decide ((s.size:Int)≤32)].all id=(decide (1≤(s.size:Int))&&decide ((s.size:Int)≤32)):=by simp
 rw [hall]
 unfold YZ
 cases h1:(decide (1≤(s.size:Int))&&decide ((s.size:Int)≤32)) with
 | false=>simp (disch:=try exact DI) only [↓PR,QR,simprocAttr,↓ze,↓zf];exact ⟨by trivial,e⟩
 | true=>
  simp (disch:=try exact DI) only [↓PR,QR,simprocAttr,↓ze,↓zf]
  have YH:s.size≤9223372036854775807:=by simp only [Bool.and_eq_true,decide_eq_true_eq] at h1;omega
  obtain ⟨c,cs,hcs⟩:∃ c cs,s.data.toList=c::cs:=by
   simp only [Bool.and_eq_true,decide_eq_true_eq] at h1
   cases hd:s.data.toList with
   | nil=>
    have:s.data.size=0:=by rw [← Array.length_toList,hd];rfl
    have h0:s.size=s.data.size:=rfl
    omega
   | cons c cs=>exact ⟨c,cs,rfl⟩
  rw [Bs underlying9 s .i64 (b:=c) (by rw [hcs];rfl)]
  refine Zs (Ax _ c) ?_
  rintro r w2 ⟨rfl,e3⟩
  have e:=e.trans e3
  rw [hcs]
  cases hl:Wm c with
  | false=>simp (disch:=try exact DI) only [↓PR,QR,simprocAttr,↓ze,↓zf];exact ⟨by rw [hl];rfl,e⟩
  | true=>
   simp (disch:=try exact DI) only [↓PR,QR,simprocAttr,↓ze,↓zf]
   refine Ta underlying9 underlying40 underlying5 s YH ?_
   rintro v w3 e4 ⟨A,cp,rfl,hc1,hc2,b,rfl,XC⟩
   have Uq:s.data.toList.length=s.size:=by rw [Array.length_toList];rfl
   have hB:Dv w3 (.slice (some ⟨b,0,none⟩) s.size cp) s.data.toList:=by
    rw [← Uq]
    refine ⟨_,_,rfl,by omega,hc2,λ _=>⟨_,_,rfl,λ k x hx=>⟨[.int .u8 x.toNat],rfl,λ j v hv=>?_,rfl⟩⟩⟩
    cases j with
    | zero=>injection hv with hv;subst hv;simpa using XC k x hx
    | succ j=>cases hv
   have e:=e.trans e4
   refine Zs (KK _ _ s.data.toList _ _ (λ x=>!VZ x) hB c71 ?_) ?_
   · rintro w v x _ _ rfl
     exact H3 w x
   · rintro r w4 ⟨rfl,e5⟩
     simp (disch:=try exact DI) only [↓PR,QR,simprocAttr,↓ze,↓zf]
     refine ⟨?_,e.trans e5⟩
     rw [hcs,hl]
     congr 1
     generalize c::cs=l
     clear hall
     induction l with
     | nil=>rfl
     | cons a l ih=>simp only [List.any_cons,List.all_cons,Bool.not_or,Bool.not_not,Bool.true_and] at *;rw [ih]
def Vo (t:Ye):Bool:=YZ t.field&&(t.factor != 0)&&WW t.factor
def Fp (w:Wd) (t:Ye) (pb r:Nat) (names:List BAr) (XC:w.cell? ⟨pb,0,none⟩=some (.map (some r))) (hm:KF w r names) :
 Ret Pg 252 #[UI t,Qq4 pb] w λ v w'=>v = .bool (U0 names t.field||!Vo t)∧KF w' r (names++[t.field])∧w'.cell? ⟨pb,0,none⟩=some (.map (some r)) ∧
  ∀ w0,Ext w0 w→w0.heap.size≤r→Ext w0 w':=by
 have hpb:pb < w.heap.size:=World.block_lt_of_cell? w _ XC
 obtain ⟨L,c,hM,hl⟩:=hm
 refine Zg8 (R:=ZR _) ?_;unfold Zg7
 unfold UI
 refine Qqg XC ?_
 have e1:Ext w (w.alloc (.cells #[.string t.field,.int .i64 t.factor] 128)):=(Ext.refl w).alloc _
 rw [ja underlying199 underlying9 ty4 (hM.ext e1)]
 refine Qqg XC ?_
 rw [GK underlying199 underlying9 (hM.ext e1)]
 obtain ⟨W,hW⟩:∃ W,((w.alloc (.cells #[.string t.field,.int .i64 t.factor] 128)).putObj r (Gm (UO L c t.field (.bool true)) (U6 L c t.field)))=W:=⟨_,rfl⟩
 have hS:KF W r (names++[t.field]):=by rw [← hW];exact KF.put (hM.ext e1) hl _
 have hC:W.cell? ⟨pb,0,none⟩=some (.map (some r)):=by rw [← hW,Jg (hM.ext e1)];exact e1.cell XC
 have hE:∀ w0,Ext w0 w→w0.heap.size≤r→Ext w0 W:=λ w0 h0 hr=>by rw [← hW];exact (h0.trans e1).putObj hr _
 have hA0:W.cell? ⟨w.heap.size,0,none⟩=some (.string t.field):=by rw [← hW,Jg (hM.ext e1),Vd];rfl
 have hA1:W.cell? ⟨w.heap.size,1,none⟩=some (.int .i64 t.factor):=by rw [← hW,Jg (hM.ext e1),Vd];rfl
 rw [hW]
 refine ZB ?_
 have ht8:(Sw.look L t.field).getD (.bool false) = .bool (U0 names t.field):=by rw [hl];cases U0 names t.field<;>rfl
 rw [ht8]
 have fin:∀ b w',Ext W w'→b=(U0 names t.field||!Vo t)→(Value.bool b = .bool (U0 names t.field||!Vo t)∧KF w' r (names++[t.field])∧w'.cell? ⟨pb,0,none⟩=some (.map (some r))∧∀ w0,Ext w0 w→w0.heap.size≤r→Ext w0 w'):=
  λ b w' e hb=>⟨by rw [hb],hS.ext e,e.cell hC,λ w0 h0 hr=>(hE w0 h0 hr).trans e⟩
 cases Ir:U0 names t.field with
 | true=>
  simp (disch:=try exact DI) only [↓PR,QR,simprocAttr,↓AR,↓AS]
  exact ⟨trivial,(fin (true||!Vo t) _ (Ext.refl _).wdrew (by rw [Ir])).2⟩
 | false=>
  simp (disch:=try exact DI) only [↓PR,QR,simprocAttr,↓AR,↓AS,hA0,hA1]
  refine zcr (UU _ t.field) λ w1 e2=>?_
  refine ⟨e2,?_⟩
  refine zcr (Dr _ t.factor) λ w2 e3=>?_
  refine ⟨e2.trans e3,?_⟩
  simp (disch:=try exact DI) only [↓PR,QR,simprocAttr,↓AR,↓AS]
  have e:=e2.trans e3
  refine ⟨e.alloc _,?_⟩
  refine zcr (Fs rfl _ _ _ _) λ w3 e4=>?_
  refine ⟨(e.alloc _).trans e4,?_⟩
  simp (disch:=try exact DI) only [↓PR,QR,simprocAttr,↓AR,↓AS]
  exact ⟨rfl,(fin (!Vo t) w3 (((Ext.refl _).wdrew).trans ((e.alloc _).trans e4)) (by rw [Ir];rfl)).2⟩
def Gf:List BAr→List Ye→Bool
 | _,[]=>true
 | seen,t::ts=>!(U0 seen t.field)&&Vo t&&Gf (seen++[t.field]) ts
def Up:∀ (ts:List Ye) (seen:List BAr),Gf seen ts=true↔∀ k x,ts[k]?=some x→(U0 (seen++(ts.take k).map (·.field)) x.field||!Vo x)=false
 | [],seen=>by simp [Gf]
 | t::ts,seen=>by
  simp only [Gf,Bool.and_eq_true,Up ts]
  constructor
  · rintro ⟨⟨h1,h2⟩,h3⟩ k x hx
    cases k with
    | zero=>simp at hx;subst hx;simpa using ⟨by simpa using h1,h2⟩
    | succ k=>have:=h3 k x (by simpa using hx);simpa using this
  · intro h
    refine ⟨?_,λ k x hx=>by simpa using h (k+1) x (by simpa using hx)⟩
    have:=h 0 t rfl
    simp at this
    exact ⟨by rw [this.1];rfl,this.2⟩
def KX (w0 w1:Wd) (v:Vl) (l:List Ye) (g:FuncId) (caps:AVl) (p:Nat→Bool) (J:Nat→Wd→Prop) (hs:Z8 w0 v l) (hg:Callable Pg g) (hJ:∀ k w,J k w→Ext w0 w) (h0:J 0 w1)
 (hc:∀ k x w u,l[k]?=some x→J k w→(λ _ v x=>v=UI x) w u x→Ret Pg g (#[u]++caps) w λ r w'=>r = .bool (p k)∧J (k+1) w') :
 Ret Pg 254 #[v,.func (.func g) #[] caps] w1 λ r w'=>r = .bool ((List.range l.length).any p)∧∃ k,J k w':=by
 refine Zhu (R:=ZR _) ?_;unfold Zht
 refine Zs (zN w0 _ _ l g caps p J hs hg hJ h0 hc) ?_
 rintro r w' ⟨rfl,e⟩
 refine Qqv ?_
 exact ⟨by rw [QH],e⟩
def WD (base:Int) (ts:List Ye):Bool:=WW base&&decide (ts.length≤4)&&Gf [] ts
def xn (w0:Wd) (v:Vl) (base:Int) (ts:List Ye) (hs:Ke w0 v base ts) :
 Ret Pg 246 #[v] w0 λ r w'=>r = .bool (WD base ts)∧Ext w0 w':=by
 obtain ⟨tv,rfl,hT⟩:=hs
 refine Zg6 (R:=ZR _) ?_;unfold Zg5
 refine Qqk ?_
 obtain ⟨A,c,rfl,hlc,hcm,hlm,YS⟩:=Ze.open hT
 obtain ⟨W1,hW1⟩:∃ W1,w0.alloc (.cells #[.int .i64 base,.slice A ts.length c] 120)=W1:=⟨_,rfl⟩
 have e0:Ext w0 W1:=by rw [← hW1];exact (Ext.refl w0).alloc _
 have hc0:W1.cell? ⟨w0.heap.size,0,none⟩=some (.int .i64 base):=by rw [← hW1];exact Qqy
 have hc1:W1.cell? ⟨w0.heap.size,1,none⟩=some (.slice A ts.length c):=by rw [← hW1];exact Qqy
 have Uq:w0.heap.size+1=W1.heap.size:=by rw [← hW1];exact Qqy
 simp only [hW1,Uq]
 refine DS (w1:=W1) (((Ext.refl W1).alloc _).alloc _) ?_
 simp (disch:=try exact DI) only [↓PR,QR,simprocAttr,↓xI,↓xJ,↓xK,hc0,hc1]
 generalize hW:(World.drew _)=W
 have e1:Ext W1 W:=by rw [← hW];exact (((Ext.refl W1).alloc _).alloc _).wdrew
 have hpb:W.cell? ⟨W1.heap.size+1,0,none⟩=some (.map (some W1.heap.size)):=by rw [← hW];exact Qqy
 have hset:KF W W1.heap.size []:=by
  rw [← hW]
  have h:=(jN.new W1).ext (((Ext.refl _).alloc (Obj.cells (#[Value.map none].setIfInBounds 0 (Value.map (some W1.heap.size))) 199)).wdrew)
  exact ⟨[],0,by simpa using h,λ s=>rfl⟩
 clear hW
 refine zcr (Dr _ base) λ w1 e2=>?_
 refine ⟨e1.trans e2,?_⟩
 refine Qqk ?_
 refine ⟨e1.trans (e2.alloc _),?_⟩
 refine zcr (OQ rfl _ _ _) λ w2 e3=>?_
 replace e2:=(e2.alloc _).trans e3
 refine ⟨e1.trans e2,?_⟩
 simp (disch:=try exact DI) only [↓PR,QR,simprocAttr,↓xI,↓xJ,↓xK]
 unfold WD
 cases hb:(WW base&&decide (ts.length≤4)) with
 | false=>
  have hb':(WW base&&decide ((ts.length:Int)≤4))=false:=by rw [← hb];congr 1;simp;omega
  rw [hb']
  simp (disch:=try exact DI) only [↓PR,QR,simprocAttr,↓xI,↓xJ,↓xK,hc0,hc1]
  exact ⟨by trivial,e0.trans (e1.trans e2)⟩
 | true=>
  have hb':(WW base&&decide ((ts.length:Int)≤4))=true:=by rw [← hb];congr 1;simp;omega
  rw [hb']
  simp (disch:=try exact DI) only [↓PR,QR,simprocAttr,↓xI,↓xJ,↓xK,hc0,hc1]
  refine Zs (KX W1 w2 _ ts 252 _ (λ k=>match ts[k]? with | some t=>U0 ((ts.take k).map (·.field)) t.field||!Vo t | none=>true) (λ k w=>KF w W1.heap.size ((ts.take k).map (·.field))∧w.cell? ⟨W1.heap.size+1,0,none⟩=some (.map (some W1.heap.size))∧Ext W1 w) (hT.ext e0) Zky (λ k w h=>h.2.2) ⟨hset.ext e2,e2.cell hpb,e1.trans e2⟩ ?_) ?_
  · rintro k x w u hx ⟨h1,h2,h3⟩ rfl
    simp only [Uq]
    refine Ret.mono (Fp w x _ _ _ h2 h1) ?_
    rintro v w' ⟨rfl,h4,h5,h6⟩
    refine ⟨by rw [hx],?_,h5,h6 _ h3 (Nat.le_refl _)⟩
    rw [List.take_add_one,hx]
    simpa using h4
  · rintro _ w3 ⟨rfl,k,h1,h2,h3⟩
    refine ⟨h3,?_⟩
    simp (disch:=try exact DI) only [↓PR,QR,simprocAttr,↓xI,↓xJ,↓xK]
    refine ⟨?_,e0.trans h3⟩
    congr 1
    rw [Bool.eq_iff_iff,Up,Bool.not_eq_true',List.any_eq_false]
    simp only [List.mem_range,List.nil_append]
    constructor
    · intro h k x hx
      have:=h k (Qqj hx).1
      rw [hx] at this
      simpa using this
    · intro h k hk
      rw [List.getElem?_eq_getElem hk]
      have:=h k _ (List.getElem?_eq_getElem hk)
      simpa using this
def ZcX b c a (Zu:KV) R w:=
 opV Pg (Instr.index 9 b a) (Zj R) w λ d w=>
 B0 .eql 5 false d c R w λ e w=>
 Zo e (
 R (.returned (.bool true)) w) (
 B0 .add 3 true a (QqJ 1) R w λ f w=>
 Zu f w)
def ZcY a c b (Zu:KV) R w:=
 G0 9 3 a R w λ d w=>
 B0 .lss 3 false b d R w λ e w=>
 Zo e (
 ZcX a c b Zu R w) (
 R (.returned (.bool false)) w)
def n66 a b R w:=
 Yz (λ c w Zu=>
 ZcY a b c Zu R w) (QqJ 0) w
def ZlE:QqQ2 169 n66:=λ h=>by
 refine yD func169 ?_
 refine zs<|zr<|zm<|zn<|zk<|zs<|zs<|zr<|zm<|zn<|zk<|Zk<|yl1 [4,5,6,7,8,9,10,11,12,13,14,15,16] 5 h λ σ w next h=>zs<|zs ?_
 refine zr<|zm<|zm<|yx h λ h=>yb h λ h=>zn<|zk<|yC h (λ h=>?_) λ h=>?_
 · refine Zi<|zk<|zs<|Zk<|zs<|zr<|zm<|zm<|yv h λ h=>zm<|yb h λ h=>zn<|zk<|yC h (λ h=>zs<|zr<|zm<|zn<|zk<|Zh<|Zd<|Zb<|Zb<|Zd<|Zb<|Zf rfl rfl h) λ h=>?_
   exact Zi<|Zg<|zk<|zr<|zm<|yb h λ h=>zm<|zn<|zk<|⟨rfl,h⟩
 exact ZD<|Zc<|Zc<|Zp<|zk<|zs<|zr<|zm<|zn<|zk<|Zh<|Zf rfl rfl h
def Bg d e f g (R:RT) w:=
 Zw f (.bool true) g λ b=>
 Zm (λ (a:Vl) (w:Wd)=>
 Zw b (.bool true) a λ h=>
 Zo h (
 R (.returned (QqJ 7)) w) (
 R (.returned (QqJ 0)) w)) λ c=>
 Zl b false (
 F0 123 d 2 R w λ i w=>
 L0 3 i R w λ j w=>
 B0 .shl 3 true (QqJ 1) j R w λ k w=>
 B0 .geq 3 false e k R w λ a w=>
 c a w) (
 c undef w)
def He a c R w:=
 F0 123 a 5 R w λ f w=>
 L0 3 f R w λ g w=>
 B0 .lss 3 true g (QqJ 0) R w λ d w=>
 Zm (λ (b:Vl) (w:Wd)=>
 Bg a c d b R w) λ e=>
 Zl d false (
 F0 123 a 5 R w λ h w=>
 L0 3 h R w λ i w=>
 B0 .gtr 3 false i c R w λ b w=>
 e b w) (
 e undef w)
def Hf a R w:=
 F0 123 a 6 R w λ c w=>
 L0 3 c R w λ d w=>
 F0 123 a 1 R w λ e w=>
 L0 117 e R w λ f w=>
 B0 .eql 117 true f (QqJ 2) R w λ g w=>
 Zm (λ (h:Vl) (w:Wd)=>
 He a h R w) λ b=>
 Zo g (
 F0 123 a 5 R w λ i w=>
 L0 3 i R w λ j w=>
 b j w) (
 b d w)
def qI d b e f (R:RT) w:=
 Zm (λ (a:Vl) (w:Wd)=>
 Zw b (.bool true) a λ g=>
 Zo g (
 R (.returned (QqJ 6)) w) (
 Hf d R w)) λ c=>
 Zl b false (
 Zw e f (.bool false) λ a=>
 c a w) (
 c undef w)
def qJ b e c R w:=
 Zm (λ (a:Vl) (w:Wd)=>
 qI b e c a R w) λ d=>
 Zl c true (
 F0 123 b 2 R w λ f w=>
 L0 3 f R w λ g w=>
 B0 .neq 3 true g (QqJ 32) R w λ a w=>
 d a w) (
 d undef w)
def qK b c d R w:=
 Zm (λ (a:Vl) (w:Wd)=>
 Zm (λ (g:Vl) (w:Wd)=>
 qJ b c g R w) λ e=>
 Zl c false (
 Zw d a (.bool false) λ h=>
 e h w) (
 e undef w)) λ f=>
 Zl d true (
 F0 123 b 2 R w λ i w=>
 L0 3 i R w λ j w=>
 B0 .neq 3 true j (QqJ 24) R w λ a w=>
 f a w) (
 f undef w)
def qL b c d R w:=
 Zm (λ (a:Vl) (w:Wd)=>
 Zm (λ (g:Vl) (w:Wd)=>
 qK b c g R w) λ e=>
 Zl c false (
 Zw d a (.bool false) λ h=>
 e h w) (
 e undef w)) λ f=>
 Zl d true (
 F0 123 b 2 R w λ i w=>
 L0 3 i R w λ j w=>
 B0 .neq 3 true j (QqJ 16) R w λ a w=>
 f a w) (
 f undef w)
def qM a d e R w:=
 Zw d (.bool true) e λ b=>
 Zm (λ (f:Vl) (w:Wd)=>
 qL a b f R w) λ c=>
 Zl b false (
 F0 123 a 3 R w λ g w=>
 L0 4 g R w λ h w=>
 c h w) (
 c undef w)
def n68 e R w:=
 opV Pg (box 123 e) (Zj R) w λ a w=>
 F0 123 a 2 R w λ f w=>
 L0 3 f R w λ g w=>
 B0 .lss 3 true g (QqJ 1) R w λ c w=>
 Zm (λ (b:Vl) (w:Wd)=>
 qM a c b R w) λ d=>
 Zl c false (
 F0 123 a 2 R w λ h w=>
 L0 3 h R w λ i w=>
 B0 .gtr 3 true i (QqJ 32) R w λ b w=>
 d b w) (
 d undef w)
def ZlG:QqQ1 170 n68:=λ h=>by
 refine yD func170 ?_
 refine zs<|zr<|yv h λ h=>zm<|zn<|zk<|zs<|zs<|Zr<|yG 4<|yv h λ h=>yv h λ h=>yb h λ h=>zm<|zn ?_
 refine yg1 3 3 false [8,9,10] 10 h (λ _ T hT h=>?_) λ σ w h=>?_
 · refine yv h λ h=>yv h λ h=>yb h λ h=>zn ?_
   exact zt hT h
 refine yG 2<|yp h λ h=>zm<|zn<|yg1 3 8 false [13,14,15] 15 h (λ _ T hT h=>?_) λ σ w h=>?_
 · refine yv h λ h=>yv h λ h=>zm<|zn ?_
   exact zt hT h
 refine yg1 3 11 true [16,17,18] 18 h (λ _ T hT h=>?_) λ σ w h=>?_
 · refine yv h λ h=>yv h λ h=>yb h λ h=>zn ?_
   exact zt hT h
 refine yg1 2 8 false [19,20] 20 h (λ _ T hT h=>?_) λ σ w h=>?_
 · refine yp h λ h=>zm<|zn ?_
   exact zt hT h
 refine yg1 3 16 true [21,22,23] 23 h (λ _ T hT h=>?_) λ σ w h=>?_
 · refine yv h λ h=>yv h λ h=>yb h λ h=>zn ?_
   exact zt hT h
 refine yg1 2 8 false [24,25] 25 h (λ _ T hT h=>?_) λ σ w h=>?_
 · refine yp h λ h=>zm<|zn ?_
   exact zt hT h
 refine yg1 3 21 true [26,27,28] 28 h (λ _ T hT h=>?_) λ σ w h=>?_
 · refine yv h λ h=>yv h λ h=>yb h λ h=>zn ?_
   exact zt hT h
 refine yg1 1 8 false [29] 29 h (λ _ T hT h=>?_) λ σ w h=>?_
 · refine yp h λ h=>zn ?_
   exact zt hT h
 refine yG 1<|yp h λ h=>zn<|ZG<|zk<|yC h (λ h=>zs<|zr<|zm<|zn<|zk<|Zh<|Zb<|Zf rfl rfl h) λ h=>Zi<|zk<|zs<|zr<|yv h λ h=>yv h λ h=>zm<|zn ?_
 refine zk<|zs<|zs<|zr<|yv h λ h=>yv h λ h=>yb h λ h=>zn<|zk<|yJ1 [3,36,37] 3 h (λ _ _ hkK9 h=>?_) λ σ w h=>?_
 · refine yC h (λ h=>?_) λ h=>?_
   · refine zr<|yv h λ h=>yv h λ h=>zm<|zn<|zk ?_
     exact zt hkK9 h
   refine Zi<|zk ?_
   exact zt hkK9 h
 refine zk<|zs<|zs<|Zr<|yG 4<|yv h λ h=>yv h λ h=>yb h λ h=>zm<|zn<|yg1 4 3 false [42,43,44,45] 45 h (λ _ T hT h=>?_) λ σ w h=>?_
 · refine yv h λ h=>yv h λ h=>zm<|yb h λ h=>zn ?_
   exact zt hT h
 refine yG 2<|yp h λ h=>zm<|zn<|yg1 5 9 false [48,49,50,51,52] 52 h (λ _ T hT h=>?_) λ σ w h=>?_
 · refine zm<|yv h λ h=>yv h λ h=>yb h λ h=>yb h λ h=>zn ?_
   exact zt hT h
 refine yG 1<|yp h λ h=>zn<|ZG<|zk<|yC h (λ h=>zs<|zr<|zm<|zn<|zk<|Zh<|Zb<|Zf rfl rfl h) λ h=>Zi<|zk<|zs<|zr<|zm<|zn<|zk<|Zh ?_
 exact Zf rfl rfl h
def MH d e f (R:RT) w:=
 Zw e f (.bool false) λ b=>
 Zm (λ (a:Vl) (w:Wd)=>
 Zw b a (.bool false) λ g=>
 R (.returned g) w) λ c=>
 Zl b true (
 B0 .lss 3 true d (QqJ 34359738368) R w λ a w=>
 c a w) (
 c undef w)
def n72 b c R w:=
 B0 .geq 3 true b (QqJ 0) R w λ d w=>
 Zm (λ (a:Vl) (w:Wd)=>
 MH c d a R w) λ e=>
 Zl d true (
 B0 .leq 3 false b c R w λ a w=>
 e a w) (
 e undef w)
def ZlK:QqQ2 171 n72:=λ h=>by
 refine yD func171 ?_
 refine zs<|zr<|zm<|zn<|zk<|zs<|Zr<|yG 3<|zm<|yb h λ h=>zm<|zn<|yg1 3 2 true [8,9,10] 10 h (λ _ T hT h=>?_) λ σ w h=>?_
 · refine zm<|zm<|yb h λ h=>zn ?_
   exact zt hT h
 refine yG 2<|yp h λ h=>zm<|zn<|yg1 2 7 true [13,14] 14 h (λ _ T hT h=>?_) λ σ w h=>?_
 · refine zm<|yb h λ h=>zn ?_
   exact zt hT h
 exact yG 2<|yp h λ h=>zm<|zn<|ZG<|zk<|Zh<|Zf rfl rfl h
def ZcZ c d a b (Zu:KW) R w:=
 E0q b 0 R w λ e w=>
 E0q b 1 R w λ f w=>
 F0 120 c 1 R w λ g w=>
 L0 118 g R w λ h w=>
 X0 118 h a R w λ i w=>
 F0 128 i 0 R w λ j w=>
 L0 9 j R w λ k w=>
 opV Pg (build 266 #[(0,k),(1,e),(2,f)]) (Zj R) w λ l w=>
 opV Pg (buildSlice 264 1 #[(0,l)]) (Zj R) w λ m w=>
 opV Pg (Builtin.append_ #[264,264] 264 #[d,m]) (Zj R) w λ n w=>
 B0 .add 3 true a (QqJ 1) R w λ o w=>
 Zu n o w
def Zc0 a b c d e (Zu:KW) R w:=
 F0 74 a 1 R w λ f w=>
 L0 72 f R w λ g w=>
 X0 72 g e R w λ h w=>
 L0 123 h R w λ i w=>
 C0 175 #[i] R w λ j w=>
 ZcZ b c d j Zu R w
def Zc1 c f g h a (Zu:KW) R w:=
 B0 .lss 3 true a (QqJ 0) R w λ d w=>
 Zm (λ (b:Vl) (w:Wd)=>
 Zw d (.bool true) b λ i=>
 Zo i (
 R (.returned (QqJ 8)) w) (
 Zc0 c f g h a Zu R w)) λ e=>
 Zl d false (
 F0 74 c 1 R w λ j w=>
 L0 72 j R w λ k w=>
 X0 72 k a R w λ l w=>
 L0 123 l R w λ m w=>
 C0 173 #[m] R w λ n w=>
 N0 n R w λ b w=>
 e b w) (
 e undef w)
def Zc2 e b c f d (a:WPr) (Zu:KW) (R:RT) w:=
 I0 74 b a λ g=>
 J0 120 c 1 a λ h=>
 I0 118 h a λ i=>
 M0 118 i d a λ j=>
 J0 128 j 0 a λ k=>
 I0 9 k a λ l=>
 C0 143 #[g,l,e] R w λ m w=>
 a w∧(
 Zc1 b c f d m Zu R w)
def Zc3 d e f (R:RT) w:=
 Zw e (.bool true) f λ b=>
 Zm (λ (a:Vl) (w:Wd)=>
 Zw b (.bool true) a λ g=>
 Zo g (
 R (.returned (QqJ 9)) w) (
 R (.returned (QqJ 0)) w)) λ c=>
 Zl b false (
 B0 .gtr 3 true d (QqJ 1048576) R w λ a w=>
 c a w) (
 c undef w)
def Zc4 a R w:=
 E0q a 0 R w λ e w=>
 E0q a 1 R w λ f w=>
 E0q a 2 R w λ g w=>
 B0 .neq 3 true g (QqJ 0) R w λ c w=>
 Zm (λ (b:Vl) (w:Wd)=>
 Zc3 f c b R w) λ d=>
 Zl c false (
 B0 .lss 3 true e (QqJ 0) R w λ b w=>
 d b w) (
 d undef w)
def Zc5 d e a b c (Zu:KW) R w:=
 F0 120 a 1 R w λ f w=>
 L0 118 f R w λ g w=>
 G0 118 3 g R w λ h w=>
 B0 .lss 3 false c h R w λ i w=>
 Zo i (
 Yg w λ j w=>
 Zc2 d e a b c j Zu R w) (
 L0 120 a R w λ k w=>
 C0 202 #[k,b] R w λ l w=>
 Zc4 l R w)
def Zc6 a b c d R w:=
 N0 d R w λ e w=>
 Zo e (
 R (.returned (QqJ 9)) w) (
 Qq (λ f g w Zu=>
 Zc5 a b c f g Zu R w) (Value.slice none 0 0) (QqJ 0) w)
def n69 d b R w:=
 opV Pg (box 74 d) (Zj R) w λ c w=>
 F0 74 c 1 R w λ e w=>
 L0 72 e R w λ f w=>
 X0 72 f b R w λ g w=>
 F0 123 g 7 R w λ h w=>
 L0 120 h R w λ i w=>
 opV Pg (alloc 120 true (.tuple #[])) (Zj R) w λ a w=>
 S0 120 a i R w λ w=>
 L0 120 a R w λ j w=>
 C0 201 #[j] R w λ k w=>
 Zc6 b c a k R w
def ZlH:QqQ2 172 n69:=λ h=>by
 refine yD func172 ?_
 refine zs<|zr<|yv h λ h=>zm<|zn<|zk<|zs<|zr<|yv h λ h=>yv h λ h=>zm<|yv h λ h=>yv h λ h=>yv h λ h=>yv h λ h=>?_
 refine yu h λ h=>zn<|zk<|zs<|zs<|zr<|yv h λ h=>yc h Zfs λ h=>yv h λ h=>zn<|zk<|yC h (λ h=>zs<|zr<|zm<|zn<|zk<|Zh<|Zb<|Zf rfl rfl h) λ h=>Zi<|zk ?_
 refine zs<|zr<|zm<|zn<|zk<|zs<|zs<|zr<|zm<|zn<|zk<|Zk<|yl2 [4,6,7,8,9,10,23,24,25,26,27,28,29,30,31,32,33,34,35,36,37,38,39,40,41,42,43,44,45,46,47,48,49,50,51,52,53,54,55,56,57,58,59,60,61,62,63,64,65,66,67,68,69,70] 6 7 h λ σ w next h=>zs<|zs ?_
 refine zr<|zm<|yv h λ h=>yv h λ h=>yx h λ h=>yb h λ h=>zn<|zk<|yC h (λ h=>?_) λ h=>?_
 · refine Zi<|zk<|zs<|Zk<|zs<|yh [8,30,31,32,33,34,35,36,37,38] h λ C hC h=>ye 0 hC h λ h=>?_
   refine ye 1 hC h λ h=>?_
   refine ye 2 hC h λ h=>?_
   refine yw 3 hC ?_
   refine ye 4 hC h λ h=>?_
   refine ye 5 hC h λ h=>?_
   refine ye 6 hC h λ h=>?_
   refine yw 7 hC ?_
   refine yo 8 ?_
   refine yc h Zac λ h=>zn ?_
   obtain ⟨hC,h⟩:=h
   refine ⟨hC,?_⟩
   refine yw 9 hC ?_
   refine yz<|zk<|zs<|zs<|Zr<|yG 3<|zm<|yb h λ h=>zm<|zn<|yg1 7 2 false [42,43,44,45,46,47,48] 48 h (λ _ T hT h=>?_) λ σ w h=>?_
   · refine yv h λ h=>yv h λ h=>zm<|yv h λ h=>yv h λ h=>yc h Zfn λ h=>yv h λ h=>zn ?_
     exact zt hT h
   refine yG 1<|yp h λ h=>zn<|ZG<|zk<|yC h (λ h=>zs<|zr<|zm<|zn<|zk<|Zh<|Zb<|Zd<|Zb<|Zb<|Zd<|Zb<|Zf rfl rfl h) λ h=>Zi<|zk<|zs<|zr<|yv h λ h=>yv h λ h=>zm<|yv h λ h=>?_
   refine yv h λ h=>yc h Zfo λ h=>zm<|yv h λ h=>yv h λ h=>zm<|zm<|zn<|zk<|zr<|zm<|yv h λ h=>yv h λ h=>zm<|yv h λ h=>?_
   refine yv h λ h=>yv h λ h=>zm<|zm<|yB h λ h=>yS h λ h=>yx h λ h=>zm<|zn<|Zg<|zk<|zr<|zm<|yb h λ h=>zm ?_
   exact zn<|zk<|⟨rfl,h⟩
 refine ZD<|Zc<|Zc<|Zp<|zk<|zs<|zr<|yv h λ h=>zm<|yc h Zj5 λ h=>zm<|yv h λ h=>yv h λ h=>yv h λ h=>zm ?_
 refine zm<|zm<|zn<|zk<|zs<|zs<|Zr<|yG 3<|zm<|yb h λ h=>zm<|zn<|yg1 2 2 false [81,82] 82 h (λ _ T hT h=>?_) λ σ w h=>?_
 · refine zm<|yb h λ h=>zn ?_
   exact zt hT h
 refine yG 2<|yp h λ h=>zm<|zn<|yg1 2 6 false [85,86] 86 h (λ _ T hT h=>?_) λ σ w h=>?_
 · refine zm<|yb h λ h=>zn ?_
   exact zt hT h
 refine yG 1<|yp h λ h=>zn<|ZG<|zk<|yC h (λ h=>zs<|zr<|zm<|zn<|zk<|Zh<|Zb<|Zf rfl rfl h) λ h=>Zi<|zk<|zs<|zr<|zm<|zn<|zk<|Zh ?_
 exact Zf rfl rfl h
def n59 e R w:=
 opV Pg (box 123 e) (Zj R) w λ b w=>
 F0 123 b 1 R w λ f w=>
 L0 117 f R w λ g w=>
 B0 .geq 117 true g (QqJ 1) R w λ c w=>
 Zm (λ (a:Vl) (w:Wd)=>
 Zw c a (.bool false) λ h=>
 R (.returned h) w) λ d=>
 Zl c true (
 F0 123 b 1 R w λ i w=>
 L0 117 i R w λ j w=>
 B0 .leq 117 true j (QqJ 3) R w λ a w=>
 d a w) (
 d undef w)
def Zlx:QqQ1 173 n59:=λ h=>by
 refine yD func173 ?_
 refine zs<|zr<|yv h λ h=>zm<|zn<|zk<|zs<|Zr<|yG 4<|yv h λ h=>yv h λ h=>yb h λ h=>zm<|zn<|yg1 3 3 true [7,8,9] 9 h (λ _ T hT h=>?_) λ σ w h=>?_
 · refine yv h λ h=>yv h λ h=>yb h λ h=>zn ?_
   exact zt hT h
 exact yG 2<|yp h λ h=>zm<|zn<|ZG<|zk<|Zh<|Zf rfl rfl h
def Zc7 f c a (Zu:KV) R w:=
 F0 74 c 1 R w λ g w=>
 L0 72 g R w λ h w=>
 X0 72 h a R w λ i w=>
 F0 123 i 1 R w λ j w=>
 L0 117 j R w λ k w=>
 B0 .eql 117 true k (QqJ 9) R w λ d w=>
 Zm (λ (b:Vl) (w:Wd)=>
 Zw d b (.bool false) λ l=>
 Zo l (
 R (.returned (.bool true)) w) (
 B0 .add 3 true a (QqJ 1) R w λ m w=>
 Zu m w)) λ e=>
 Zl d true (
 F0 74 c 1 R w λ n w=>
 L0 72 n R w λ o w=>
 X0 72 o a R w λ p w=>
 F0 123 p 9 R w λ q w=>
 L0 9 q R w λ r w=>
 B0 .eql 9 false r f R w λ b w=>
 e b w) (
 e undef w)
def n70 b c d R w:=
 opV Pg (box 74 b) (Zj R) w λ e w=>
 Yz (λ a w Zu=>
 B0 .lss 3 false a d R w λ f w=>
 Zo f (
 Zc7 c e a Zu R w) (
 R (.returned (.bool false)) w)) (QqJ 0) w
def ZlI:QqQ3 174 n70:=λ h=>by
 refine yD func174 ?_
 refine zs<|zr<|yv h λ h=>zm<|zn<|zk<|zs<|zs<|zr<|zm<|zn<|zk<|Zk<|yl1 [6,7,8,9,10,11,12,13,14,15,16,17,18,19,20,21,22,23,24,25,26,27,28,29] 7 h λ σ w next h=>zs ?_
 refine zs<|zr<|zm<|zm<|yb h λ h=>zn<|zk<|yC h (λ h=>?_) λ h=>?_
 · refine Zi<|zk<|zs<|Zk<|zs<|Zr<|yG 8<|yv h λ h=>yv h λ h=>zm<|yv h λ h=>yv h λ h=>yv h λ h=>yb h λ h=>zm ?_
   refine zn<|yg1 8 7 true [21,22,23,24,25,26,27,28] 28 h (λ _ T hT h=>?_) λ σ w h=>?_
   · refine yv h λ h=>yv h λ h=>zm<|yv h λ h=>yv h λ h=>yv h λ h=>zm<|yb h λ h=>zn ?_
     exact zt hT h
   refine yG 1<|yp h λ h=>zn<|ZG<|zk<|yC h (λ h=>zs<|zr<|zm<|zn<|zk<|Zh<|Zd<|Zb<|Zb<|Zd<|Zb<|Zf rfl rfl h) λ h=>Zi<|Zg<|zk<|zr<|zm<|yb h λ h=>zm<|zn ?_
   exact zk<|⟨rfl,h⟩
 exact ZD<|Zc<|Zc<|Zp<|zk<|zs<|zr<|zm<|zn<|zk<|Zh<|Zf rfl rfl h
def ME b (a:WPr) (R:RT) w:=
 J0 123 b 5 a λ c=>
 I0 3 c a λ d=>
 J0 123 b 5 a λ e=>
 I0 3 e a λ f=>
 R (.returned (.tuple #[d,f])) w
def MF b (a:WPr) (R:RT) w:=
 J0 123 b 5 a λ c=>
 I0 3 c a λ d=>
 J0 123 b 6 a λ e=>
 I0 3 e a λ f=>
 R (.returned (.tuple #[d,f])) w
def n60 b R w:=
 opV Pg (box 123 b) (Zj R) w λ a w=>
 F0 123 a 1 R w λ c w=>
 L0 117 c R w λ d w=>
 B0 .eql 117 true d (QqJ 2) R w λ e w=>
 Zo e (
 Yg w λ f w=>
 ME a f R w) (
 Yg w λ g w=>
 MF a g R w)
def Zly:QqQ1 175 n60:=λ h=>by
 refine yD func175 ?_
 refine zs<|zr<|yv h λ h=>zm<|zm<|zn<|zk<|zs<|zs<|zr<|yv h λ h=>yv h λ h=>yb h λ h=>zn<|zk ?_
 refine yC h (λ h=>?_) λ h=>?_
 · refine zs<|yh [2,3,7,8,9,10] h λ C hC h=>ye 0 hC h λ h=>?_
   refine ye 1 hC h λ h=>?_
   refine ye 2 hC h λ h=>?_
   refine ye 3 hC h λ h=>?_
   refine yw 4 hC ?_
   refine yw 5 hC ?_
   exact yz<|zk<|Zh<|Zb<|Xp rfl rfl rfl h
 refine Zi<|zk<|zs<|yh [2,3,11,12,13,14] h λ C hC h=>ye 0 hC h λ h=>?_
 refine ye 1 hC h λ h=>?_
 refine ye 2 hC h λ h=>?_
 refine ye 3 hC h λ h=>?_
 refine yw 4 hC ?_
 refine yw 5 hC ?_
 exact yz<|zk<|Zh<|Xp rfl rfl rfl h
def Xx (f:Zt):Bool:=f.kind == 1||f.kind == 2||f.kind == 3
def XE (f:Zt):Int:=if f.kind == 2 then f.low else f.high
abbrev YD (lo hi:Int):Vl := .agg #[.int .i64 lo,.int .i64 hi]
def H4 (w0:Wd) (v:Vl) (f:Zt) (hf:Z0 w0 v f):Ret Pg 264 #[v] w0 λ r w'=>r = .bool (Xx f)∧Ext w0 w':=by
 obtain ⟨tv,cv,rfl,hT,hC⟩:=hf
 refine ZlY (R:=ZR _) ?_;unfold n86
 simp (disch:=try exact DI) only [↓PR,QR,simprocAttr,↓Zdx]
 exact ⟨by first | trivial | rfl,ee⟩
def jd (w0:Wd) (v:Vl) (f:Zt) (hf:Z0 w0 v f):Ret Pg 173 #[v] w0 λ r w'=>r = .bool (Xx f)∧Ext w0 w':=by
 obtain ⟨tv,cv,rfl,hT,hC⟩:=hf
 refine Zlx (R:=ZR _) ?_;unfold n59
 refine Qqv ?_
 refine ⟨?_,(Ext.refl _).alloc _⟩
 congr 1
 unfold Xx
 rw [Bool.eq_iff_iff]
 simp
 omega
def BB (w0:Wd) (v:Vl) (f:Zt) (hf:Z0 w0 v f):Ret Pg 175 #[v] w0 λ r w'=>r = .tuple #[.int .i64 f.low,.int .i64 (XE f)]∧Ext w0 w':=by
 obtain ⟨tv,cv,rfl,hT,hC⟩:=hf
 refine Zly (R:=ZR _) ?_;unfold n60
 simp (disch:=try exact DI) only [↓PR,QR,simprocAttr,↓ME,↓MF]
 unfold XE
 cases f.kind == 2
 · refine Qqk ?_
   refine ZB ?_
   simp (disch:=try exact DI) only [↓PR,QR,simprocAttr,↓ME,↓MF]
   exact ⟨by first | trivial | rfl,ee⟩
 · refine Qqk ?_
   refine ZB ?_
   simp (disch:=try exact DI) only [↓PR,QR,simprocAttr,↓ME,↓MF]
   exact ⟨by first | trivial | rfl,ee⟩
def Nj (w0:Wd) (v:Vl) (f:Zt) (hf:Z0 w0 v f):Ret Pg 255 #[v] w0 λ r w'=>r = .tuple #[if Xx f then YD f.low (XE f) else YD 0 0,.int .i64 (if Xx f then 0 else 2)]∧Ext w0 w':=by
 obtain ⟨tv,cv,rfl,hT,hC⟩:=hf
 refine ZlZ (R:=ZR _) ?_;unfold n87
 simp (disch:=try exact DI) only [↓PR,QR,simprocAttr,↓CW,↓CX,↓CY,↓CZ]
 refine zcr (H4 _ _ f ⟨tv,cv,rfl,Z8.ext hT ee,Yu.ext hC ee⟩) λ w1 e1=>?_
 have s1:=e1.size
 try simp only [World.size_alloc,World.size_setCell,World.size_drew,World.putObj_size,Sw.putW_size] at s1
 cases hn:Xx f with
 | false=>
  simp (disch:=try exact DI) only [↓PR,QR,simprocAttr,↓CW,↓CX,↓CY,↓CZ,e1.cellQ,e1.frozenQ]
  exact ⟨by first | trivial | rfl,ee⟩
 | true=>
  simp (disch:=try exact DI) only [↓PR,QR,simprocAttr,↓CW,↓CX,↓CY,↓CZ,e1.cellQ,e1.frozenQ]
  unfold XE
  cases f.kind == 2
  · simp (disch:=try exact DI) only [↓PR,QR,simprocAttr,↓CW,↓CX,↓CY,↓CZ,e1.cellQ,e1.frozenQ]
    exact ⟨by first | trivial | rfl,ee⟩
  · simp (disch:=try exact DI) only [↓PR,QR,simprocAttr,↓CW,↓CX,↓CY,↓CZ,e1.cellQ,e1.frozenQ]
    exact ⟨by first | trivial | rfl,ee⟩
def yd (w0:Wd) (v:Vl) (l:List Yh) (g:FuncId) (caps:AVl) (p:Yh→Bool) (hs:Va w0 v l) (hg:Callable Pg g) (hc:UV w0 Qt g caps p l) :
 Ret Pg 138 #[v,.func (.func g) #[] caps] w0 λ r w'=>r = .tuple #[.int .i64 (if idx p l < 0 then 0 else idx p l),.bool (l.any p)]∧Ext w0 w':=by
 refine ZfY (R:=ZR _) ?_;unfold ZfX
 refine zcr (KO _ _ l g caps p hs hg hc) λ w1 e1=>?_
 have s1:=e1.size
 try simp only [World.size_alloc,World.size_setCell,World.size_drew,World.putObj_size,Sw.putW_size] at s1
 simp (disch:=try exact DI) only [↓PR,QR,simprocAttr,↓PL]
 exact ⟨by rw [QH],e1⟩
def jt (w0:Wd) (v:Vl) (l:List Zt) (g:FuncId) (caps:AVl) (p:Zt→Bool) (hs:YX w0 v l) (hg:Callable Pg g) (hc:UV w0 Z0 g caps p l) :
 Ret Pg 164 #[v,.func (.func g) #[] caps] w0 λ r w'=>r = .tuple #[.int .i64 (if idx p l < 0 then 0 else idx p l),.bool (l.any p)]∧Ext w0 w':=by
 refine ZfW (R:=ZR _) ?_;unfold ZfV
 refine zcr (VV _ _ l g caps p hs hg hc) λ w1 e1=>?_
 have s1:=e1.size
 try simp only [World.size_alloc,World.size_setCell,World.size_drew,World.putObj_size,Sw.putW_size] at s1
 simp (disch:=try exact DI) only [↓PR,QR,simprocAttr,↓PK]
 exact ⟨by rw [QH],e1⟩
def NO {α:Type} (p:α→Bool) (l:List α):Int:=if idx p l < 0 then 0 else idx p l
def Fl (w0:Wd) (v:Vl) (f:Zt) (pb:Nat) (s:BAr) (hf:Z0 w0 v f) (hp:w0.cell? ⟨pb,0,none⟩=some (.string s)):Ret Pg 165 #[v,Qq4 pb] w0 λ r w'=>r = .bool (decide (f.name=s))∧Ext w0 w':=by
 obtain ⟨tv,cv,rfl,hT,hC⟩:=hf
 have hb:=World.block_lt_of_cell? w0 _ hp
 simp only at hb
 refine ZlV (R:=ZR _) ?_;unfold n83
 simp (disch:=try exact DI) only [↓PR,QR,simprocAttr,joinK_eq,hp]
 exact ⟨by first | trivial | rfl,ee⟩
def H2 (w0:Wd) (v:Vl) (m:Yh) (pb:Nat) (s:BAr) (hf:Qt w0 v m) (hp:w0.cell? ⟨pb,0,none⟩=some (.string s)):Ret Pg 139 #[v,Qq4 pb] w0 λ r w'=>r = .bool (decide (m.name=s))∧Ext w0 w':=by
 obtain ⟨fv,rfl,hF⟩:=hf
 have hb:=World.block_lt_of_cell? w0 _ hp
 simp only at hb
 refine ZlX (R:=ZR _) ?_;unfold n85
 simp (disch:=try exact DI) only [↓PR,QR,simprocAttr,joinK_eq,hp]
 exact ⟨by first | trivial | rfl,ee⟩
def xh (w0:Wd) (v:Vl) (m:Yh) (s:BAr) (hm:Qt w0 v m):Ret Pg 140 #[v,.string s] w0 λ r w'=>r = .tuple #[.int .i64 (NO (λ f=>decide (f.name=s)) m.fields),.bool (m.fields.any λ f=>decide (f.name=s))]∧Ext w0 w':=by
 obtain ⟨fv,rfl,hF⟩:=hm
 refine ZlU (R:=ZR _) ?_;unfold n82
 refine Qqv ?_
 refine Zs (jt _ _ m.fields _ _ (λ f=>decide (f.name=s)) (hF.ext ee) ZjU ?_) ?_
 · intro w v f hf e hv
   exact Fl w v f _ s hv (e.cell (by simp (disch:=try exact DI) only [↓PR,QR,simprocAttr]))
 rintro _ w1 ⟨rfl,e1⟩
 refine Qqv ?_
 exact ⟨by first | trivial | rfl,ee⟩
def OH (w0:Wd) (v:Vl) (d:Xc) (s:BAr) (hd:YM w0 v d):Ret Pg 109 #[v,.string s] w0 λ r w'=>r = .tuple #[.int .i64 (NO (λ m=>decide (m.name=s)) d.msgs),.bool (d.msgs.any λ m=>decide (m.name=s))]∧Ext w0 w':=by
 obtain ⟨fv,rfl,hF⟩:=hd
 refine ZlW (R:=ZR _) ?_;unfold n84
 refine Qqv ?_
 refine Zs (yd _ _ d.msgs _ _ (λ m=>decide (m.name=s)) (hF.ext ee) ZjO ?_) ?_
 · intro w v f hf e hv
   exact H2 w v f _ s hv (e.cell (by simp (disch:=try exact DI) only [↓PR,QR,simprocAttr]))
 rintro _ w1 ⟨rfl,e1⟩
 refine Qqv ?_
 exact ⟨by first | trivial | rfl,ee⟩
open Go.RowKit (intOf Below)
def jF (w0:Wd) (v:Vl) (css:List (Cs 2)) (hs:Ze w0 2 (λ _ cs x=>cs=x.1) v css) (h1:∀ x∈css,∀ u∈x.1,u.oneCell'=true) (hb:css.length≤1048576) :
 Ret Pg 256 #[v] w0 λ r w'=>Yc w' w0.heap.size 128 2 Subtype.val r css∧Ext w0 w':=by
 obtain ⟨A,c,rfl,hlc,hcm,hlm,YS⟩:=Ze.open hs
 refine Zhm (R:=ZR _) ?_;unfold Zhl
 refine Qqk ?_
 cases A with
 | none=>
  have:css=[]:=by
   cases css with
   | nil=>rfl
   | cons x l=>obtain ⟨_,_,_,h,_⟩:=YS 0 x rfl;cases h
  subst this
  simp only [Option.isNone_none]
  refine Qqk ?_
  exact ⟨Yc.nil _ _ _ _ _,ee⟩
 | some a=>
  simp only [Option.isNone_some]
  refine Qqk ?_
  have hO:=Yc.new w0 128 2 (Subtype.val:Cs 2→List Vl) [] (λ x=>x.2) (by simp)
  simp only [List.flatMap_nil,List.length_nil] at hO
  have eW:Ext w0 (w0.alloc (.cells #[] 128)):=ee
  have Uq:w0.heap.size≤(w0.alloc (.cells #[] 128)).heap.size:=eW.size
  generalize w0.alloc (.cells #[] 128)=W at hO eW Uq ⊢
  cases hcs:css with
  | nil=>
   subst hcs
   simp only [List.length_nil]
   rw [Bq underlying118 GR _ _ _ _ _ (Nat.le_refl 0)]
   refine Qqk ?_
   exact ⟨hO,eW⟩
  | cons x0 l0=>
   obtain ⟨b,o,_,hA,_⟩:=YS 0 x0 (by rw [hcs];rfl)
   injection hA with hA
   subst hA
   rw [← hcs]
   refine WV underlying118 GR rfl K7 (λ x=>x.2) h1 hO (λ j x hx=>?_) Uq ?_ (by simp;omega) ?_
   · obtain ⟨b',o',cs,hA',hl',hE,rfl⟩:=YS j x hx
     injection hA' with hA'
     injection hA' with h3 h4
     subst h3 h4
     exact hE.ext eW
   · have:=Zfe
     rw [List.length_nil,Nat.zero_add]
     exact Nat.le_trans (Nat.mul_le_mul hb this) K7
   · intro v' w' ho hg
     refine Qqk ?_
     refine ⟨ho,eW.grown hg ?_⟩
     intro k hk
     have h:=hO.lt k hk
     exact h.1
def H1.one {w:Wd} {cs:List Vl} {m:Yh} (h:H1 w cs m):∀ u∈cs,u.oneCell'=true:=by
 obtain ⟨fv,rfl,h1⟩:=h
 have:=h1.oneCell
 intro u hu
 simp only [List.mem_cons,List.not_mem_nil,or_false] at hu
 rcases hu with rfl | rfl
 · rfl
 · exact this
def qh.one {w:Wd} {cs:List Vl} {t:Ye} (h:qh w cs t):∀ u∈cs,u.oneCell'=true:=by
 obtain rfl:=h
 intro u hu
 simp only [List.mem_cons,List.not_mem_nil,or_false] at hu
 rcases hu with rfl | rfl<;>rfl
def Qy (l:List Zt):List (BAr×Vl):=(l.filter Xx).map λ f=>(f.name,YD f.low (XE f))
def GI (l:List Zt) (f:Zt):Qy (l++[f])=Qy l++(if Xx f then [(f.name,YD f.low (XE f))] else []):=by
 unfold Qy
 rw [List.filter_append,List.map_append]
 cases h:Xx f<;>simp [List.filter_cons,h]
def Yw {α:Type} {l:List α} {k:Nat} {x:α} (hx:l[k]?=some x):l.take (k+1)=l.take k++[x]:=by
 rw [List.take_add_one,hx];rfl
def KC (w0:Wd) (v:Vl) (l:List Zt) (hs:YX w0 v l) :
 Ret Pg 247 #[v] w0 λ r w'=>∃ m,r = .map (some m)∧w0.heap.size≤m∧Y9 w' m (Qy l)∧Ext w0 w':=by
 obtain ⟨A,c,rfl,hlc,hcm,hlm,YS⟩:=Ze.open hs
 refine ZgM (R:=ZR _) ?_;unfold ZgL
 refine Qqk ?_
 have hM0:=Y9.new w0
 have e0:Ext w0 (w0.alloc (.map #[] 0)):=ee
 refine ZE (λ a0 w=>∃ (k:Nat) , a0 = .int .i64 (k:Int)∧k≤l.length∧Ext w0 w∧Y9 w w0.heap.size (Qy (l.take k))) (λ a0 _=>l.length - (intOf a0).toNat) ⟨0,rfl,Nat.zero_le _,ee,hM0⟩ ?_
 rintro _ w ⟨k,rfl,hk,e,hI⟩
 have se:=e.size
 rcases ZH hk with ⟨x,hx,hd,Ym,ZK⟩ | ⟨hk,hd,ZK⟩
 · obtain ⟨b,o,cs,rfl,hl,hA,hE⟩:=YS k x hx
   obtain ⟨tv,cv,rfl,hT,hC,ht1,hc1⟩:=hE.op
   have hlt2:=hI.lt
   simp (disch:=try exact DI) only [↓PR,QR,simprocAttr,↓xC,↓xD,↓xE,ZK,hA.c15]
   refine zcr (Nj _ _ x ⟨tv,cv,rfl,Z8.ext hT ee,Yu.ext hC ee⟩) λ w1 e1=>?_
   have s1:=e1.size
   try simp only [World.size_alloc,World.size_setCell,World.size_drew,World.putObj_size,Sw.putW_size] at s1
   have hI1:=(hI.ext ((Ext.refl w).alloc _)).ext e1
   have hI2:∀ o,Y9 (w1.alloc o) w0.heap.size (Qy (l.take k)):=λ o=>hI1.ext ((Ext.refl w1).alloc _)
   cases hn:Xx x with
   | false=>
    simp (disch:=try exact DI) only [↓PR,QR,simprocAttr,↓xC,↓xD,↓xE,e1.cellQ,e1.frozenQ,YD]
    have hf:=hI2 (.cells #[.int .i64 0,.int .i64 0] 300)
    rw [show Qy (l.take k)=Qy (l.take (k+1)) by rw [Yw hx,GI,hn];simp] at hf
    exact ⟨⟨k+1,rfl,by omega,ee,hf⟩,ZQ (kd := .i64) Ym⟩
   | true=>
    simp (disch:=try exact DI) only [↓PR,QR,simprocAttr,↓xC,↓xD,↓xE,e1.cellQ,e1.frozenQ,YD]
    have hf:=hI2 (.cells #[.int .i64 x.low,.int .i64 (XE x)] 300)
    rw [Lx underlying296 underlying9 hf]
    have hg:=hf.put x.name (YD x.low (XE x))
    have eg:Ext w0 (putW (w1.alloc (.cells #[.int .i64 x.low,.int .i64 (XE x)] 300)) w0.heap.size (Qy (l.take k)) x.name (YD x.low (XE x))):=Ext.putW ee (Nat.le_refl _) _ _
    rw [show Qy (l.take k)++[(x.name,YD x.low (XE x))]=Qy (l.take (k+1)) by rw [Yw hx,GI,hn];simp] at hg
    simp (disch:=try exact DI) only [↓PR,QR,simprocAttr,↓xC,↓xD,↓xE]
    exact ⟨⟨k+1,rfl,by omega,ee,hg⟩,ZQ (kd := .i64) Ym⟩
 · subst hk
   simp (disch:=try exact DI) only [↓PR,QR,simprocAttr,↓xC,↓xD,↓xE,ZK]
   rw [List.take_length] at hI
   exact ⟨_,rfl,Nat.le_refl _,hI,e⟩
def Q3 (w:Wd) (pb:Nat) (tv:Vl) (ts:List Ye):Prop:=w.cell? ⟨pb,0,none⟩=some tv∧Z8 w tv ts∧∀ A m c,tv = .slice (some A) m c→pb < A.block
def Q3.ext {w w':Wd} {pb:Nat} {tv:Vl} {ts:List Ye} (h:Q3 w pb tv ts) (e:Ext w w'):Q3 w' pb tv ts:=⟨e.cell h.1,Z8.ext h.2.1 e,h.2.2⟩
def Q3.set {w:Wd} {pb:Nat} {tv:Vl} {ts:List Ye} (h:Q3 w pb tv ts) {b o:Nat} (hb:b < pb) (u:Vl):Q3 (w.setCell ⟨b,o,none⟩ u) pb tv ts:=
 ⟨by rw [Xs K9];exact h.1,Ze.setOther h.2.1 u (λ A m c e=>by have:=h.2.2 A m c e;omega) (λ _ _ h=>h),h.2.2⟩
def Cq (w0:Wd) (v:Vl) (base:Int) (ts:List Ye) (hs:Ke w0 v base ts) (hb:ts.length≤1048576) :
 Ret Pg 248 #[v] w0 λ r w'=>∃ pb tv,r = .func (.func 257) #[] #[Qq4 pb]∧Q3 w' pb tv (if WD base ts then ts else [])∧w0.heap.size≤pb∧Ext w0 w':=by
 obtain ⟨tv,rfl,hT⟩:=hs
 have ht1:=Ze.oneCell hT
 refine Zg2 (R:=ZR _) ?_;unfold Zg1
 simp (disch:=try exact DI) only [↓PR,QR,simprocAttr,↓AO]
 refine zcr (xn _ _ base ts ⟨tv,rfl,Z8.ext hT ee⟩) λ w1 e1=>?_
 have s1:=e1.size
 try simp only [World.size_alloc,World.size_setCell,World.size_drew,World.putObj_size,Sw.putW_size] at s1
 cases hv:WD base ts with
 | false=>
  simp (disch:=try exact DI) only [↓PR,QR,simprocAttr,↓AO]
  refine ⟨_,_,rfl,⟨e1.cell (by simp (disch:=try exact DI) only [↓PR,QR,simprocAttr]),Ze.nil _ _ _,λ A m c e=>by cases e⟩,by omega,ee⟩
 | true=>
  simp (disch:=try exact DI) only [↓PR,QR,simprocAttr,↓AO,e1.cellQ,e1.frozenQ]
  obtain ⟨cssT,hrawT,hmatesT⟩:=Ze.raw hT
  refine Zs (jF _ tv cssT (hrawT.ext ZaJ ee) (λ y hy=>by obtain ⟨m,_,hm⟩:=hmatesT.mem hy;exact hm.one) (by rw [hmatesT.1];exact hb)) ?_
  rintro t8 w2 ⟨hO,e2⟩
  have s2:=e2.size
  have hO':=Yc.mates hO (hmatesT.imp λ _ _ h=>h)
  have hS:=hO'.slice (E:=qh) (λ _=>rfl) (λ _ _=>rfl)
  have h8:=Ze.oneCell hS
  have hTy:GW w2 (w0.heap.size+1) 118:=(GW.ext (w:=(w0.alloc _).alloc (.cells #[.slice none 0 0] 118)) ⟨_,_,by have:=Zv (w0.alloc (.cells #[.int .i64 base,tv] 120)) #[.slice none 0 0] 118;rw [World.size_alloc] at this;exact this⟩ (e1.trans e2))
  simp (disch:=try exact DI) only [↓PR,QR,simprocAttr,↓AO,e1.cellQ,e1.frozenQ,e2.cellQ,e2.frozenQ]
  have hS2:=((hO'.range.only (YT.setCell w2 (w0.heap.size+1) 0 t8) (.inr (.inl K9))).1).slice (E:=qh) (λ _=>rfl) (λ _ _=>rfl)
  refine ⟨_,t8,rfl,⟨?_,hS2,λ A m c e=>by subst e;have:=hO'.lt A.block rfl;omega⟩,by omega,ee⟩
  simp (disch:=try exact DI) only [↓PR,QR,simprocAttr,e1.cellQ,e1.frozenQ,e2.cellQ,e2.frozenQ]
def Ku (ts:List Ye) (k:Nat):Vl:=match ts[k]? with
 | some t => .string t.field
 | none=>undef
def Cr (pb:Nat) (tv:Vl) (ts:List Ye):OM Pg 257 #[Qq4 pb] ts.length (Ku ts) (λ w=>Q3 w pb tv ts):=by
 intro yv J Jx Jp w hFP hJe hJx Qu h0
 obtain ⟨hc,hT,_⟩:=hFP 0 w h0
 obtain ⟨A,c,rfl,hlc,hcm,hlm,YS⟩:=Ze.open hT
 refine Zg4 (t0:=yv) (t1 := Qq4 pb) ?_
 unfold Zg3
 refine Qqg hc ?_
 refine ZE (λ i w=>∃ k:Nat,i = .int .i64 k∧k≤ts.length∧J k w) (λ i _=>ts.length - (intOf i).toNat) ⟨0,rfl,by omega,h0⟩ ?_
 rintro i w' ⟨k,rfl,hk,hJ⟩
 rcases ZH hk with ⟨x,hx,hd,Ym,ZK⟩ | ⟨hk,hd,ZK⟩
 · obtain ⟨_,hT',_⟩:=hFP k w' hJ
   obtain ⟨A',c',hv,_,_,_,hel'⟩:=Ze.open hT'
   injection hv with hv _ hv'
   subst hv hv'
   obtain ⟨b,o,cs,rfl,hl,hA,rfl⟩:=hel' k x hx
   have er:=Ext.refl w'
   simp (disch:=try exact DI) only [↓PR,QR,simprocAttr,↓AP,↓AQ,ZK,hA.c2]
   have hs:=Qu k Ym _ (hJe k w' _ hJ ((Ext.refl w').alloc (.cells #[.string x.field,.int .i64 x.factor] 128)))
   rw [show Ku ts k = .string x.field by unfold Ku;rw [hx]] at hs
   refine GZ hs (λ ch w h=>h) ?_
   rintro v w2 (⟨rfl,h2⟩ | ⟨rfl,h2⟩)
   · simp (disch:=try exact DI) only [↓PR,QR,simprocAttr,↓AP,↓AQ]
     exact ⟨⟨k+1,rfl,by omega,h2⟩,ZQ (kd := .i64) Ym⟩
   · simp (disch:=try exact DI) only [↓PR,QR,simprocAttr,↓AP,↓AQ]
     exact .inr h2
 · subst hk
   simp (disch:=try exact DI) only [↓PR,QR,simprocAttr,↓AP,↓AQ,ZK]
   exact .inl hJ
def Q3.lasts (B pb:Nat) (tv:Vl) (ts:List Ye):Yk B (λ w=>Q3 w pb tv ts):=
 Yk.and (Yk.cell B) (Yk.and ⟨λ _ _ h e=>Z8.ext h e,λ _ _ _ _ _ h hl=>Ze.putLoop (λ _ _ h=>h) hl h⟩ (Yk.const _ _))
def Xt (but:BAr) (ps:List (BAr×Vl)) (p:Vl→Bool):List Ye→Bool→Int
 | [],no=>if no then 9 else 0
 | t::ts,no=>if t.field=but then Xt but ps p ts no else match Yy ps t.field with
  | none=>Xt but ps p ts true
  | some v=>if p v then Xt but ps p ts no else 2
def zU (w0:Wd) (v:Vl) (base:Int) (ts:List Ye) (but:BAr) (m:Nat) (ps:List (BAr×Vl)) (g:FuncId) (caps:AVl) (p:Vl→Bool) (hs:Ke w0 v base ts) (hb:ts.length≤1048576)
 (hm:Y9 w0 m ps) (hr:∀ k v,Yy ps k=some v→∃ lo hi,v=YD lo hi) (hg:Callable Pg g) (hc:∀ w lo hi,Ext w0 w→Ret Pg g (#[YD lo hi]++caps) w λ r w'=>r = .bool (p (YD lo hi))∧Ext w w') :
 Ret Pg 259 #[v,.string but,.map (some m),.func (.func g) #[] caps] w0 λ r w'=>r = .int .i64 (if WD base ts then Xt but ps p ts false else 2)∧Ext w0 w':=by
 obtain ⟨tv,rfl,hT⟩:=hs
 have ht1:=Ze.oneCell hT
 have hmlt:=hm.lt
 refine Zhb (R:=ZR _) ?_;unfold Zej
 simp (disch:=try exact DI) only [↓PR,QR,simprocAttr,↓Vw,↓Vx,↓Vy,↓Vh,↓Vz,↓VA]
 refine zcr (xn _ _ base ts ⟨tv,rfl,Z8.ext hT ee⟩) λ w1 e1=>?_
 have s1:=e1.size
 try simp only [World.size_alloc,World.size_setCell,World.size_drew,World.putObj_size,Sw.putW_size] at s1
 cases hv:WD base ts with
 | false=>
  simp (disch:=try exact DI) only [↓PR,QR,simprocAttr,↓Vw,↓Vx,↓Vy,↓Vh,↓Vz,↓VA,e1.cellQ,e1.frozenQ,Um,jw,Qz]
  exact ⟨by first | trivial | rfl,ee⟩
 | true=>
  simp (disch:=try exact DI) only [↓PR,QR,simprocAttr,↓Vw,↓Vx,↓Vy,↓Vh,↓Vz,↓VA,e1.cellQ,e1.frozenQ]
  refine Zs (Cq _ _ base ts ⟨tv,rfl,Z8.ext hT ee⟩ hb) ?_
  rintro _ w2 ⟨pb,tv2,rfl,hTA,hpb,e2⟩
  rw [hv] at hTA
  simp only [if_true] at hTA
  have s2:=e2.size
  simp only [World.size_alloc] at s2 hpb
  have o5:w2.heap[w0.heap.size+1]?=some (.cells #[.string but] 9 (0,0)):=by simp (disch:=try exact DI) only [↓PR,QR,simprocAttr,e1.heapQ,e2.heapQ]
  have o6:w2.heap[w0.heap.size+1+1]?=some (.cells #[.map (some m)] 296 (0,0)):=by simp (disch:=try exact DI) only [↓PR,QR,simprocAttr,e1.heapQ,e2.heapQ]
  have o7:w2.heap[w0.heap.size+1+1+1]?=some (.cells #[.func (.func g) #[] caps] 311 (0,0)):=by simp (disch:=try exact DI) only [↓PR,QR,simprocAttr,e1.heapQ,e2.heapQ]
  have o8:w2.heap[w0.heap.size+1+1+1+1]?=some (.cells #[.int .i64 0] 49 (0,0)):=by simp (disch:=try exact DI) only [↓PR,QR,simprocAttr,e1.heapQ,e2.heapQ]
  have o9:w2.heap[w1.heap.size]?=some (.cells #[.bool false] 4 (0,0)):=by simp (disch:=try exact DI) only [↓PR,QR,simprocAttr,e1.heapQ,e2.heapQ]
  have eW:Ext w0 w2:=ee
  simp only [World.size_alloc]
  unfold Vh
  let I:Nat→Wd→Prop:=λ k w=>Ext w0 w∧w.heap[w0.heap.size+1]?=some (.cells #[.string but] 9 (0,0))∧w.heap[w0.heap.size+1+1]?=some (.cells #[.map (some m)] 296 (0,0)) ∧
   w.heap[w0.heap.size+1+1+1]?=some (.cells #[.func (.func g) #[] caps] 311 (0,0))∧Q3 w pb tv2 ts ∧
   ∃ nb x,w.heap[w0.heap.size+1+1+1+1]?=some (.cells #[.int .i64 x] 49 (0,0))∧w.heap[w1.heap.size]?=some (.cells #[.bool nb] 4 (0,0))∧Xt but ps p (ts.drop k) nb=Xt but ps p ts false
  let Ix:Nat→Wd→Prop:=λ c w=>c=0∧Ext w0 w∧w.heap[w0.heap.size+1+1+1+1]?=some (.cells #[.int .i64 2] 49 (0,0))∧Xt but ps p ts false=2
  have hLI:∀ k,Yk w2.heap.size (I k):=λ k=>Yk.and (Yk.from K9) (Yk.and (Yk.has _ (by simp)) (Yk.and (Yk.has _ (by simp)) (Yk.and (Yk.has _ (by simp)) (Yk.and (Q3.lasts _ _ _ _)
   (Yk.ex λ nb=>Yk.ex λ x=>Yk.and (Yk.has _ (by simp)) (Yk.and (Yk.has _ (by simp)) (Yk.const _ _)))))))
  have hLX:∀ k,Yk w2.heap.size (Ix k):=λ k=>Yk.and (Yk.const _ _)<|Yk.and (Yk.from K9) (Yk.and (Yk.has _ (by simp)) (Yk.const _ _))
  refine ⟨_,_,ts.length,Ku ts,λ w=>Q3 w pb tv2 ts,I,Ix,λ _ _=>False,rfl,Zfz,Cr pb tv2 ts,⟨eW,o5,o6,o7,hTA,false,0,o8,o9,rfl⟩,λ k w h=>h.2.2.2.2.1,hLI,hLX,?_,?_,?_,?_⟩
  · intro rec j w3 hj hI3 hrec hready
    refine ⟨hready,λ w4 hbz=>?_⟩
    have hrec4:=hrec.busied hbz
    have hI4:=(hLI j).busied hbz (Nat.le_succ _) hI3
    clear hI3 hrec hready hbz
    obtain ⟨e4,o5,o6,o7,hTA4,nb,x,o8,o9,hF⟩:=hI4
    obtain ⟨t,hx⟩:=getElem?_lt hj
    rw [show Ku ts j = .string t.field by unfold Ku;rw [hx]]
    have hd:ts.drop j=t::ts.drop (j+1):=by
     rw [List.drop_eq_getElem_cons hj]
     congr 1
     exact (Qqj hx).2
    rw [hd] at hF
    simp only [Xt] at hF
    have hm4:=hm.ext e4
    have s4:=e4.size
    have l9:w1.heap.size < w4.heap.size:=(Qqq o9).1
    have l8:w0.heap.size+1+1+1+1 < w4.heap.size:=(Qqq o8).1
    simp (disch:=try exact DI) only [↓PR,QR,simprocAttr,↓Vw,↓Vx,↓Vy,↓Vh,↓Vz,↓VA,(Za o5).1,(Za o6).1]
    rw [Uh underlying296 underlying9 UK hm4]
    have next:∀ nb' w5,Ext w4 w5→Xt but ps p (ts.drop (j+1)) nb'=Xt but ps p ts false→nb'=nb→I (j+1) w5:=λ nb' w5 e5 h hn=>(hLI (j+1)).ext _ _ ⟨e4,o5,o6,o7,hTA4,nb,x,o8,o9,hn ▸ h⟩ e5
    cases hl:Yy ps t.field with
    | none=>
     rw [hl] at hF
     simp (disch:=try exact DI) only [↓PR,QR,simprocAttr,↓Vw,↓Vx,↓Vy,↓Vh,↓Vz,↓VA,(Za o5).1]
     by_cases hbut:t.field=but
     · rw [if_pos hbut] at hF
       simp only [hbut,decide_true]
       refine Qqk ?_
       exact ⟨hrec4.alloc _,next nb _ ee hF rfl⟩
     · rw [if_neg hbut] at hF
       simp only [hbut,decide_false]
       simp (disch:=try exact DI) only [↓PR,QR,simprocAttr,↓Vw,↓Vx,↓Vy,↓Vh,↓Vz,↓VA,(Za o9).1,(Za o9).2]
       refine ⟨(hrec4.setCell _ _).alloc _,ee,by simp (disch:=try exact DI) only [↓PR,QR,simprocAttr,o5],by simp (disch:=try exact DI) only [↓PR,QR,simprocAttr,o6],by simp (disch:=try exact DI) only [↓PR,QR,simprocAttr,o7],(hTA4.set K9 _).ext ((Ext.refl _).alloc _),true,x,by simp (disch:=try exact DI) only [↓PR,QR,simprocAttr,o8],?_,hF⟩
       have:=((Ext.refl _).alloc (.cells #[.int .i64 0,.int .i64 0] 300)).obj (Zy (o:=0) o9 (.bool true))
       simpa using this
    | some v=>
     obtain ⟨lo,hi,rfl⟩:=hr _ _ hl
     rw [hl] at hF
     simp (disch:=try exact DI) only [↓PR,QR,simprocAttr,↓Vw,↓Vx,↓Vy,↓Vh,↓Vz,↓VA,(Za o5).1,YD]
     by_cases hbut:t.field=but
     · rw [if_pos hbut] at hF
       simp only [hbut,decide_true]
       refine Qqk ?_
       exact ⟨hrec4.alloc _,next nb _ ee hF rfl⟩
     · rw [if_neg hbut] at hF
       simp only [hbut,decide_false]
       simp (disch:=try exact DI) only [↓PR,QR,simprocAttr,↓Vw,↓Vx,↓Vy,↓Vh,↓Vz,↓VA,(Za o7).1]
       rw [YO hg]
       refine zcr (hc _ lo hi ee) λ w6 e6=>?_
       have s6:=e6.size
       simp only [World.size_alloc] at s6
       cases hp:p (YD lo hi) with
       | true=>
        simp only [hp,if_true] at hF
        simp (disch:=try exact DI) only [↓PR,QR,simprocAttr,↓Vw,↓Vx,↓Vy,↓Vh,↓Vz,↓VA]
        exact ⟨(hrec4.alloc _).ext e6,next nb _ ee hF rfl⟩
       | false=>
        simp only [hp,Bool.false_eq_true,if_false] at hF
        simp (disch:=try exact DI) only [↓PR,QR,simprocAttr,↓Vw,↓Vx,↓Vy,↓Vh,↓Vz,↓VA,e6.cellQ,e6.frozenQ,(Za o8).1,(Za o8).2]
        refine ⟨((hrec4.alloc _).ext e6).setCell _ _,rfl,ee,?_,hF.symm⟩
        have:=Zy (o:=0) ((((Ext.refl w4).alloc (.cells #[.int .i64 lo,.int .i64 hi] 300)).trans e6).obj o8) (.int .i64 2)
        simpa using this
  · rintro w3 ⟨e3,o5,o6,o7,hTA3,nb,x,o8,o9,hF⟩ hmk
    rw [List.drop_length] at hF
    simp only [Xt] at hF
    have l2:w2.heap.size < w3.heap.size:=(Qqq hmk).1
    cases nb with
    | true=>
     simp (disch:=try exact DI) only [↓PR,QR,simprocAttr,↓Vw,↓Vx,↓Vy,↓Vh,↓Vz,↓VA,(Za o8).1,(Za o8).2,(Za o9).1]
     refine V5 (hmk.setCell _ _) ?_
     simp (disch:=try exact DI) only [↓PR,QR,simprocAttr,Um,jw,Qz,Kh (hmk.setCell _ _),(Za o8).1]
     exact ⟨by rw [← hF];rfl,ee⟩
    | false=>
     simp (disch:=try exact DI) only [↓PR,QR,simprocAttr,↓Vw,↓Vx,↓Vy,↓Vh,↓Vz,↓VA,(Za o8).1,(Za o8).2,(Za o9).1]
     refine V5 (hmk.setCell _ _) ?_
     simp (disch:=try exact DI) only [↓PR,QR,simprocAttr,Um,jw,Qz,Kh (hmk.setCell _ _),(Za o8).1]
     exact ⟨by rw [← hF];rfl,ee⟩
  · rintro c w3 ⟨rfl,e3,o8,hF⟩ hmk
    have l2:w2.heap.size < w3.heap.size:=(Qqq hmk).1
    show Kz _ _ _ _ _
    refine V5 hmk ?_
    simp (disch:=try exact DI) only [↓PR,QR,simprocAttr,Um,jw,Qz,Kh hmk,(Za o8).1]
    exact ⟨by rw [hF],ee⟩
  · rintro _ _ h
    exact h.elim
def yM (base:Int) (vf:Ye→Int) (ts:List Ye):Int:=ts.foldl (λ n t=>IntKind.i64.wrap (n+IntKind.i64.wrap (t.factor*vf t))) base
def Lo (w0:Wd) (v:Vl) (base:Int) (ts:List Ye) (g:FuncId) (caps:AVl) (vf:Ye→Int) (hs:Ke w0 v base ts) (hg:Callable Pg g)
 (hc:∀ w t,Ext w0 w→Ret Pg g (#[UI t]++caps) w λ r w'=>r = .int .i64 (vf t)∧Ext w w') :
 Ret Pg 261 #[v,.func (.func g) #[] caps] w0 λ r w'=>r = .int .i64 (yM base vf ts)∧Ext w0 w':=by
 obtain ⟨tv,rfl,hT⟩:=hs
 obtain ⟨A,c,rfl,hlc,hcm,hlm,YS⟩:=Ze.open hT
 refine Zhh (R:=ZR _) ?_;unfold Zhg
 simp (disch:=try exact DI) only [↓PR,QR,simprocAttr,↓xL,↓xM,↓xN]
 refine YA (λ a0 a1 w=>∃ (k:Nat) (n:Int),a0 = .int .i64 n∧a1 = .int .i64 (k:Int)∧k≤ts.length∧Ext w0 w∧yM n vf (ts.drop k)=yM base vf ts) (λ a0 a1 _=>ts.length - (intOf a1).toNat) ⟨0,base,rfl,rfl,Nat.zero_le _,ee,rfl⟩ ?_
 rintro _ _ w ⟨k,n,rfl,rfl,hk,e,hI⟩
 have se:=e.size
 rcases ZH hk with ⟨x,hx,hd,Ym,ZK⟩ | ⟨hk,hd,ZK⟩
 · obtain ⟨b,o,cs,rfl,hl,hA,rfl⟩:=YS k x hx
   rw [hd] at hI
   simp (disch:=try exact DI) only [↓PR,QR,simprocAttr,↓xL,↓xM,↓xN,ZK,hA.c2]
   refine ZB ?_
   simp (disch:=try exact DI) only [↓PR,QR,simprocAttr,↓xL,↓xM,↓xN]
   rw [YO hg]
   refine zcr (hc _ x ee) λ w1 e1=>?_
   refine ⟨e1,?_⟩
   simp (disch:=try exact DI) only [↓PR,QR,simprocAttr,↓xL,↓xM,↓xN]
   exact ⟨⟨k+1,_,rfl,rfl,by omega,ee,hI⟩,ZQ (kd := .i64) Ym⟩
 · subst hk
   simp (disch:=try exact DI) only [↓PR,QR,simprocAttr,↓xL,↓xM,↓xN,ZK]
   rw [hd] at hI
   exact ⟨by rw [← hI];rfl,e⟩
def RP (rp:List (BAr×Int×Int)):List (BAr×Vl):=rp.map λ p=>(p.1,YD p.2.1 p.2.2)
def YC (rp:List (BAr×Int×Int)) (s:BAr):Option (Int×Int):=(rp.reverse.find? (λ p=>decide (p.1=s))).map (·.2)
def Wl (rp:List (BAr×Int×Int)) (s:BAr):Yy (RP rp) s=(YC rp s).map λ q=>YD q.1 q.2:=by
 unfold Yy RP YC
 rw [← List.map_reverse,List.find?_map]
 simp only [Option.map_map]
 rfl
def Xo (l:List Zt):List (BAr×Int×Int):=(l.filter Xx).map λ f=>(f.name,f.low,XE f)
def UA (l:List Zt):Qy l=RP (Xo l):=by
 unfold Qy RP Xo
 rw [List.map_map]
 rfl
def Wb (rp:List (BAr×Int×Int)) (least:Bool) (t:Ye):Int:=match YC rp t.field with
 | some (lo,hi)=>if least == decide (t.factor > 0) then lo else hi
 | none=>0
def Zat (w0:Wd) (t:Ye) (pm pl m:Nat) (rp:List (BAr×Int×Int)) (least:Bool) (h1:w0.cell? ⟨pm,0,none⟩=some (.map (some m))) (h2:w0.cell? ⟨pl,0,none⟩=some (.bool least)) (hm:Y9 w0 m (RP rp)) :
 Ret Pg 262 #[UI t,Qq4 pm,Qq4 pl] w0 λ r w'=>r = .int .i64 (Wb rp least t)∧Ext w0 w':=by
 have hb1:=World.block_lt_of_cell? w0 _ h1
 have hb2:=World.block_lt_of_cell? w0 _ h2
 simp only at hb1 hb2
 unfold UI
 refine ZgW (R:=ZR _) ?_;unfold ZgV
 refine Qqh h1 h2 ?_
 rw [VM underlying296 underlying9 UK (hm.ext ee),Wl]
 unfold Wb
 cases hl:YC rp t.field with
 | none=>
  simp (disch:=try exact DI) only [↓PR,QR,simprocAttr,↓Kq,h1,h2,Option.map_none]
  cases (least == decide (0 < t.factor)) with
  | true=>simp (disch:=try exact DI) only [↓PR,QR,simprocAttr,↓Kq,h1,h2];exact ⟨by first | trivial | rfl,ee⟩
  | false=>
   simp (disch:=try exact DI) only [↓PR,QR,simprocAttr,↓Kq,h1,h2]
   rw [VM underlying296 underlying9 UK (hm.ext ee),Wl,hl]
   simp (disch:=try exact DI) only [↓PR,QR,simprocAttr,↓Kq,Option.map_none]
   exact ⟨by first | trivial | rfl,ee⟩
 | some q=>
  obtain ⟨lo,hi⟩:=q
  simp (disch:=try exact DI) only [↓PR,QR,simprocAttr,↓Kq,h1,h2,YD]
  cases (least == decide (0 < t.factor)) with
  | true=>simp (disch:=try exact DI) only [↓PR,QR,simprocAttr,↓Kq,h1,h2];exact ⟨by first | trivial | rfl,ee⟩
  | false=>
   simp (disch:=try exact DI) only [↓PR,QR,simprocAttr,↓Kq,h1,h2]
   rw [VM underlying296 underlying9 UK (hm.ext ee),Wl,hl]
   simp (disch:=try exact DI) only [↓PR,QR,simprocAttr,↓Kq,YD]
   exact ⟨by first | trivial | rfl,ee⟩
def Vq (lo hi:Int):Bool:=decide (0≤lo)&&decide (lo≤hi)&&decide (hi < 34359738368)
def HW:Vl→Bool
 | .agg a=>match a.toList with
  | [.int _ lo,.int _ hi]=>Vq lo hi
  | _=>false
 | _=>false
def Pf (w0:Wd) (lo hi:Int):Ret Pg 258 #[YD lo hi] w0 λ r w'=>r = .bool (HW (YD lo hi))∧Ext w0 w':=by
 unfold YD
 refine ZgS (R:=ZR _) ?_;unfold ZgR
 refine Qqv ?_
 refine zcr (Fs (by simp only [World.size_alloc]) _ _ _ _) λ w1 e1=>?_
 have s1:=e1.size
 try simp only [World.size_alloc,World.size_setCell,World.size_drew,World.putObj_size,Sw.putW_size] at s1
 refine Qqv ?_
 exact ⟨rfl,ee⟩
def FB (w0:Wd) (pm ps m:Nat) (rp:List (BAr×Int×Int)) (least:Bool) (base:Int) (tv:Vl) (ts:List Ye) (h0:w0.cell? ⟨ps,0,none⟩=some (.int .i64 base)) (h0':w0.cell? ⟨ps,1,none⟩=some tv) (hT:Z8 w0 tv ts)
 (h1:w0.cell? ⟨pm,0,none⟩=some (.map (some m))) (hm:Y9 w0 m (RP rp)) :
 Ret Pg 260 #[.bool least,Qq4 ps,Qq4 pm] w0 λ r w'=>r = .int .i64 (yM base (Wb rp least) ts)∧Ext w0 w':=by
 have hb1:=World.block_lt_of_cell? w0 _ h0
 have hb2:=World.block_lt_of_cell? w0 _ h1
 simp only at hb1 hb2
 refine ZgU (R:=ZR _) ?_;unfold ZgT
 refine Qqh h0 h0' ?_
 refine Zs (Lo _ _ base ts _ _ (Wb rp least) ⟨tv,rfl,Z8.ext hT ee⟩ ZkF ?_) ?_
 · intro w t e
   exact Zat w t pm w0.heap.size m rp least (((Ext.refl w0).alloc _).trans e |>.cell h1) (e.cell (by simp (disch:=try exact DI) only [↓PR,QR,simprocAttr])) (hm.ext (((Ext.refl w0).alloc _).trans e))
 rintro _ w1 ⟨rfl,e1⟩
 refine Qqv ?_
 exact ⟨by first | trivial | rfl,ee⟩
def YW (base:Int) (ts:List Ye) (rp:List (BAr×Int×Int)):Int:=if WD base ts then Xt ByteArray.empty (RP rp) HW ts false else 2
def Qw (base:Int) (ts:List Ye) (rp:List (BAr×Int×Int)):Int:=if YW base ts rp=0 then yM base (Wb rp true) ts else 0
def Qv (base:Int) (ts:List Ye) (rp:List (BAr×Int×Int)):Int:=if YW base ts rp=0 then yM base (Wb rp false) ts else 0
def Dy (w0:Wd) (v:Vl) (base:Int) (ts:List Ye) (m:Nat) (rp:List (BAr×Int×Int)) (hs:Ke w0 v base ts) (hb:ts.length≤1048576) (hm:Y9 w0 m (RP rp)) :
 Ret Pg 249 #[v,.map (some m)] w0 λ r w'=>r = .tuple #[YD (Qw base ts rp) (Qv base ts rp),.int .i64 (YW base ts rp)]∧Ext w0 w':=by
 obtain ⟨tv,rfl,hT⟩:=hs
 have hT1:=Ze.oneCell hT
 have hmlt:=hm.lt
 refine ZgQ (R:=ZR _) ?_;unfold ZgP
 simp (disch:=try exact DI) only [↓PR,QR,simprocAttr,↓AM,↓AN,↓xF]
 refine Zs (zU _ _ base ts ByteArray.empty m (RP rp) _ _ HW ⟨tv,rfl,Z8.ext hT ee⟩ hb (hm.ext ee) (λ k v hv=>?_) ZkC (λ w lo hi e=>by simpa using Pf w lo hi)) ?_
 · rw [Wl] at hv
   obtain ⟨q,_,rfl⟩:=Option.map_eq_some_iff.1 hv
   exact ⟨q.1,q.2,rfl⟩
 rintro _ w1 ⟨rfl,e1⟩
 have s1:=e1.size
 simp only [World.size_alloc] at s1
 show xF _ _ _ (.int .i64 (YW base ts rp)) _ w1
 unfold Qw Qv
 by_cases hE:YW base ts rp=0
 · rw [hE]
   simp (disch:=try exact DI) only [↓PR,QR,simprocAttr,↓AM,↓AN,↓xF]
   have c0:w1.cell? ⟨w0.heap.size,0,none⟩=some (.int .i64 base):=by simp (disch:=try exact DI) only [↓PR,QR,simprocAttr,e1.cellQ]
   have c1:w1.cell? ⟨w0.heap.size,1,none⟩=some tv:=by simp (disch:=try exact DI) only [↓PR,QR,simprocAttr,e1.cellQ]
   have c2:w1.cell? ⟨w0.heap.size+1,0,none⟩=some (.map (some m)):=by simp (disch:=try exact DI) only [↓PR,QR,simprocAttr,e1.cellQ]
   have eW:Ext w0 w1:=ee
   rw [YO ZfA]
   refine zcr (FB w1 _ _ m rp true base tv ts c0 c1 (hT.ext eW) c2 (hm.ext eW)) λ w2 e2=>?_
   have s2:=e2.size
   simp only [World.size_alloc]
   rw [YO ZfA]
   refine zcr (FB w2 _ _ m rp false base tv ts (e2.cell c0) (e2.cell c1) ((Z8.ext hT eW).ext e2) (e2.cell c2) ((hm.ext eW).ext e2)) λ w3 e3=>?_
   have s3:=e3.size
   simp (disch:=try exact DI) only [↓PR,QR,simprocAttr,↓AM,↓AN,↓xF,e1.cellQ,e1.frozenQ,e2.cellQ,e2.frozenQ,e3.cellQ,e3.frozenQ]
   exact ⟨by first | trivial | rfl,ee⟩
 · have Y3:(YW base ts rp != 0)=true:=by simpa using hE
   simp (disch:=try exact DI) only [↓PR,QR,simprocAttr,↓AM,↓AN,↓xF,Y3,e1.cellQ,e1.frozenQ]
   simp only [hE,if_false]
   exact ⟨by first | trivial | rfl,ee⟩
def P5 b c a (Zu:KV) R w:=
 X0 94 b a R w λ d w=>
 L0 9 d R w λ e w=>
 Qp Pg c #[e] (Zj R) w λ f w=>
 Zo f (
 R (.returned a) w) (
 B0 .add 3 true a (QqJ 1) R w λ g w=>
 Zu g w)
def Zh3 a c R w:=
 G0 94 3 a R w λ d w=>
 Yz (λ b w Zu=>
 B0 .lss 3 false b d R w λ e w=>
 Zo e (
 P5 a c b Zu R w) (
 R (.returned (.int .i64 (-1))) w)) (QqJ 0) w
def Zh4:QqQ2 129 Zh3:=λ h=>by
 refine yD func129 ?_
 refine zs<|zr<|zm<|zn<|zk<|zs<|zs<|zr<|zm<|yx h λ h=>zm<|zn<|zk<|Zk<|yl1 [4,5,8,9,10,11,12,13,14,15,16,17,18] 8 h λ σ w next h=>?_
 refine zs<|zr<|yb h λ h=>zn<|zk<|zs<|yC h (λ h=>?_) λ h=>?_
 · refine Zi<|zk<|zs<|Zk<|zs<|zr<|zm<|zm<|zn<|zk<|zs<|zr<|zm<|zm<|zm ?_
   refine yv h λ h=>yv h λ h=>yV h λ h=>zn<|zk<|yC h (λ h=>zs<|zr<|zm<|zm<|zn<|zk<|Zh<|Zd<|Zb<|Zb<|Zd<|Zb<|Zf rfl rfl h) λ h=>Zi<|Zg<|zk<|zr<|yb h λ h=>zm<|zn<|zk ?_
   exact ⟨rfl,h⟩
 exact ZD<|Zc<|Zc<|Zp<|zk<|zs<|zr<|zm<|zn<|zk<|Zh<|Zf rfl rfl h
def PJ d a b (e:WPr) R w:=
 opV Pg (Instr.typeAssert b 20 131 true) (Zj R) w λ c w=>
 E0q c 0 R w λ f w=>
 E0q c 1 R w λ g w=>
 S0 131 d f R w λ w=>
 S0 4 a g R w λ w=>
 L0 4 a R w λ h w=>
 N0 h R w λ i w=>
 Zo i (
 opV Pg (Instr.panic b) (Zj R) w λ _ w=>
 False) (
 e w)
def ZaS c d a R w:=
 opV Pg (ZP .neq 20 true a .nilIface) (Zj R) w λ e w=>
 Zm (λ (w:Wd)=>
 R (.returned (.tuple #[])) w) λ b=>
 Zo e (
 PJ c d a b R w) (
 b w)
def Zbw {t0 t1:Vl} {u:FrameMode} {R:Ending→FrameMode→Wd→Prop} {w:Wd} (h:ZaS t0 t1 (Sw.recM u).1 (λ e w=>R e (Sw.recM u).2 w) w):CallsDIn Fence.wide 0 Pg 134 #[t0,t1] u w R:=by
 refine GD (args:=[t0,t1]) (d:=3) func134 rfl (Nat.le_of_ble_eq_true rfl) rfl rfl rfl rfl ?_
 generalize (recM u).1=t3 at h ⊢
 generalize hR:(λ e w=>R e (recM u).2 w)=R' at h ⊢
 clear hR
 revert h
 generalize R'=R
 intro h
 unfold ZaS at h
 refine zm<|zn<|zs<|zr<|zm<|yb h λ h=>zn<|zk<|yJ0 [6,7,8,9,10,11,12,13] h (λ _ _ hkK1 h=>?_) λ σ w h=>?_
 · refine yC h (λ h=>?_) λ h=>?_
   · refine zs<|zr<|zm<|yv h λ h=>zm<|yv h λ h=>yv h λ h=>yu h λ h=>yu h λ h=>zn<|zk<|zs<|zr<|yv h λ h=>yv h λ h=>?_
     refine zn<|zk<|yC h (λ h=>zr<|zm<|yv h λ h=>zn<|h.elim) λ h=>Zi<|zk ?_
     exact zt hkK1 h
   refine Zi<|zk ?_
   exact zt hkK1 h
 exact ZS<|Z2 rfl h
def MV b c (a:WPr) R w:=
 qN Pg a (Y6 b) λ d=>
 J0 201 d 3 a λ e=>
 I0 3 e a λ f=>
 qN Pg a (Y6 b) λ g=>
 J0 201 g 4 a λ h=>
 I0 3 h a λ i=>
 qV Pg a (build 131 #[(0,f),(1,i),(2,c)]) λ j=>
 qV Pg a (makeInterface 131 j) λ k=>
 opV Pg (Instr.panic k) (Zj R) w λ _ w=>
 False
def n96 a b c R w:=
 N0 b R w λ d w=>
 Zo d (
 Yg w λ e w=>
 MV a c e R w) (
 R (.returned (.tuple #[])) w)
def Zl7:QqQ3 135 n96:=λ h=>by
 refine yD func135 ?_
 refine zs<|zr<|zm<|yv h λ h=>zn<|zk<|yC h (λ h=>?_) λ h=>?_
 · refine yh [8,9,10,11,12,13,14,15,16,17,18] h λ C hC h=>yw 0 hC ?_
   refine yn 1 hC h λ h=>?_
   refine ye 2 hC h λ h=>?_
   refine ye 3 hC h λ h=>?_
   refine yw 4 hC ?_
   refine yn 5 hC h λ h=>?_
   refine ye 6 hC h λ h=>?_
   refine ye 7 hC h λ h=>?_
   refine yw 8 hC ?_
   refine ye 9 hC h λ h=>?_
   refine ye 10 hC h λ h=>?_
   refine yo 11 ?_
   exact yv h λ h=>zn<|h.elim
 exact Zi<|ZS<|Z2 rfl h
def qC a b (Zx:KV) R w:=
 B0 .lss 3 true b (QqJ 0) R w λ c w=>
 Zo c (
 R (.returned (QqJ 8)) w) (
 B0 .add 3 true a (QqJ 1) R w λ d w=>
 Zx d w)
def qD a b c d (Zx:KV) R w:=
 L0 27 b R w λ e w=>
 F0 213 d 2 R w λ f w=>
 L0 9 f R w λ g w=>
 C0 115 #[e,g,a] R w λ h w=>
 qC c h Zx R w
def qE d e f g b h i (Zx:KV) (R:RT) w:=
 Zm (λ (a:Vl) (w:Wd)=>
 Zw b (.bool true) a λ j=>
 Zo j (
 R (.returned (QqJ 7)) w) (
 qD d e f g Zx R w)) λ c=>
 Zl b false (
 Zw h i (.bool false) λ a=>
 c a w) (
 c undef w)
def qF b c d (a:WPr) (e:KV) (R:RT) w:=
 J0 213 d 0 a λ f=>
 I0 3 f a λ g=>
 J0 123 b 11 a λ h=>
 I0 121 h a λ i=>
 qV Pg a (ZP .sub 3 true c (QqJ 1)) λ j=>
 M0 121 i j a λ k=>
 J0 213 k 1 a λ l=>
 I0 3 l a λ m=>
 qV Pg a (ZP .leq 3 false g m) λ n=>
 e n w
def qG h i j a b k l (c:WPr) (Zx:KV) R w:=
 Zw k (.bool true) l λ d=>
 Zm (λ (e:Vl) (w:Wd)=>
 Zm (λ (m:Vl) (w:Wd)=>
 qE h i a b d e m Zx R w) λ f=>
 Zl e true (
 qF j a b c f R w) (
 f undef w)) λ g=>
 Zl d false (
 qV Pg c (ZP .gtr 3 true a (QqJ 0)) λ n=>
 g n w) (
 g undef w)
def qH f g h i j c k l (a:WPr) (Zx:KV) R w:=
 Zw k (.bool true) l λ d=>
 Zm (λ (b:Vl) (w:Wd)=>
 qG f h i j c d b a Zx R w) λ e=>
 Zl d false (
 J0 213 c 1 a λ m=>
 I0 3 m a λ n=>
 qV Pg a (ZP .gtr 3 false n g) λ b=>
 e b w) (
 e undef w)
def yy f g h i j k b (a:WPr) (Zx:KV) R w:=
 J0 213 b 0 a λ l=>
 I0 3 l a λ m=>
 qV Pg a (ZP .lss 3 false m g) λ d=>
 Zm (λ (c:Vl) (w:Wd)=>
 qH f h i j k b d c a Zx R w) λ e=>
 Zl d false (
 J0 213 b 0 a λ n=>
 I0 3 n a λ o=>
 J0 213 b 1 a λ p=>
 I0 3 p a λ q=>
 qV Pg a (ZP .gtr 3 false o q) λ c=>
 e c w) (
 e undef w)
def yA d e f g a b (Zx:KV) R w:=
 F0 123 a 11 R w λ h w=>
 L0 121 h R w λ i w=>
 X0 121 i b R w λ j w=>
 L0 213 j R w λ k w=>
 opV Pg (alloc 213 true (.tuple #[])) (Zj R) w λ c w=>
 S0 213 c k R w λ w=>
 Yg w λ l w=>
 yy d e f g a b c l Zx R w
def yH c d e f a b (Zx:KV) R w:=
 F0 123 a 11 R w λ g w=>
 L0 121 g R w λ h w=>
 G0 121 3 h R w λ i w=>
 B0 .lss 3 false b i R w λ j w=>
 Zo j (
 yA c d e f a b Zx R w) (
 R (.returned (QqJ 0)) w)
def n64 e f g h i R w:=
 opV Pg (box 27 e) (Zj R) w λ j w=>
 opV Pg (box 123 g) (Zj R) w λ a w=>
 F0 123 a 11 R w λ k w=>
 L0 121 k R w λ l w=>
 G0 121 3 l R w λ m w=>
 B0 .lss 3 true m (QqJ 1) R w λ c w=>
 Zm (λ (b:Vl) (w:Wd)=>
 Zw c (.bool true) b λ n=>
 Zo n (
 R (.returned (QqJ 3)) w) (
 Yz (λ o w Zx=>
 yH f h i j a o Zx R w) (QqJ 0) w)) λ d=>
 Zl c false (
 F0 123 a 11 R w λ p w=>
 L0 121 p R w λ q w=>
 G0 121 3 q R w λ r w=>
 B0 .gtr 3 true r (QqJ 40) R w λ b w=>
 d b w) (
 d undef w)
def ZlC:QqQ5 176 n64:=λ h=>by
 refine yD func176 ?_
 refine zs<|zr<|yv h λ h=>yv h λ h=>zm<|zn<|zk<|zs<|zs<|Zr<|yG 5<|yv h λ h=>yv h λ h=>yx h λ h=>yb h λ h=>?_
 refine zm<|zn<|yg1 4 4 false [18,19,20,21] 21 h (λ _ T hT h=>?_) λ σ w h=>?_
 · refine yv h λ h=>yv h λ h=>yx h λ h=>yb h λ h=>zn ?_
   exact zt hT h
 refine yG 1<|yp h λ h=>zn<|ZG<|zk<|yC h (λ h=>zs<|zr<|zm<|zn<|zk<|Zh<|Zb<|Zf rfl rfl h) λ h=>Zi<|zk<|zs<|zs<|zr<|zm<|zn<|zk ?_
 refine Zk<|yl1 [10,11,12,23,24,25,26,27,28,29,30,31,32,33,34,35,36,37,38,39,40,41,42,43,44,45,46,47,48,49,50,51,52,53,54,55,56,57,58,59,60,61,62,63,64,65,66,67,68,69,70,71,72,73] 11 h λ σ w next h=>zs<|zs<|zr<|zm<|yv h λ h=>yv h λ h=>yx h λ h=>yb h λ h=>zn<|zk<|yC h (λ h=>?_) λ h=>?_
 · refine Zi<|zk<|zs<|Zk<|zs<|zr<|yv h λ h=>yv h λ h=>zm<|yv h λ h=>yv h λ h=>yv h λ h=>yu h λ h=>zn<|zk ?_
   refine zs<|zs<|yh [35,36,37,38,39,40,41,42,43,44,45,46,47,48,49,50,51,52,53,54,55,56,57,58,59,60,61,62,63,64,65,66,67] h λ C hC h=>ye 0 hC h λ h=>?_
   refine ye 1 hC h λ h=>?_
   refine yw 2 hC ?_
   refine ye 3 hC h λ h=>?_
   refine yw 4 hC ?_
   refine yj1 23 [9,8,7,6,5,4,3,2,1,0] [40,41,42,43,44] 44 h (λ _ hT hb h=>?_) (λ _ hT hb h=>?_) λ σ w hC h=>?_
   · refine ye 5 hC h λ h=>?_
     refine ye 6 hC h λ h=>?_
     refine ye 7 hC h λ h=>?_
     refine ye 8 hC h λ h=>?_
     refine ye 9 hC h λ h=>?_
     exact yt hT hC h
   · refine yi 5 hC ?_
     refine yi 6 hC ?_
     refine yi 7 hC ?_
     refine yi 8 hC ?_
     refine yi 9 hC ?_
     exact yt hT hC h
   refine yP 10 hC h λ _ h=>?_
   refine yw 11 hC ?_
   refine yj1 17 [15,14,13,12,11,10,9,8,7,6,5,4,3,2,1,0] [47,48,49,50] 50 h (λ _ hT hb h=>?_) (λ _ hT hb h=>?_) λ σ w hC h=>?_
   · refine ye 12 hC h λ h=>?_
     refine ye 13 hC h λ h=>?_
     refine yw 14 hC ?_
     refine ye 15 hC h λ h=>?_
     exact yt hT hC h
   · refine yi 12 hC ?_
     refine yi 13 hC ?_
     refine yi 14 hC ?_
     refine yi 15 hC ?_
     exact yt hT hC h
   refine yP 16 hC h λ _ h=>?_
   refine yw 17 hC ?_
   refine yj1 12 [20,19,18,17,16,15,14,13,12,11,10,9,8,7,6,5,4,3,2,1,0] [53,54,55] 55 h (λ _ hT hb h=>?_) (λ _ hT hb h=>?_) λ σ w hC h=>?_
   · refine yw 18 hC ?_
     refine ye 19 hC h λ h=>?_
     refine yw 20 hC ?_
     exact yt hT hC h
   · refine yi 18 hC ?_
     refine yi 19 hC ?_
     refine yi 20 hC ?_
     exact yt hT hC h
   refine yj1 2 [30,29,28,27,26,25,24,23,22,21,20,19,18,17,16,15,14,13,12,11,10,9,8,7,6,5,4,3,2,1,0] [56,57,58,59,60,61,62,63,64,65] 65 h (λ _ hT hb h=>?_) (λ _ hT hb h=>?_) λ σ w hC h=>?_
   · refine ye 21 hC h λ h=>?_
     refine ye 22 hC h λ h=>?_
     refine ye 23 hC h λ h=>?_
     refine ye 24 hC h λ h=>?_
     refine yw 25 hC ?_
     refine ye 26 hC h λ h=>?_
     refine ye 27 hC h λ h=>?_
     refine ye 28 hC h λ h=>?_
     refine ye 29 hC h λ h=>?_
     refine ye 30 hC h λ h=>?_
     exact yt hT hC h
   · refine yi 21 hC ?_
     refine yi 22 hC ?_
     refine yi 23 hC ?_
     refine yi 24 hC ?_
     refine yi 25 hC ?_
     refine yi 26 hC ?_
     refine yi 27 hC ?_
     refine yi 28 hC ?_
     refine yi 29 hC ?_
     refine yi 30 hC ?_
     exact yt hT hC h
   refine yj1 1 [31,30,29,28,27,26,25,24,23,22,21,20,19,18,17,16,15,14,13,12,11,10,9,8,7,6,5,4,3,2,1,0] [66] 66 h (λ _ hT hb h=>?_) (λ _ hT hb h=>?_) λ σ w hC h=>?_
   · refine yP 31 hC h λ _ h=>?_
     exact yt hT hC h
   · refine yi 31 hC ?_
     exact yt hT hC h
   refine yP 32 hC h λ _ h=>?_
   refine yz<|zk<|yC h (λ h=>zs<|zr<|zm<|zn<|zk<|Zh<|Zb<|Zd<|Zb<|Zb<|Zd<|Zb<|Zf rfl rfl h) λ h=>Zi<|zk<|zs<|zr<|yv h λ h=>yv h λ h=>yv h λ h=>zm<|yc h Fv λ h=>yb h λ h=>zn ?_
   exact zk<|yC h (λ h=>zs<|zr<|zm<|zn<|zk<|Zh<|Zd<|Zb<|Zb<|Zd<|Zb<|Zf rfl rfl h) λ h=>Zi<|Zg<|zk<|zr<|zm<|yb h λ h=>zm<|zn<|zk<|⟨rfl,h⟩
 exact ZD<|Zc<|Zc<|Zp<|zk<|zs<|zr<|zm<|zn<|zk<|Zh<|Zf rfl rfl h
def ZcO a b c (d:KV) R w:=
 F0 27 a 1 R w λ e w=>
 L0 25 e R w λ f w=>
 X0 25 f b R w λ g w=>
 F0 74 g 1 R w λ h w=>
 L0 72 h R w λ i w=>
 X0 72 i c R w λ j w=>
 F0 123 j 4 R w λ k w=>
 L0 4 k R w λ l w=>
 N0 l R w λ m w=>
 d m w
def ZcP f g h c d i (a:WPr) (Qx:KW) R w:=
 Zm (λ (b:Vl) (w:Wd)=>
 Zw c b (.bool false) λ j=>
 B0 .add 3 true d (QqJ 1) R w λ k w=>
 Qx j k w) λ e=>
 Zl c true (
 I0 27 f a λ l=>
 M0 94 i d a λ m=>
 I0 9 m a λ n=>
 C0 115 #[l,n,h] R w λ o w=>
 a w∧(
 M0 170 g o a λ p=>
 I0 4 p a λ b=>
 e b w)) (
 e undef w)
def ZcQ a b c (Zu:KW) R w:=
 opV Pg (buildSlice 170 1 #[(0,c)]) (Zj R) w λ d w=>
 opV Pg (Builtin.append_ #[170,170] 170 #[a,d]) (Zj R) w λ e w=>
 B0 .add 3 true b (QqJ 1) R w λ f w=>
 Zu e f w
def ZcR f a b c d e (Zu Qx:KW) R w:=
 G0 94 3 e R w λ g w=>
 B0 .lss 3 false d g R w λ h w=>
 Zo h (
 Yg w λ i w=>
 ZcP f a b c d e i Qx R w) (
 ZcQ a b c Zu R w)
def ZcS b d c a (Zu:KW) R w:=
 F0 27 b 1 R w λ e w=>
 L0 25 e R w λ f w=>
 X0 25 f c R w λ g w=>
 L0 74 g R w λ h w=>
 C0 117 #[h] R w λ i w=>
 Qq (λ a j w Qx=>
 ZcR b d c a j i Zu Qx R w) a (QqJ 0) w
def ZcT d e a b (Zx:KW) R w:=
 Zm (λ (f:Vl) (w:Wd)=>
 Zw a f (.bool false) λ g=>
 B0 .add 3 true b (QqJ 1) R w λ h w=>
 Zx g h w) λ c=>
 Zl a true (
 ZcO d e b c R w) (
 c undef w)
def ZcU a e b c d (Zu Zx:KW) R w:=
 F0 27 a 1 R w λ f w=>
 L0 25 f R w λ g w=>
 X0 25 g b R w λ h w=>
 F0 74 h 1 R w λ i w=>
 L0 72 i R w λ j w=>
 G0 72 3 j R w λ k w=>
 B0 .lss 3 false d k R w λ l w=>
 Zo l (
 ZcT a b c d Zx R w) (
 ZcS a e b c Zu R w)
def ZcV c d a b (Zu:KW) R w:=
 B0 .lss 3 false b c R w λ e w=>
 Zo e (
 Qq (λ f g w Zx=>
 ZcU d a b f g Zu Zx R w) (.bool true) (QqJ 0) w) (
 R (.returned a) w)
def n62 a b R w:=
 opV Pg (box 27 a) (Zj R) w λ c w=>
 Qq (λ d e w Zu=>
 ZcV b c d e Zu R w) (Value.slice none 0 0) (QqJ 0) w
def ZlA:QqQ2 177 n62:=λ h=>by
 refine yD func177 ?_
 refine zs<|zr<|yv h λ h=>zm<|zn<|zk<|zs<|zr<|zm<|zn<|zk<|zs<|zs<|zr<|zm ?_
 refine zn<|zk<|Zk<|yl2 [5,6,7,8,9,10,11,12,13,14,15,16,17,18,19,20,21,22,23,24,25,26,27,28,29,30,31,32,33,34,35,36,37,38,39,40,41,42,43,44,45,46,47,48,49,50,51,52,53,54,55,56,57,58,59,60,61,62,63,64,65,66,67,68,69] 5 6 h λ σ w next h=>zs<|zs<|zr<|zm<|zm<|yb h λ h=>zn<|zk<|yC h (λ h=>?_) λ h=>?_
 · refine Zi<|zk<|zs<|Zk<|zs<|zr<|zm<|zn<|zk<|zs<|zs<|zr<|zm<|zn<|zk ?_
   refine Zk<|yl2 [7,8,16,17,18,19,20,21,22,23,24,25,26,27,28,29,30,31,32,33,34,35,36,37,38,39,40] 7 8 h λ σ w next h=>zs<|zs<|zr<|zm<|yv h λ h=>yv h λ h=>zm<|yv h λ h=>yv h λ h=>yv h λ h=>yx h λ h=>yb h λ h=>zn ?_
   refine zk<|yC h (λ h=>?_) λ h=>?_
   · refine Zi<|zk<|zs<|Zk<|Zr<|yG 2<|zm<|zm<|zn<|yg1 11 1 true [29,30,31,32,33,34,35,36,37,38,39] 39 h (λ _ T hT h=>?_) λ σ w h=>?_
     · refine yv h λ h=>yv h λ h=>zm<|yv h λ h=>yv h λ h=>yv h λ h=>zm<|yv h λ h=>yv h λ h=>yv h λ h=>yv h λ h=>zn ?_
       exact zt hT h
     exact yG 2<|yp h λ h=>zm<|zn<|ZG<|Zg<|zk<|zr<|zm<|yb h λ h=>zm<|zn<|zk<|⟨rfl,h⟩
   refine ZD<|Zc<|Zc<|Zp<|zk<|zs<|zr<|yv h λ h=>yv h λ h=>zm<|yv h λ h=>yv h λ h=>yc h Zfi λ h=>zm<|zn ?_
   refine zk<|zs<|zs<|zr<|zm<|zn<|zk<|Zk<|yl2 [7,10,47,48,49,50,51,52,53,54,55,56,57,58,59,60,61,62,63,64,65] 7 10 h λ σ w next h=>zs<|zs<|zr<|zm<|zm<|yx h λ h=>?_
   refine yb h λ h=>zn<|zk<|yC h (λ h=>?_) λ h=>?_
   · refine Zi<|zk<|zs<|Zk<|yh [7,53,54,55,56,57,58,59,60,61,62,63,64,65] h λ C hC h=>yw 0 hC ?_
     refine yw 1 hC ?_
     refine yj1 2 [11,10,9,8,7,6,5,4,3,2,1,0] [55,56,57,58,59,60,61,62,63,64] 64 h (λ _ hT hb h=>?_) (λ _ hT hb h=>?_) λ σ w hC h=>?_
     · refine yw 2 hC ?_
       refine ye 3 hC h λ h=>?_
       refine yw 4 hC ?_
       refine yw 5 hC ?_
       refine ye 6 hC h λ h=>?_
       refine ye 7 hC h λ h=>?_
       refine yw 8 hC ?_
       refine yo 9 ?_
       refine yc h Fv λ h=>zn ?_
       obtain ⟨hC,h⟩:=h
       refine ⟨hC,?_⟩
       refine ye 10 hC h λ h=>?_
       refine ye 11 hC h λ h=>?_
       exact yt hT hC h
     · refine yi 2 hC ?_
       refine yi 3 hC ?_
       refine yi 4 hC ?_
       refine yi 5 hC ?_
       refine yi 6 hC ?_
       refine yi 7 hC ?_
       refine yi 8 hC ?_
       refine yi 9 hC ?_
       refine yi 10 hC ?_
       refine yi 11 hC ?_
       exact yt hT hC h
     refine yP 12 hC h λ _ h=>?_
     refine yw 13 hC ?_
     exact yz<|Zg<|zk<|zr<|zm<|yb h λ h=>zm<|zn<|zk<|⟨rfl,h⟩
   refine ZD<|Zc<|Zc<|Zp<|zk<|zr<|zm<|zm<|yS h λ h=>yx h λ h=>zm<|zn<|Zg<|zk<|zr ?_
   exact zm<|yb h λ h=>zm<|zn<|zk<|⟨rfl,h⟩
 exact ZD<|Zc<|Zc<|Zp<|zk<|zs<|zr<|zm<|zm<|zn<|zk<|Zh<|Zf rfl rfl h
def Zdz b (a:WPr) (R:RT) w:=
 qN Pg a (Y6 b) λ c=>
 J0 201 c 5 a λ d=>
 J0 74 d 1 a λ e=>
 I0 72 e a λ f=>
 qN Pg a (Y6 b) λ g=>
 J0 201 g 4 a λ h=>
 I0 3 h a λ i=>
 qV Pg a (sliceAt 72 f none (some i) none) λ j=>
 R (.returned j) w
def n91 a R w:=
 Yg w λ b w=>
 Zdz a b R w
def Zl2:QqQ1 195 n91:=λ h=>by
 refine yD func195 ?_
 refine zs<|zr<|zm<|zn<|zk<|zs<|yh [2,3,4,5,6,7,8,9,10,11,12] h λ C hC h=>yw 0 hC ?_
 refine yn 1 hC h λ h=>?_
 refine ye 2 hC h λ h=>?_
 refine ye 3 hC h λ h=>?_
 refine ye 4 hC h λ h=>?_
 refine yw 5 hC ?_
 refine yn 6 hC h λ h=>?_
 refine ye 7 hC h λ h=>?_
 refine ye 8 hC h λ h=>?_
 refine ye 9 hC h λ h=>?_
 refine yw 10 hC ?_
 exact yz<|zk<|Zh<|Zf rfl rfl h
def ZfZ R w:=
 opV Pg (Instr.makeMap 257 none) (Zj R) w λ a w=>
 opV Pg (build 255 #[(0,(.func (.func 212) #[] #[])),(1,(.func (.func 213) #[] #[]))]) (Zj R) w λ b w=>
 opU Pg (mapUpdate 257 a (QqJ 1) b) (Zj R) w λ w=>
 opV Pg (build 255 #[(0,(.func (.func 216) #[] #[])),(1,(.func (.func 217) #[] #[]))]) (Zj R) w λ c w=>
 opU Pg (mapUpdate 257 a (QqJ 2) c) (Zj R) w λ w=>
 opV Pg (build 255 #[(0,(.func (.func 218) #[] #[])),(1,(.func (.func 219) #[] #[]))]) (Zj R) w λ d w=>
 opU Pg (mapUpdate 257 a (QqJ 3) d) (Zj R) w λ w=>
 opV Pg (build 255 #[(0,(.func (.func 220) #[] #[])),(1,(.func (.func 221) #[] #[]))]) (Zj R) w λ e w=>
 opU Pg (mapUpdate 257 a (QqJ 4) e) (Zj R) w λ w=>
 opV Pg (build 255 #[(0,(.func (.func 222) #[] #[])),(1,(.func (.func 223) #[] #[]))]) (Zj R) w λ f w=>
 opU Pg (mapUpdate 257 a (QqJ 5) f) (Zj R) w λ w=>
 opV Pg (build 255 #[(0,(.func (.func 224) #[] #[])),(1,(.func (.func 225) #[] #[]))]) (Zj R) w λ g w=>
 opU Pg (mapUpdate 257 a (QqJ 6) g) (Zj R) w λ w=>
 opV Pg (build 255 #[(0,(.func (.func 226) #[] #[])),(1,(.func (.func 227) #[] #[]))]) (Zj R) w λ h w=>
 opU Pg (mapUpdate 257 a (QqJ 7) h) (Zj R) w λ w=>
 opV Pg (build 255 #[(0,(.func (.func 229) #[] #[])),(1,(.func (.func 230) #[] #[]))]) (Zj R) w λ i w=>
 opU Pg (mapUpdate 257 a (QqJ 8) i) (Zj R) w λ w=>
 opV Pg (build 255 #[(0,(.func (.func 231) #[] #[])),(1,(.func (.func 232) #[] #[]))]) (Zj R) w λ j w=>
 opU Pg (mapUpdate 257 a (QqJ 9) j) (Zj R) w λ w=>
 opV Pg (build 255 #[(0,(.func (.func 233) #[] #[])),(1,(.func (.func 234) #[] #[]))]) (Zj R) w λ k w=>
 opU Pg (mapUpdate 257 a (QqJ 10) k) (Zj R) w λ w=>
 opV Pg (build 255 #[(0,(.func (.func 235) #[] #[])),(1,(.func (.func 236) #[] #[]))]) (Zj R) w λ l w=>
 opU Pg (mapUpdate 257 a (QqJ 11) l) (Zj R) w λ w=>
 opV Pg (build 255 #[(0,(.func (.func 237) #[] #[])),(1,(.func (.func 238) #[] #[]))]) (Zj R) w λ m w=>
 opU Pg (mapUpdate 257 a (QqJ 12) m) (Zj R) w λ w=>
 R (.returned a) w
def Zf0:QqQ0 196 ZfZ:=λ h=>by
 refine yD func196 ?_
 refine zs<|zr<|zm<|zn<|zk<|zs<|zr<|yv h λ h=>yB h λ h=>yu h λ h=>yB h λ h=>yu h λ h=>yB h λ h=>yu h λ h=>yB h λ h=>?_
 refine yu h λ h=>yB h λ h=>yu h λ h=>yB h λ h=>yu h λ h=>yB h λ h=>yu h λ h=>yB h λ h=>yu h λ h=>yB h λ h=>yu h λ h=>yB h λ h=>yu h λ h=>yB h λ h=>yu h λ h=>?_
 exact yB h λ h=>yu h λ h=>zm<|zm<|zn<|zk<|Zh<|Zf rfl rfl h
def Jw e f g h (a:WPr) (R:RT) w:=
 Zw g h (.bool false) λ c=>
 Zm (λ (b:Vl) (w:Wd)=>
 Zw c b (.bool false) λ i=>
 R (.returned i) w) λ d=>
 Zl c true (
 J0 123 e 11 a λ j=>
 I0 121 j a λ k=>
 J0 123 f 11 a λ l=>
 I0 121 l a λ m=>
 C0 241 #[k,m] R w λ b w=>
 a w∧(
 d b w)) (
 d undef w)
def Jy c d g h (a:WPr) R w:=
 qV Pg a (ZP .eql 287 false g h) λ e=>
 Zm (λ (b:Vl) (w:Wd)=>
 Jw c d e b a R w) λ f=>
 Zl e true (
 J0 123 c 7 a λ i=>
 J0 120 i 1 a λ j=>
 I0 118 j a λ k=>
 J0 123 d 7 a λ l=>
 J0 120 l 1 a λ m=>
 I0 118 m a λ n=>
 C0 240 #[k,n] R w λ b w=>
 a w∧(
 f b w)) (
 f undef w)
def Jz b c (a:WPr) (R:RT) w:=
 I0 123 b a λ d=>
 I0 123 c a λ e=>
 C0 239 #[d] R w λ f w=>
 a w∧(
 C0 239 #[e] R w λ g w=>
 a w∧(
 Jy b c f g a R w))
def ZgN a b R w:=
 opV Pg (box 123 a) (Zj R) w λ c w=>
 opV Pg (box 123 b) (Zj R) w λ d w=>
 Yg w λ e w=>
 Jz c d e R w
def ZgO:QqQ2 197 ZgN:=λ h=>by
 refine yD func197 ?_
 refine zs<|zr<|yv h λ h=>yv h λ h=>zm<|zn<|zk<|zs<|yh [4,5,6,7,8,9,10,11,12,13,14,15,16,17,18,19,20,21,22,23,24,25] h λ C hC h=>ye 0 hC h λ h=>?_
 refine ye 2 hC h λ h=>?_
 refine yo 1 ?_
 refine yc h Zfu λ h=>zn ?_
 obtain ⟨hC,h⟩:=h
 refine ⟨hC,?_⟩
 refine yo 3 ?_
 refine yc h Zfu λ h=>zn ?_
 obtain ⟨hC,h⟩:=h
 refine ⟨hC,?_⟩
 refine ye 4 hC h λ h=>?_
 refine yw 5 hC ?_
 refine yj1 9 [12,11,10,9,8,7,6,5,4,3,1,2,0] [11,12,13,14,15,16,17] 17 h (λ _ hT hb h=>?_) (λ _ hT hb h=>?_) λ σ w hC h=>?_
 · refine ye 6 hC h λ h=>?_
   refine ye 7 hC h λ h=>?_
   refine ye 8 hC h λ h=>?_
   refine ye 9 hC h λ h=>?_
   refine ye 10 hC h λ h=>?_
   refine ye 11 hC h λ h=>?_
   refine yo 12 ?_
   refine yc h Zkt λ h=>zn ?_
   obtain ⟨hC,h⟩:=h
   refine ⟨hC,?_⟩
   exact yt hT hC h
 · refine yi 6 hC ?_
   refine yi 7 hC ?_
   refine yi 8 hC ?_
   refine yi 9 hC ?_
   refine yi 10 hC ?_
   refine yi 11 hC ?_
   refine yi 12 hC ?_
   exact yt hT hC h
 refine yP 13 hC h λ _ h=>?_
 refine yw 14 hC ?_
 refine yj1 2 [19,18,17,16,15,14,13,12,11,10,9,8,7,6,5,4,3,1,2,0] [20,21,22,23,24] 24 h (λ _ hT hb h=>?_) (λ _ hT hb h=>?_) λ σ w hC h=>?_
 · refine ye 15 hC h λ h=>?_
   refine ye 16 hC h λ h=>?_
   refine ye 17 hC h λ h=>?_
   refine ye 18 hC h λ h=>?_
   refine yo 19 ?_
   refine yc h Zku λ h=>zn ?_
   obtain ⟨hC,h⟩:=h
   refine ⟨hC,?_⟩
   exact yt hT hC h
 · refine yi 15 hC ?_
   refine yi 16 hC ?_
   refine yi 17 hC ?_
   refine yi 18 hC ?_
   refine yi 19 hC ?_
   exact yt hT hC h
 refine yP 20 hC h λ _ h=>?_
 refine yw 21 hC ?_
 exact yz<|zk<|Zh<|Zf rfl rfl h
def Hc e f g h i (a:WPr) (j:KV) (R:RT) w:=
 Zw h (.bool true) i λ c=>
 Zm (λ (b:Vl) (w:Wd)=>
 Zw c (.bool true) b λ k=>
 Zo k (
 R (.returned (.tuple #[(QqJ 0),(QqJ 0),(QqJ 2)])) w) (
 j f w)) λ d=>
 Zl c false (
 M0 264 e g a λ l=>
 J0 266 l 2 a λ m=>
 I0 3 m a λ n=>
 qV Pg a (ZP .geq 3 true n (QqJ 34359738368)) λ b=>
 d b w) (
 d undef w)
def ZcA b g c (a:WPr) (h:KV) R w:=
 M0 264 b c a λ i=>
 J0 266 i 1 a λ j=>
 I0 3 j a λ k=>
 qV Pg a (ZP .lss 3 true k (QqJ 0)) λ e=>
 Zm (λ (d:Vl) (w:Wd)=>
 Hc b g c e d a h R w) λ f=>
 Zl e false (
 M0 264 b c a λ l=>
 J0 266 l 1 a λ m=>
 I0 3 m a λ n=>
 M0 264 b c a λ o=>
 J0 266 o 2 a λ p=>
 I0 3 p a λ q=>
 qV Pg a (ZP .gtr 3 false n q) λ d=>
 f d w) (
 f undef w)
def R9 b c a d (Xf:KW) R w:=
 F0 120 b 1 R w λ e w=>
 L0 118 e R w λ f w=>
 X0 118 f a R w λ g w=>
 F0 128 g 1 R w λ h w=>
 L0 3 h R w λ i w=>
 B0 .mul 3 false i d R w λ j w=>
 B0 .add 3 false c j R w λ k w=>
 B0 .add 3 true a (QqJ 1) R w λ l w=>
 Xf k l w
def ZcB d e f g b h (Xf:KW) R w:=
 X0 264 d h R w λ i w=>
 L0 266 i R w λ j w=>
 opV Pg (alloc 266 true (.tuple #[])) (Zj R) w λ a w=>
 S0 266 a j R w λ w=>
 F0 266 a 1 R w λ k w=>
 L0 3 k R w λ l w=>
 B0 .shr 3 false f b R w λ m w=>
 B0 .rem 3 true m (QqJ 2) R w λ n w=>
 B0 .eql 3 true n (QqJ 1) R w λ o w=>
 Zm (λ (p:Vl) (w:Wd)=>
 R9 e g b p Xf R w) λ c=>
 Zo o (
 F0 266 a 2 R w λ q w=>
 L0 3 q R w λ r w=>
 c r w) (
 c l w)
def CQ c a d e f g (Wf:Vl→Vl→Vl→Wd→Prop) R w:=
 Zw f (.bool true) g λ h=>
 Zm (λ (a:Vl) (w:Wd)=>
 B0 .add 3 true d (QqJ 1) R w λ i w=>
 Wf c a i w) λ b=>
 Zo h (
 b e w) (
 b a w)
def My g b c d (Wf:Vl→Vl→Vl→Wd→Prop) R w:=
 B0 .eql 3 true c (QqJ 0) R w λ e w=>
 Zm (λ (a:Vl) (w:Wd)=>
 CQ g b c d e a Wf R w) λ f=>
 Zl e false (
 B0 .gtr 3 false d b R w λ a w=>
 f a w) (
 f undef w)
def Sa a h d b (Wf:Vl→Vl→Vl→Wd→Prop) R w:=
 B0 .eql 3 true d (QqJ 0) R w λ e w=>
 Zm (λ (c:Vl) (w:Wd)=>
 Zw e (.bool true) c λ i=>
 Zm (λ (a:Vl) (w:Wd)=>
 My a h d b Wf R w) λ f=>
 Zo i (
 f b w) (
 f a w)) λ g=>
 Zl e false (
 B0 .lss 3 false b a R w λ c w=>
 g c w) (
 g undef w)
def ZcC a b d e c (Xf:KW) R w:=
 F0 120 b 1 R w λ f w=>
 L0 118 f R w λ g w=>
 X0 118 g c R w λ h w=>
 F0 128 h 0 R w λ i w=>
 L0 9 i R w λ j w=>
 C0 243 #[a,j] R w λ k w=>
 ZcB a b d e c k Xf R w
def Sb e a f g b c d (Wf:Vl→Vl→Vl→Wd→Prop) (Xf:KW) R w:=
 F0 120 a 1 R w λ h w=>
 L0 118 h R w λ i w=>
 G0 118 3 i R w λ j w=>
 B0 .lss 3 false d j R w λ k w=>
 Zo k (
 ZcC e a b c d Xf R w) (
 Sa f g b c Wf R w)
def R4 b a c d e (Wf:Vl→Vl→Vl→Wd→Prop) R w:=
 F0 120 a 0 R w λ f w=>
 L0 3 f R w λ g w=>
 Qq (λ h i w Xf=>
 Sb b a c d e h i Wf Xf R w) g (QqJ 0) w
def R5 e a b c d (Wf:Vl→Vl→Vl→Wd→Prop) R w:=
 F0 120 a 1 R w λ f w=>
 L0 118 f R w λ g w=>
 G0 118 3 g R w λ h w=>
 B0 .shl 3 true (QqJ 1) h R w λ i w=>
 B0 .lss 3 false d i R w λ j w=>
 Zo j (
 R4 e a b c d Wf R w) (
 R (.returned (.tuple #[b,c,(QqJ 0)])) w)
def R6 a b c (R:RT) w:=
 Zo c (
 R (.returned (.tuple #[(QqJ 0),(QqJ 0),(QqJ 9)])) w) (
 GF (λ d e f w Wf=>
 R5 a b d e f Wf R w) (QqJ 0) (QqJ 0) (QqJ 0) w)
def R7 b f a c (Zu:KW) R w:=
 Zm (λ (a:Vl) (w:Wd)=>
 B0 .add 3 true c (QqJ 1) R w λ g w=>
 Zu a g w) λ d=>
 F0 120 f 1 R w λ h w=>
 L0 118 h R w λ i w=>
 X0 118 i c R w λ j w=>
 F0 128 j 0 R w λ k w=>
 L0 9 k R w λ l w=>
 C0 243 #[b,l] R w λ e w=>
 B0 .lss 3 true e (QqJ 0) R w λ m w=>
 Zo m (
 d (.bool true) w) (
 Yg w λ n w=>
 ZcA b a e n d R w)
def IW b a c d (Zu:KW) R w:=
 F0 120 a 1 R w λ e w=>
 L0 118 e R w λ f w=>
 G0 118 3 f R w λ g w=>
 B0 .lss 3 false d g R w λ h w=>
 Zo h (
 R7 b a c d Zu R w) (
 R6 b a c R w)
def R8 a b c R w:=
 N0 c R w λ d w=>
 Zo d (
 R (.returned (.tuple #[(QqJ 0),(QqJ 0),(QqJ 2)])) w) (
 Qq (λ e f w Zu=>
 IW a b e f Zu R w) (.bool false) (QqJ 0) w)
def n50 b c R w:=
 opV Pg (box 120 b) (Zj R) w λ a w=>
 L0 120 a R w λ d w=>
 C0 201 #[d] R w λ e w=>
 R8 c a e R w
def Zlo:QqQ2 202 n50:=λ h=>by
 refine yD func202 ?_
 refine zs<|zr<|yv h λ h=>zm<|zm<|zm<|zn<|zk<|zs<|zs<|zr<|yv h λ h=>yc h Zfs λ h=>yv h λ h=>zn ?_
 refine zk<|yC h (λ h=>zs<|zr<|zm<|zm<|zm<|zn<|zk<|Zh<|Zb<|Gj rfl rfl rfl rfl h) λ h=>Zi<|zk<|zs<|zr<|zm<|zn<|zk<|zs<|zs<|zr<|zm<|zn ?_
 refine zk<|Zk<|yl2 [4,5,6,7,8,9,20,21,22,23,24,25,26,27,28,29,30,31,32,33,34,35,36,37,38,39,40,41,42,43,44,45,46,47,48,49,50,51,52,53,54,55,56,57,58,59,60,61,62,63] 7 8 h λ σ w next h=>zs<|zs<|zr<|zm<|yv h λ h=>yv h λ h=>yx h λ h=>yb h λ h=>zn<|zk<|yC h (λ h=>?_) λ h=>?_
 · refine Zi<|zk<|zs<|yJ1 [4,5,6,7,9,27,28,29,30,31,32,33,34,35,36,37,38,39,40,41,42,43,44,45,46,47,48,49,50,51,52,53,54,55,56,57,58,59,60,61,62,63] 7 h (λ _ _ hkK2 h=>?_) λ σ w h=>?_
   · refine Zk<|zs<|zr<|zm<|yv h λ h=>yv h λ h=>zm<|yv h λ h=>yv h λ h=>yv h λ h=>yc h Zfw λ h=>zm<|zn<|zk<|zs ?_
     refine zs<|zr<|zm<|yb h λ h=>zn<|zk<|yC h (λ h=>?_) λ h=>?_
     · refine zs<|zr<|zm<|zn<|zk<|ZD<|Zc<|Zp<|zk ?_
       exact zt hkK2 h
     refine Zi<|zk<|zs<|yh [37,38,39,40,41,42,43,44,45,46,47,48,49,50,51,52,53,54,55,56,57,58,59,60,61,62,63] h λ C hC h=>yw 0 hC ?_
     refine yw 1 hC ?_
     refine ye 2 hC h λ h=>?_
     refine ye 3 hC h λ h=>?_
     refine ye 4 hC h λ h=>?_
     refine ye 5 hC h λ h=>?_
     refine yw 6 hC ?_
     refine yj1 9 [17,16,15,14,13,12,11,10,9,8,7,6,5,4,3,2,1,0] [44,45,46,47,48,49,50,51,52,53,54] 54 h (λ _ hT hb h=>?_) (λ _ hT hb h=>?_) λ σ w hC h=>?_
     · refine yw 7 hC ?_
       refine yw 8 hC ?_
       refine ye 9 hC h λ h=>?_
       refine ye 10 hC h λ h=>?_
       refine ye 11 hC h λ h=>?_
       refine yw 12 hC ?_
       refine yw 13 hC ?_
       refine ye 14 hC h λ h=>?_
       refine ye 15 hC h λ h=>?_
       refine ye 16 hC h λ h=>?_
       refine ye 17 hC h λ h=>?_
       exact yt hT hC h
     · refine yi 7 hC ?_
       refine yi 8 hC ?_
       refine yi 9 hC ?_
       refine yi 10 hC ?_
       refine yi 11 hC ?_
       refine yi 12 hC ?_
       refine yi 13 hC ?_
       refine yi 14 hC ?_
       refine yi 15 hC ?_
       refine yi 16 hC ?_
       refine yi 17 hC ?_
       exact yt hT hC h
     refine yP 18 hC h λ _ h=>?_
     refine yw 19 hC ?_
     refine yj1 1 [25,24,23,22,21,20,19,18,17,16,15,14,13,12,11,10,9,8,7,6,5,4,3,2,1,0] [57,58,59,60,61,62] 62 h (λ _ hT hb h=>?_) (λ _ hT hb h=>?_) λ σ w hC h=>?_
     · refine yw 20 hC ?_
       refine yw 21 hC ?_
       refine ye 22 hC h λ h=>?_
       refine ye 23 hC h λ h=>?_
       refine ye 24 hC h λ h=>?_
       refine ye 25 hC h λ h=>?_
       exact yt hT hC h
     · refine yi 20 hC ?_
       refine yi 21 hC ?_
       refine yi 22 hC ?_
       refine yi 23 hC ?_
       refine yi 24 hC ?_
       refine yi 25 hC ?_
       exact yt hT hC h
     refine yP 26 hC h λ _ h=>?_
     refine yz<|zk<|yC h (λ h=>zs<|zr<|zm<|zm<|zm<|zn<|zk<|Zh<|Zd<|Zb<|Zb<|Zb<|Zd<|Zb<|Gj rfl rfl rfl rfl h) λ h=>Zi<|Zg<|zk ?_
     exact zt hkK2 h
   exact zk<|zr<|zm<|yb h λ h=>zm<|zn<|zk<|⟨rfl,h⟩
 refine ZD<|Zc<|Zc<|Zp<|zk<|zs<|zs<|zr<|zm<|zn<|zk<|yC h (λ h=>zs<|zr<|zm<|zm<|zm<|zn<|zk<|Zh<|Zb<|Gj rfl rfl rfl rfl h) λ h=>Zi<|zk ?_
 refine zs<|zr<|zm<|zm<|zn<|zk<|zs<|zs<|zr<|zm<|zn<|zk<|Zk<|yl3 [10,11,12,13,14,15,16,65,66,67,68,69,70,71,72,73,74,75,76,77,78,79,80,81,82,83,84,85,86,87,88,89,90,91,92,93,94,95,96,97,98,99,100,101,102,103,104,105,106,107,108,109,110,111,112,113,114,115,116,117,118,119,120,121,122,123,124,125,126,127] 10 11 12 h λ σ w next h=>zs ?_
 refine zs<|zr<|zm<|yv h λ h=>yv h λ h=>yx h λ h=>yb h λ h=>yb h λ h=>zn<|zk<|yC h (λ h=>?_) λ h=>?_
 · refine Zi<|zk<|zs<|Zk<|zs<|zr<|yv h λ h=>yv h λ h=>zm<|zn<|zk<|zs<|zs<|zr<|zm ?_
   refine zn<|zk<|Zk<|yl2 [13,14,15,16,75,76,77,78,79,80,81,82,83,84,85,86,87,88,89,90,91,92,93,94,95,96,97,98,99,100,101,102,103,104,105,106,107,108,109,110,111] 13 14 h λ σ w next h=>zs<|zs<|zr<|zm<|yv h λ h=>yv h λ h=>yx h λ h=>yb h λ h=>zn<|zk<|yC h (λ h=>?_) λ h=>?_
   · refine Zi<|zk<|zs<|Zk<|zs<|zr<|zm<|zm<|yv h λ h=>yv h λ h=>zm<|yv h λ h=>yv h λ h=>yv h λ h=>yc h Zfw λ h=>?_
     refine yv h λ h=>yv h λ h=>yv h λ h=>yu h λ h=>zn<|zk<|zs<|zr<|yv h λ h=>yv h λ h=>zm<|zn<|zk<|zs<|zs ?_
     refine zr<|zm<|zm<|yb h λ h=>yb h λ h=>yb h λ h=>zn<|zk<|yJ1 [16,100,101] 16 h (λ _ _ hkK8 h=>?_) λ σ w h=>?_
     · refine yC h (λ h=>?_) λ h=>?_
       · refine zr<|yv h λ h=>yv h λ h=>zm<|zn<|zk ?_
         exact zt hkK8 h
       refine Zi<|zk ?_
       exact zt hkK8 h
     refine zk<|zr<|zm<|yv h λ h=>yv h λ h=>zm<|yv h λ h=>yv h λ h=>yv h λ h=>zm<|yb h λ h=>yb h λ h=>zm<|zn<|Zg ?_
     exact zk<|zr<|zm<|yb h λ h=>zm<|zn<|zk<|⟨rfl,h⟩
   refine ZD<|Zc<|Zc<|Zp<|zk<|zs<|zs<|Zr<|yG 3<|zm<|yb h λ h=>zm<|zn<|yg1 3 2 false [115,116,117] 117 h (λ _ T hT h=>?_) λ σ w h=>?_
   · refine zm<|zm<|yb h λ h=>zn ?_
     exact zt hT h
   refine yG 1<|yp h λ h=>zn<|ZG<|zk<|yJ1 [10,119] 10 h (λ _ _ hkK10 h=>?_) λ σ w h=>?_
   · refine yC h (λ h=>?_) λ h=>?_
     · refine zr<|zm<|zm<|zn<|zk ?_
       exact zt hkK10 h
     refine Zi<|zk ?_
     exact zt hkK10 h
   refine zk<|zs<|Zr<|yG 3<|zm<|yb h λ h=>zm<|zn<|yg1 3 2 false [123,124,125] 125 h (λ _ T hT h=>?_) λ σ w h=>?_
   · refine zm<|zm<|yb h λ h=>zn ?_
     exact zt hT h
   refine yG 1<|yp h λ h=>zn<|ZG<|zk<|yJ1 [11,127] 11 h (λ _ _ hkK12 h=>?_) λ σ w h=>?_
   · refine yC h (λ h=>?_) λ h=>?_
     · refine zr<|zm<|zm<|zn<|zk ?_
       exact zt hkK12 h
     refine Zi<|zk ?_
     exact zt hkK12 h
   exact Zg<|zk<|zr<|zm<|yb h λ h=>zm<|zn<|zk<|⟨rfl,h⟩
 refine ZD<|Zc<|Zc<|Zp<|zk<|zs<|zr<|zm<|zm<|zm<|zm<|zm<|zn<|zk<|Zh ?_
 exact Gj rfl rfl rfl rfl h
def Zf1 a R w:=
 opN Pg (Y6 a) (Zj R) w λ b w=>
 F0 123 b 2 R w λ c w=>
 opU Pg (storeAt 3 c (QqJ 0)) (Zj R) w λ w=>
 opN Pg (Y6 a) (Zj R) w λ d w=>
 F0 123 d 3 R w λ e w=>
 opU Pg (storeAt 4 e (.bool false)) (Zj R) w λ w=>
 opN Pg (Y6 a) (Zj R) w λ f w=>
 F0 123 f 5 R w λ g w=>
 opU Pg (storeAt 3 g (QqJ 0)) (Zj R) w λ w=>
 opN Pg (Y6 a) (Zj R) w λ h w=>
 F0 123 h 6 R w λ i w=>
 opU Pg (storeAt 3 i (QqJ 0)) (Zj R) w λ w=>
 R (.returned (.tuple #[])) w
def Zf2:QqQ1 212 Zf1:=λ h=>by
 refine yD func212 ?_
 refine zr<|zm<|zm<|zm<|zm<|yN h λ h=>yv h λ h=>yu h λ h=>yN h λ h=>yv h λ h=>yu h λ h=>yN h λ h=>yv h λ h=>yu h λ h=>yN h λ h=>?_
 exact yv h λ h=>yu h λ h=>zn<|ZS<|Z2 rfl h
def PM c b (a:WPr) R w:=
 J0 123 b 2 a λ d=>
 I0 3 d a λ e=>
 qV Pg a (ZP .shl 3 true (QqJ 1) e) λ f=>
 qV Pg a (ZP .sub 3 true f (QqJ 1)) λ g=>
 J0 123 b 5 a λ h=>
 I0 3 h a λ i=>
 J0 123 b 6 a λ j=>
 I0 3 j a λ k=>
 opV Pg (buildSlice 61 2 #[(0,i),(1,k)]) (Zj R) w λ l w=>
 a w∧(
 C0 215 #[c,(QqJ 0),g,l] R w λ m w=>
 a w∧(
 R (.returned (.tuple #[])) w))
def Zgn a c R w:=
 opV Pg (box 123 c) (Zj R) w λ b w=>
 L0 123 b R w λ d w=>
 C0 214 #[a,d] R w λ f w=>
 Yg w λ e w=>
 PM a b e R w
def Zgo:QqQ2 213 Zgn:=λ h=>by
 refine yD func213 ?_
 refine zs<|zr<|yv h λ h=>zn<|zk<|zs<|zr<|zm<|yv h λ h=>yc h Zft λ h=>zn<|zk<|yh [7,8,9,10,11,12,13,14,15,16,17] h λ C hC h=>yw 0 hC ?_
 refine ye 1 hC h λ h=>?_
 refine ye 2 hC h λ h=>?_
 refine ye 3 hC h λ h=>?_
 refine ye 4 hC h λ h=>?_
 refine ye 5 hC h λ h=>?_
 refine ye 6 hC h λ h=>?_
 refine ye 7 hC h λ h=>?_
 refine ye 8 hC h λ h=>?_
 refine yo 9 ?_
 refine yS h λ h=>zn ?_
 obtain ⟨hC,h⟩:=h
 refine ⟨hC,?_⟩
 refine yo 10 ?_
 refine yc h DL λ h=>zn ?_
 obtain ⟨hC,h⟩:=h
 refine ⟨hC,?_⟩
 exact yz<|ZS<|Z2 rfl h
def SM d b e f (R:RT) w:=
 Zm (λ (a:Vl) (w:Wd)=>
 Zw b a (.bool false) λ g=>
 C0 135 #[d,g,(QqJ 6)] R w λ h w=>
 R (.returned (.tuple #[])) w) λ c=>
 Zl b true (
 Zw e (.bool true) f λ a=>
 c a w) (
 c undef w)
def SN g h i c d R w:=
 Zm (λ (a:Vl) (w:Wd)=>
 Zm (λ (b:Vl) (w:Wd)=>
 SM g i c b R w) λ e=>
 Zl c false (
 Zw d a (.bool false) λ b=>
 e b w) (
 e undef w)) λ f=>
 Zl d true (
 F0 123 h 2 R w λ j w=>
 L0 3 j R w λ k w=>
 B0 .rem 3 true k (QqJ 8) R w λ l w=>
 B0 .eql 3 true l (QqJ 0) R w λ a w=>
 f a w) (
 f undef w)
def SO d a e b R w:=
 Zm (λ (f:Vl) (w:Wd)=>
 SN d a e b f R w) λ c=>
 Zl b false (
 F0 123 a 2 R w λ g w=>
 L0 3 g R w λ h w=>
 B0 .gtr 3 true h (QqJ 8) R w λ i w=>
 c i w) (
 c undef w)
def SP d a e f R w:=
 Zw e f (.bool false) λ b=>
 Zm (λ (g:Vl) (w:Wd)=>
 SO d a b g R w) λ c=>
 Zl b true (
 F0 123 a 3 R w λ h w=>
 L0 4 h R w λ i w=>
 N0 i R w λ j w=>
 c j w) (
 c undef w)
def n92 e f R w:=
 opV Pg (box 123 f) (Zj R) w λ a w=>
 F0 123 a 2 R w λ g w=>
 L0 3 g R w λ h w=>
 B0 .geq 3 true h (QqJ 1) R w λ c w=>
 Zm (λ (b:Vl) (w:Wd)=>
 SP e a c b R w) λ d=>
 Zl c true (
 F0 123 a 2 R w λ i w=>
 L0 3 i R w λ j w=>
 B0 .leq 3 true j (QqJ 32) R w λ b w=>
 d b w) (
 d undef w)
def Zl3:QqQ2 214 n92:=λ h=>by
 refine yD func214 ?_
 refine zs<|zr<|yv h λ h=>zn<|zk<|Zr<|yG 5<|zm<|yv h λ h=>yv h λ h=>yb h λ h=>zm<|zn<|yg1 3 4 true [9,10,11] 11 h (λ _ T hT h=>?_) λ σ w h=>?_
 · refine yv h λ h=>yv h λ h=>yb h λ h=>zn ?_
   exact zt hT h
 refine yG 2<|yp h λ h=>zm<|zn<|yg1 4 9 true [14,15,16,17] 17 h (λ _ T hT h=>?_) λ σ w h=>?_
 · refine yv h λ h=>yv h λ h=>yv h λ h=>zm<|zn ?_
   exact zt hT h
 refine yg1 4 13 false [18,19,20,21] 21 h (λ _ T hT h=>?_) λ σ w h=>?_
 · refine yv h λ h=>yv h λ h=>yb h λ h=>zm<|zn ?_
   exact zt hT h
 refine yg1 4 17 true [22,23,24,25] 25 h (λ _ T hT h=>?_) λ σ w h=>?_
 · refine yv h λ h=>yv h λ h=>yb h λ h=>yb h λ h=>zn ?_
   exact zt hT h
 refine yg1 1 13 false [26] 26 h (λ _ T hT h=>?_) λ σ w h=>?_
 · refine yp h λ h=>zn ?_
   exact zt hT h
 refine yg1 1 9 true [27] 27 h (λ _ T hT h=>?_) λ σ w h=>?_
 · refine yp h λ h=>zn ?_
   exact zt hT h
 exact yG 2<|yp h λ h=>yc h Us λ h=>zn<|ZG<|ZS<|Z2 rfl h
def D7 a b c d e (Zu:KW) (R:RT) w:=
 Zw d e (.bool false) λ f=>
 C0 135 #[a,f,(QqJ 7)] R w λ h w=>
 B0 .add 3 true b (QqJ 1) R w λ g w=>
 Zu c g w
def D8 f g h i c (Zu:KW) R w:=
 X0 61 i c R w λ j w=>
 L0 3 j R w λ a w=>
 B0 .geq 3 false a g R w λ d w=>
 Zm (λ (b:Vl) (w:Wd)=>
 D7 f c a d b Zu R w) λ e=>
 Zl d true (
 B0 .leq 3 false a h R w λ b w=>
 e b w) (
 e undef w)
def ZfS d a e b R w:=
 G0 61 3 b R w λ f w=>
 Qq (λ a c w Zu=>
 B0 .lss 3 false c f R w λ g w=>
 Zo g (
 D8 d a e b c Zu R w) (
 R (.returned (.tuple #[])) w)) a (QqJ 0) w
def ZfT:QqQ4 215 ZfS:=λ h=>by
 refine yD func215 ?_
 refine zs<|zr<|zm<|yx h λ h=>zm<|zn<|zk<|Zk<|yl2 [1,9,12,13,14,15,16,17,18,19,20,21,22,23,24,25,26,27] 1 12 h λ σ w next h=>zs<|zr<|yb h λ h=>zn<|zk<|zs ?_
 refine yC h (λ h=>?_) λ h=>?_
 · refine Zi<|zk<|zs<|Zk<|zs<|zr<|yv h λ h=>yv h λ h=>zm<|zn<|zk<|zs<|Zr<|yG 5<|zm ?_
   refine zm<|zm<|yb h λ h=>zm<|zn<|yg1 3 4 true [21,22,23] 23 h (λ _ T hT h=>?_) λ σ w h=>?_
   · refine zm<|zm<|yb h λ h=>zn ?_
     exact zt hT h
   refine yG 2<|yp h λ h=>yc h Us λ h=>zn<|ZG<|zk<|zr<|zm<|zm<|zn<|Zg<|zk<|zr<|yb h λ h=>zm ?_
   exact zn<|zk<|⟨rfl,h⟩
 exact ZD<|Zc<|Zc<|Zp<|ZS<|Z2 rfl h
def Zgv a R w:=
 opN Pg (Y6 a) (Zj R) w λ b w=>
 F0 123 b 2 R w λ c w=>
 opU Pg (storeAt 3 c (QqJ 0)) (Zj R) w λ w=>
 opN Pg (Y6 a) (Zj R) w λ d w=>
 F0 123 d 3 R w λ e w=>
 opU Pg (storeAt 4 e (.bool false)) (Zj R) w λ w=>
 opN Pg (Y6 a) (Zj R) w λ f w=>
 F0 123 f 5 R w λ g w=>
 opU Pg (storeAt 3 g (QqJ 0)) (Zj R) w λ w=>
 R (.returned (.tuple #[])) w
def Zgw:QqQ1 216 Zgv:=λ h=>by
 refine yD func216 ?_
 refine zr<|zm<|zm<|zm<|yN h λ h=>yv h λ h=>yu h λ h=>yN h λ h=>yv h λ h=>yu h λ h=>yN h λ h=>yv h λ h=>yu h λ h=>zn<|ZS ?_
 exact Z2 rfl h
def PO c b (a:WPr) R w:=
 J0 123 b 2 a λ d=>
 I0 3 d a λ e=>
 qV Pg a (ZP .shl 3 true (QqJ 1) e) λ f=>
 qV Pg a (ZP .sub 3 true f (QqJ 1)) λ g=>
 J0 123 b 5 a λ h=>
 I0 3 h a λ i=>
 opV Pg (buildSlice 61 1 #[(0,i)]) (Zj R) w λ j w=>
 a w∧(
 C0 215 #[c,(QqJ 0),g,j] R w λ k w=>
 a w∧(
 R (.returned (.tuple #[])) w))
def Zgx a c R w:=
 opV Pg (box 123 c) (Zj R) w λ b w=>
 L0 123 b R w λ d w=>
 C0 214 #[a,d] R w λ f w=>
 Yg w λ e w=>
 PO a b e R w
def Zgy:QqQ2 217 Zgx:=λ h=>by
 refine yD func217 ?_
 refine zs<|zr<|yv h λ h=>zn<|zk<|zs<|zr<|zm<|yv h λ h=>yc h Zft λ h=>zn<|zk<|yh [7,8,9,10,11,12,13,14,15] h λ C hC h=>yw 0 hC ?_
 refine ye 1 hC h λ h=>?_
 refine ye 2 hC h λ h=>?_
 refine ye 3 hC h λ h=>?_
 refine ye 4 hC h λ h=>?_
 refine ye 5 hC h λ h=>?_
 refine ye 6 hC h λ h=>?_
 refine yo 7 ?_
 refine yS h λ h=>zn ?_
 obtain ⟨hC,h⟩:=h
 refine ⟨hC,?_⟩
 refine yo 8 ?_
 refine yc h DL λ h=>zn ?_
 obtain ⟨hC,h⟩:=h
 refine ⟨hC,?_⟩
 exact yz<|ZS<|Z2 rfl h
def Zgz a R w:=
 opN Pg (Y6 a) (Zj R) w λ b w=>
 F0 123 b 4 R w λ c w=>
 opU Pg (storeAt 4 c (.bool false)) (Zj R) w λ w=>
 opN Pg (Y6 a) (Zj R) w λ d w=>
 F0 123 d 5 R w λ e w=>
 opU Pg (storeAt 3 e (QqJ 0)) (Zj R) w λ w=>
 opN Pg (Y6 a) (Zj R) w λ f w=>
 F0 123 f 6 R w λ g w=>
 opU Pg (storeAt 3 g (QqJ 0)) (Zj R) w λ w=>
 R (.returned (.tuple #[])) w
def ZgA:QqQ1 218 Zgz:=λ h=>by
 refine yD func218 ?_
 refine zr<|zm<|zm<|zm<|yN h λ h=>yv h λ h=>yu h λ h=>yN h λ h=>yv h λ h=>yu h λ h=>yN h λ h=>yv h λ h=>yu h λ h=>zn<|ZS ?_
 exact Z2 rfl h
def ZgB b c R w:=
 opV Pg (box 123 c) (Zj R) w λ a w=>
 F0 123 a 5 R w λ d w=>
 L0 3 d R w λ e w=>
 F0 123 a 6 R w λ f w=>
 L0 3 f R w λ g w=>
 opV Pg (buildSlice 61 2 #[(0,e),(1,g)]) (Zj R) w λ h w=>
 C0 215 #[b,(QqJ 0),(QqJ 34359738367),h] R w λ i w=>
 R (.returned (.tuple #[])) w
def ZgC:QqQ2 219 ZgB:=λ h=>by
 refine yD func219 ?_
 refine zs<|zr<|yv h λ h=>zn<|zk<|zr<|zm<|yv h λ h=>yv h λ h=>yv h λ h=>yv h λ h=>yS h λ h=>yc h DL λ h=>zn<|ZS ?_
 exact Z2 rfl h
def ZgD a R w:=
 opV Pg (build 120 #[]) (Zj R) w λ b w=>
 opN Pg (Y6 a) (Zj R) w λ c w=>
 F0 123 c 7 R w λ d w=>
 S0 120 d b R w λ w=>
 R (.returned (.tuple #[])) w
def ZgE:QqQ1 220 ZgD:=λ h=>by
 refine yD func220 ?_
 exact zr<|zm<|yB h λ h=>yN h λ h=>yv h λ h=>yu h λ h=>zn<|ZS<|Z2 rfl h
def JP c d e (f:WPr) (a:PEn) (R:RT) w:=
 opV Pg (loadAt 296 d) a w λ g w=>
 opV Pg (lookup 296 g e true) a w λ b w=>
 opV Pg (extract b 0) a w λ h w=>
 opV Pg (extract b 1) a w λ i w=>
 opV Pg (alloc 300 true (.tuple #[])) a w λ j w=>
 opU Pg (storeAt 300 j h) a w λ w=>
 opV Pg (loadAt 167 c) a w λ k w=>
 Yb Pg 135 #[k,i,(QqJ 8)] a w λ l w=>
 f w
def JQ d e f g (ds:LDf) (R:RT) w:=
 Zw f g (.bool false) λ b=>
 Zm (λ (a:Vl) (w:Wd)=>
 Zw b a (.bool false) λ h=>
 Yb Pg 135 #[e,h,(QqJ 9)] (ZI Pg ds [] R) w λ k w=>
 Kz Pg ds [] R w) λ c=>
 Zl b true (
 opV Pg (fieldAt 300 d 1) (ZI Pg ds [] R) w λ i w=>
 opV Pg (loadAt 3 i) (ZI Pg ds [] R) w λ j w=>
 opV Pg (ZP .leq 3 true j (QqJ 1048576)) (ZI Pg ds [] R) w λ a w=>
 c a w) (
 c undef w)
def JR f c (ds:LDf) (R:RT) w:=
 opV Pg (extract c 0) (ZI Pg ds [] R) w λ g w=>
 opV Pg (extract c 1) (ZI Pg ds [] R) w λ h w=>
 opV Pg (alloc 300 true (.tuple #[])) (ZI Pg ds [] R) w λ a w=>
 opU Pg (storeAt 300 a g) (ZI Pg ds [] R) w λ w=>
 opV Pg (loadAt 167 f) (ZI Pg ds [] R) w λ i w=>
 opV Pg (ZP .eql 49 true h (QqJ 0)) (ZI Pg ds [] R) w λ d w=>
 Zm (λ (b:Vl) (w:Wd)=>
 JQ a i d b ds R w) λ e=>
 Zl d true (
 opV Pg (fieldAt 300 a 0) (ZI Pg ds [] R) w λ j w=>
 opV Pg (loadAt 3 j) (ZI Pg ds [] R) w λ k w=>
 opV Pg (ZP .geq 3 true k (QqJ 0)) (ZI Pg ds [] R) w λ b w=>
 e b w) (
 e undef w)
def KH a b c (ds:LDf) (R:RT) w:=
 opV Pg (fieldAt 123 b 7) (ZI Pg ds [] R) w λ d w=>
 opV Pg (loadAt 120 d) (ZI Pg ds [] R) w λ e w=>
 opV Pg (loadAt 296 c) (ZI Pg ds [] R) w λ f w=>
 Yb Pg 249 #[e,f] (ZI Pg ds [] R) w λ g w=>
 JR a g ds R w
def KI a c b d (ds:LDf) R w:=
 EN Pg d ds (λ l2 e w f h g=>
 Ct l2 w λ w=>
 JP a b e f g R w) (λ ch ds w=>ZI Pg ds [] R ch w) w (λ ds w=>
 KH a c b ds R w) []
def JS c a d (ds:LDf) (R:RT) w:=
 opV Pg (alloc 296 true (.tuple #[])) (ZI Pg ds [] R) w λ b w=>
 opU Pg (storeAt 296 b d) (ZI Pg ds [] R) w λ w=>
 opV Pg (fieldAt 123 a 7) (ZI Pg ds [] R) w λ e w=>
 opV Pg (loadAt 120 e) (ZI Pg ds [] R) w λ f w=>
 Yb Pg 248 #[f] (ZI Pg ds [] R) w λ g w=>
 KI c a b g ds R w
def JT a b (ds:LDf) (R:RT) w:=
 opV Pg (loadAt 167 a) (ZI Pg ds [] R) w λ c w=>
 Yb Pg 195 #[c] (ZI Pg ds [] R) w λ d w=>
 Yb Pg 247 #[d] (ZI Pg ds [] R) w λ e w=>
 JS a b e ds R w
def JU b c (a:WPr) (ds:LDf) (R:RT) w:=
 I0 167 b a λ d=>
 J0 123 c 7 a λ e=>
 I0 120 e a λ f=>
 Yb Pg 246 #[f] (ZI Pg ds [] R) w λ g w=>
 a w∧(
 Yb Pg 135 #[d,g,(QqJ 9)] (ZI Pg ds [] R) w λ h w=>
 a w∧(
 JT b c ds R w))
def n99 a b (R:RT) w:=
 (λ (ds:LDf)=>
 opV Pg (box 167 a) (ZI Pg ds [] R) w λ c w=>
 opV Pg (box 123 b) (ZI Pg ds [] R) w λ d w=>
 Yg w λ e w=>
 JU c d e ds R w) []
def Zma:QqQ2 221 n99:=λ h=>by
 refine yE func221 ?_
 unfold n99 at h
 dsimp only at h
 refine zs<|zr<|yv h λ h=>yv h λ h=>zn<|zk<|zs<|yh [10,11,12,13,14] h λ C hC h=>ye 0 hC h λ h=>?_
 refine ye 1 hC h λ h=>?_
 refine ye 2 hC h λ h=>?_
 refine yo 3 ?_
 refine yc h ZdW λ h=>zn ?_
 obtain ⟨hC,h⟩:=h
 refine ⟨hC,?_⟩
 refine yo 4 ?_
 refine yc h Us λ h=>zn ?_
 obtain ⟨hC,h⟩:=h
 refine ⟨hC,?_⟩
 refine yz<|zk<|zs<|zr<|yv h λ h=>yc h Np λ h=>yc h Zad λ h=>yv h λ h=>yu h λ h=>zn<|zk<|zs<|zs<|zr<|yv h λ h=>?_
 refine yv h λ h=>yc h Zfx λ h=>zn<|zk<|Zk<|qb [] h rfl (λ l2 t21 w Kr2 Xr2 Qr2 h=>?_) (λ ds w h=>?_) (λ c ds w h=>?_) (λ ch ds w h=>QM rfl h)
 · refine zr<|zm<|zn<|zk ?_
   obtain ⟨hr,h⟩:=h
   refine ⟨rfl,hr,λ w hb=>?_⟩
   have h:=h w hb
   refine Zk<|zs<|zr<|yv h λ h=>zm<|yv h λ h=>zm<|yv h λ h=>yv h λ h=>yv h λ h=>yu h λ h=>zm<|zn<|zk<|zr ?_
   exact yv h λ h=>zm<|yc h Us λ h=>zn<|Zg<|⟨rfl,h⟩
 · refine Zg<|zk<|zs<|zr<|yv h λ h=>yv h λ h=>yv h λ h=>yc h Zkv λ h=>zm<|yv h λ h=>yv h λ h=>yv h λ h=>yu h λ h=>zm<|zn ?_
   refine zk<|Zr<|yG 4<|yv h λ h=>zm<|yb h λ h=>zm<|zn<|yg1 3 3 true [42,43,44] 44 h (λ _ T hT h=>?_) λ σ w h=>?_
   · refine yv h λ h=>yv h λ h=>yb h λ h=>zn ?_
     exact zt hT h
   refine yG 2<|yp h λ h=>zm<|zn<|yg1 3 8 true [47,48,49] 49 h (λ _ T hT h=>?_) λ σ w h=>?_
   · refine yv h λ h=>yv h λ h=>yb h λ h=>zn ?_
     exact zt hT h
   exact yG 2<|yp h λ h=>yc h Us λ h=>zn<|ZG<|zP<|Wi rfl h
 exact h.elim
def ZgF a R w:=
 opN Pg (Y6 a) (Zj R) w λ b w=>
 F0 123 b 5 R w λ c w=>
 opU Pg (storeAt 3 c (QqJ 0)) (Zj R) w λ w=>
 opN Pg (Y6 a) (Zj R) w λ d w=>
 F0 123 d 6 R w λ e w=>
 opU Pg (storeAt 3 e (QqJ 0)) (Zj R) w λ w=>
 R (.returned (.tuple #[])) w
def ZgG:QqQ1 222 ZgF:=λ h=>by
 refine yD func222 ?_
 exact zr<|zm<|zm<|yN h λ h=>yv h λ h=>yu h λ h=>yN h λ h=>yv h λ h=>yu h λ h=>zn<|ZS<|Z2 rfl h
def PP a b R w:=
 F0 123 b 6 R w λ c w=>
 L0 3 c R w λ d w=>
 opV Pg (buildSlice 61 1 #[(0,d)]) (Zj R) w λ e w=>
 C0 215 #[a,(QqJ 0),(QqJ 1048576),e] R w λ f w=>
 R (.returned (.tuple #[])) w
def ZgH a c R w:=
 opV Pg (box 123 c) (Zj R) w λ b w=>
 F0 123 b 5 R w λ d w=>
 L0 3 d R w λ e w=>
 opV Pg (buildSlice 61 1 #[(0,e)]) (Zj R) w λ f w=>
 C0 215 #[a,(QqJ 0),(QqJ 255),f] R w λ g w=>
 PP a b R w
def ZgI:QqQ2 223 ZgH:=λ h=>by
 refine yD func223 ?_
 refine zs<|zr<|yv h λ h=>zn<|zk<|zs<|zr<|zm<|yv h λ h=>yv h λ h=>yS h λ h=>yc h DL λ h=>zn<|zk<|zr ?_
 exact zm<|yv h λ h=>yv h λ h=>yS h λ h=>yc h DL λ h=>zn<|ZS<|Z2 rfl h
def Zf3 a R w:=
 opN Pg (Y6 a) (Zj R) w λ b w=>
 F0 123 b 4 R w λ c w=>
 opU Pg (storeAt 4 c (.bool false)) (Zj R) w λ w=>
 opN Pg (Y6 a) (Zj R) w λ d w=>
 F0 123 d 6 R w λ e w=>
 opU Pg (storeAt 3 e (QqJ 0)) (Zj R) w λ w=>
 R (.returned (.tuple #[])) w
def Zf4:QqQ1 224 Zf3:=λ h=>by
 refine yD func224 ?_
 exact zr<|zm<|zm<|yN h λ h=>yv h λ h=>yu h λ h=>yN h λ h=>yv h λ h=>yu h λ h=>zn<|ZS<|Z2 rfl h
def Zf5 a b R w:=
 opV Pg (box 123 b) (Zj R) w λ c w=>
 F0 123 c 6 R w λ d w=>
 L0 3 d R w λ e w=>
 opV Pg (buildSlice 61 1 #[(0,e)]) (Zj R) w λ f w=>
 C0 215 #[a,(QqJ 2),(QqJ 1048576),f] R w λ g w=>
 R (.returned (.tuple #[])) w
def Zf6:QqQ2 225 Zf5:=λ h=>by
 refine yD func225 ?_
 exact zs<|zr<|yv h λ h=>zn<|zk<|zr<|zm<|yv h λ h=>yv h λ h=>yS h λ h=>yc h DL λ h=>zn<|ZS<|Z2 rfl h
def Zf7 a R w:=
 opV Pg (build 120 #[]) (Zj R) w λ b w=>
 opN Pg (Y6 a) (Zj R) w λ c w=>
 F0 123 c 8 R w λ d w=>
 opU Pg (storeAt 9 d (.string { data := #[] })) (Zj R) w λ w=>
 opN Pg (Y6 a) (Zj R) w λ e w=>
 F0 123 e 7 R w λ f w=>
 S0 120 f b R w λ w=>
 R (.returned (.tuple #[])) w
def Zf8:QqQ1 226 Zf7:=λ h=>by
 refine yD func226 ?_
 exact zr<|zm<|zm<|yB h λ h=>yN h λ h=>yv h λ h=>yu h λ h=>yN h λ h=>yv h λ h=>yu h λ h=>zn<|ZS<|Z2 rfl h
def Zf9 a c R w:=
 opV Pg (box 123 c) (Zj R) w λ b w=>
 F0 123 b 8 R w λ d w=>
 L0 9 d R w λ e w=>
 C0 228 #[a,e] R w λ g w=>
 L0 123 b R w λ f w=>
 C0 221 #[a,f] R w λ h w=>
 R (.returned (.tuple #[])) w
def Zga:QqQ2 227 Zf9:=λ h=>by
 refine yD func227 ?_
 refine zs<|zr<|yv h λ h=>zn<|zk<|zs<|zr<|zm<|yv h λ h=>yv h λ h=>yc h ZdV λ h=>zn<|zk<|zr<|zm ?_
 exact yv h λ h=>yc h ZdU λ h=>zn<|ZS<|Z2 rfl h
def n98 a c R w:=
 opN Pg (Y6 a) (Zj R) w λ d w=>
 F0 201 d 1 R w λ e w=>
 L0 198 e R w λ f w=>
 opV Pg (lookup 198 f c true) (Zj R) w λ b w=>
 E0q b 0 R w λ h w=>
 E0q b 1 R w λ g w=>
 C0 135 #[a,g,(QqJ 8)] R w λ i w=>
 R (.returned (.tuple #[])) w
def Zl9:QqQ2 228 n98:=λ h=>by
 refine yD func228 ?_
 refine zs<|zr<|zm<|yN h λ h=>yv h λ h=>yv h λ h=>zm<|yv h λ h=>zm<|yv h λ h=>yv h λ h=>zm<|zm<|zn<|zk ?_
 exact zr<|zm<|zm<|yc h Us λ h=>zn<|ZS<|Z2 rfl h
def Zgb a R w:=
 opN Pg (Y6 a) (Zj R) w λ b w=>
 F0 123 b 8 R w λ c w=>
 opU Pg (storeAt 9 c (.string { data := #[] })) (Zj R) w λ w=>
 R (.returned (.tuple #[])) w
def Zgc:QqQ1 229 Zgb:=λ h=>by
 refine yD func229 ?_
 exact zr<|zm<|yN h λ h=>yv h λ h=>yu h λ h=>zn<|ZS<|Z2 rfl h
def Zgd a b R w:=
 opV Pg (box 123 b) (Zj R) w λ c w=>
 F0 123 c 8 R w λ d w=>
 L0 9 d R w λ e w=>
 C0 228 #[a,e] R w λ f w=>
 R (.returned (.tuple #[])) w
def Zge:QqQ2 230 Zgd:=λ h=>by
 refine yD func230 ?_
 exact zs<|zr<|yv h λ h=>zn<|zk<|zr<|zm<|yv h λ h=>yv h λ h=>yc h ZdV λ h=>zn<|ZS<|Z2 rfl h
def Zgf a R w:=
 opN Pg (Y6 a) (Zj R) w λ b w=>
 F0 123 b 9 R w λ c w=>
 opU Pg (storeAt 9 c (.string { data := #[] })) (Zj R) w λ w=>
 opN Pg (Y6 a) (Zj R) w λ d w=>
 F0 123 d 11 R w λ e w=>
 opU Pg (storeAt 121 e (Value.slice none 0 0)) (Zj R) w λ w=>
 R (.returned (.tuple #[])) w
def Zgg:QqQ1 231 Zgf:=λ h=>by
 refine yD func231 ?_
 exact zr<|zm<|zm<|yN h λ h=>yv h λ h=>yu h λ h=>yN h λ h=>yv h λ h=>yu h λ h=>zn<|ZS<|Z2 rfl h
def Da a b (Y0:KW) R w:=
 F0 213 a 1 R w λ c w=>
 L0 3 c R w λ d w=>
 B0 .add 3 true d (QqJ 1) R w λ e w=>
 B0 .add 3 true b (QqJ 1) R w λ f w=>
 Y0 e f w
def Db b a c (Y0:KW) R w:=
 F0 213 a 2 R w λ d w=>
 L0 9 d R w λ e w=>
 C0 228 #[b,e] R w λ f w=>
 Da a c Y0 R w
def Dc b d e f c (Y0:KW) R w:=
 X0 121 f c R w λ g w=>
 L0 213 g R w λ h w=>
 opV Pg (alloc 213 true (.tuple #[])) (Zj R) w λ a w=>
 S0 213 a h R w λ w=>
 F0 300 d 1 R w λ i w=>
 L0 3 i R w λ j w=>
 F0 213 a 0 R w λ k w=>
 L0 3 k R w λ l w=>
 F0 213 a 1 R w λ m w=>
 L0 3 m R w λ n w=>
 opV Pg (buildSlice 61 2 #[(0,l),(1,n)]) (Zj R) w λ o w=>
 C0 215 #[b,e,j,o] R w λ p w=>
 Db b a c Y0 R w
def Bi d e a R w:=
 F0 300 a 0 R w λ f w=>
 L0 3 f R w λ g w=>
 F0 123 e 11 R w λ h w=>
 L0 121 h R w λ b w=>
 G0 121 3 b R w λ i w=>
 Qq (λ j c w Y0=>
 B0 .lss 3 false c i R w λ k w=>
 Zo k (
 Dc d a j b c Y0 R w) (
 R (.returned (.tuple #[])) w)) g (QqJ 0) w
def Bj c a f R w:=
 F0 123 a 11 R w λ g w=>
 L0 121 g R w λ h w=>
 G0 121 3 h R w λ i w=>
 B0 .geq 3 true i (QqJ 1) R w λ d w=>
 Zm (λ (b:Vl) (w:Wd)=>
 Zw d b (.bool false) λ j=>
 C0 135 #[c,j,(QqJ 3)] R w λ n w=>
 Bi c a f R w) λ e=>
 Zl d true (
 F0 123 a 11 R w λ k w=>
 L0 121 k R w λ l w=>
 G0 121 3 l R w λ m w=>
 B0 .leq 3 true m (QqJ 40) R w λ b w=>
 e b w) (
 e undef w)
def Bk b e f c g (R:RT) w:=
 Zm (λ (a:Vl) (w:Wd)=>
 Zw c a (.bool false) λ h=>
 C0 135 #[b,h,(QqJ 8)] R w λ i w=>
 Bj b e f R w) λ d=>
 Zl c true (
 N0 g R w λ a w=>
 d a w) (
 d undef w)
def JO a b c d (R:RT) w:=
 C0 195 #[a] R w λ e w=>
 opV Pg (makeFunc (.func 251) #[] #[b]) (Zj R) w λ f w=>
 C0 250 #[e,f] R w λ g w=>
 Bk a b c d g R w
def Bl d e (a:WPr) (f:KW) R w:=
 qV Pg a (lookup 296 d e true) λ b=>
 qV Pg a (extract b 0) λ g=>
 qV Pg a (extract b 1) λ h=>
 opV Pg (alloc 300 true (.tuple #[])) (Zj R) w λ c w=>
 a w∧(
 S0 300 c g R w λ w=>
 a w∧(
 f c h w))
def yJ b d e (a:WPr) (f:KW) R w:=
 qV Pg a (lookup 296 d e true) λ c=>
 qV Pg a (extract c 0) λ g=>
 qV Pg a (extract c 1) λ h=>
 S0 300 b g R w λ w=>
 a w∧(
 f b h w)
def zx c d (a:WPr) (e:KW) (R:RT) w:=
 (
 C0 247 #[c] R w λ b w=>
 Qs a w λ f w=>
 Bl b d f e R w)∧(
 opV Pg (alloc 300 true (.tuple #[])) (Zj R) w λ g w=>
 a w∧(
 C0 247 #[c] R w λ b w=>
 Qs a w λ h w=>
 yJ g b d h e R w))
def xQ b d e (a:WPr) (f:KW) R w:=
 qV Pg a (lookup 296 d e true) λ c=>
 qV Pg a (extract c 0) λ g=>
 qV Pg a (extract c 1) λ h=>
 S0 300 b g R w λ w=>
 a w∧(
 f b h w)
def zy a b c (d:WPr) (e:KW) (R:RT) w:=
 C0 195 #[a] R w λ f w=>
 Qs d w λ g w=>
 C0 247 #[f] R w λ h w=>
 Qs g w λ i w=>
 xQ b h c i e R w
def zz b d (a:WPr) R w:=
 J0 123 d 9 a λ g=>
 I0 9 g a λ e=>
 Zm (λ (c:Vl) (h:Vl) (w:Wd)=>
 JO b d c h R w) λ f=>
 (
 C0 195 #[b] R w λ i w=>
 Qs a w λ j w=>
 zx i e j f R w)∧(
 opV Pg (alloc 300 true (.tuple #[])) (Zj R) w λ c w=>
 a w∧(
 zy b c e a f R w))
def n93 a b R w:=
 opV Pg (box 123 b) (Zj R) w λ c w=>
 Yg w λ d w=>
 zz a c d R w
def Zl4:QqQ2 232 n93:=λ h=>by
 refine yD func232 ?_
 refine zs<|zr<|yv h λ h=>zn<|zk<|zs<|yh [4,5,10,11,12,13,14,15,16,17,18] h λ C hC h=>yw 0 hC ?_
 refine ye 3 hC h λ h=>?_
 refine ye 4 hC h λ h=>?_
 refine QI h (λ K2 hK h=>?_)
 refine Wq [4,5,10,12,13,16,17,18] (λ ρ w=>K2 (ρ 4) (ρ 5) w) (λ T hT=>?_) (λ σ w h=>?_)
 · obtain ⟨h0,h1⟩:=h
   refine Xj 1 9 rfl rfl K5 (λ _ _=>rfl) (λ _ _=>rfl) ?_ ?_
   · have h:=h0
     refine yc h Np λ h=>zn ?_
     obtain ⟨C6,hs,hC,h⟩:=h
     refine ⟨C6,hs,hC,?_⟩
     obtain ⟨h0,h1⟩:=h
     refine Xj 2 9 rfl rfl K5 (λ _ _=>rfl) (λ _ _=>rfl) ?_ ?_
     · have h:=h0
       refine yc h Zad λ h=>zn ?_
       obtain ⟨C7,hs,hC,h⟩:=h
       refine ⟨C7,hs,hC,?_⟩
       refine ye 5 hC h λ h=>?_
       refine yw 6 hC ?_
       refine ye 7 hC h λ h=>?_
       refine ye 8 hC h λ h=>?_
       refine yo 9 ?_
       refine yv h λ h=>zn ?_
       obtain ⟨hC,h⟩:=h
       refine ⟨hC,?_⟩
       refine yo 10 ?_
       refine yu h λ h=>zn ?_
       obtain ⟨hC,h⟩:=h
       refine ⟨hC,?_⟩
       refine yw 11 hC ?_
       refine yz ?_
       exact zt hT h
     have h:=h1
     refine yv h λ h=>zn ?_
     obtain ⟨hC,h⟩:=h
     refine ⟨_,λ _ h=>h,hC,?_⟩
     refine yr 2 ?_
     refine yc h Zad λ h=>zn ?_
     obtain ⟨C8,hs,hC,h⟩:=h
     refine ⟨C8,hs,hC,?_⟩
     refine ye 5 hC h λ h=>?_
     refine yw 6 hC ?_
     refine ye 7 hC h λ h=>?_
     refine ye 8 hC h λ h=>?_
     refine yo 10 ?_
     refine yu h λ h=>zn ?_
     obtain ⟨hC,h⟩:=h
     refine ⟨hC,?_⟩
     refine yw 11 hC ?_
     refine yz ?_
     exact zt hT h
   have h:=h1
   refine yv h λ h=>zn ?_
   obtain ⟨hC,h⟩:=h
   refine ⟨_,λ _ h=>h,hC,?_⟩
   refine yr 1 ?_
   refine yc h Np λ h=>zn ?_
   obtain ⟨C9,hs,hC,h⟩:=h
   refine ⟨C9,hs,hC,?_⟩
   refine yr 2 ?_
   refine yc h Zad λ h=>zn ?_
   obtain ⟨C10,hs,hC,h⟩:=h
   refine ⟨C10,hs,hC,?_⟩
   refine ye 5 hC h λ h=>?_
   refine yw 6 hC ?_
   refine ye 7 hC h λ h=>?_
   refine ye 8 hC h λ h=>?_
   refine yo 10 ?_
   refine yu h λ h=>zn ?_
   obtain ⟨hC,h⟩:=h
   refine ⟨hC,?_⟩
   refine yw 11 hC ?_
   refine yz ?_
   exact zt hT h
 subst hK
 refine zk<|zs<|zr<|zm<|yc h Np λ h=>yF h λ h=>yc h Zkw λ h=>zm<|zn<|zk<|zs<|Zr<|yG 3<|zm<|zm ?_
 refine zm<|zn<|yg1 2 2 true [26,27] 27 h (λ _ T hT h=>?_) λ σ w h=>?_
 · refine zm<|yv h λ h=>zn ?_
   exact zt hT h
 refine yG 2<|yp h λ h=>yc h Us λ h=>zn<|ZG<|zk<|zs<|Zr<|yG 6<|zm<|yv h λ h=>yv h λ h=>yx h λ h=>yb h λ h=>zm ?_
 refine zn<|yg1 4 5 true [36,37,38,39] 39 h (λ _ T hT h=>?_) λ σ w h=>?_
 · refine yv h λ h=>yv h λ h=>yx h λ h=>yb h λ h=>zn ?_
   exact zt hT h
 refine yG 2<|yp h λ h=>yc h Us λ h=>zn<|ZG<|zk<|zs<|zr<|yv h λ h=>yv h λ h=>zm<|zn<|zk<|zs<|zr ?_
 refine yv h λ h=>yv h λ h=>yx h λ h=>zm<|zn<|zk<|Zk<|yl2 [7,9,47,48,49,50,51,52,53,54,55,56,57,58,59,60,61,62,63,64,65,66,67,68] 7 47 h λ σ w next h=>zs<|zr<|yb h λ h=>zn<|zk<|zs<|yC h (λ h=>?_) λ h=>?_
 · refine Zi<|zk<|zs<|Zk<|zs<|zr<|yv h λ h=>yv h λ h=>yv h λ h=>yu h λ h=>zn<|zk<|zs<|zr<|zm ?_
   refine zm<|yv h λ h=>yv h λ h=>yv h λ h=>yv h λ h=>yv h λ h=>yv h λ h=>yS h λ h=>yc h DL λ h=>zn<|zk<|zs<|zr<|zm<|yv h λ h=>?_
   refine yv h λ h=>yc h ZdV λ h=>zn<|zk<|zr<|yv h λ h=>yv h λ h=>yb h λ h=>zm<|zn<|Zg<|zk<|zr<|yb h λ h=>zm ?_
   exact zn<|zk<|⟨rfl,h⟩
 exact ZD<|Zc<|Zc<|Zp<|ZS<|Z2 rfl h
abbrev Wj (a f c:Int):Vl := .agg #[.int .i64 a,.int .i64 f,.int .i64 c]
def XM (a f c:Int):PanicEntry:={ v := .iface 131 (Wj a f c),recovered:=false }
def QG (w:Wd) (a f c:Int):Ending→Wd→Prop:=λ e w'=>Ext w w'∧(c=0∧e = .returned (.tuple #[])∨c≠0∧e = .panicked [XM a f c])
def Z1 {f:FuncId} {args:AVl} {QP:PEn} {w:Wd} {k:KV} {a fl c:Int} (h:Calls Pg f args w (QG w a fl c)) (hk:∀ w',Ext w w'→c=0→k (.tuple #[]) w') (hp:∀ w',Ext w w'→c≠0→QP [XM a fl c] w'):Yb Pg f args QP w k:=
 Uv h (λ v w' h=>by rcases h with ⟨e,⟨h1,h2⟩ | ⟨_,h2⟩⟩<;>cases h2;exact hk w' e h1) (λ ch w' h=>by rcases h with ⟨e,⟨_,h2⟩ | ⟨h1,h2⟩⟩<;>cases h2;exact hp w' e h1) (λ w' h=>by rcases h with ⟨_,⟨_,h2⟩ | ⟨_,h2⟩⟩<;>cases h2)
def Xu {w w':Wd} {a f c:Int} (e:Ext w w') (h:c=0):QG w a f c (.returned (.tuple #[])) w':=⟨e,.inl ⟨h,rfl⟩⟩
def Yq {w w':Wd} {a f c c':Int} (e:Ext w w') (h:c=c') (h0:c'≠0):Zj (QG w a f c) [XM a f c'] w':=⟨e,.inr ⟨by rw [h];exact h0,by rw [h]⟩⟩
def orC (a b:Int):Int:=if a=0 then b else a
def Xg (b:Int):orC 0 b=b:=rfl
def Q2 {a b:Int} (h:a≠0):orC a b=a:=by unfold orC;rw [if_neg h]
def Yn (b:Bool) (c:Int):Int:=if b then 0 else c
structure Chk (w:Wd) (cb md ms:Nat) (deps:List (BAr×Vl)) (strs:List (BAr×Vl)) (at_ fld:Int) (fs:List Zt):Prop where
 obj:∃ dn mv ds mn fv,w.heap[cb]?=some (.cells #[.string dn,mv,.string ds,.map (some md),.map (some ms),.int .i64 at_,.int .i64 fld,.string mn,fv] 201 (0,0))∧YX w fv fs
 mdeps:Y9 w md deps
 mstrs:Y9 w ms strs
 dint:∀ k v,Yy deps k=some v→∃ n,v = .int .i64 n
 sbool:∀ k v,Yy strs k=some v→∃ b,v = .bool b
def Fc (strs:List (BAr×Vl)) (s:BAr):Bool:=match Yy strs s with
 | some (.bool b)=>b
 | _=>false
def Chk.strV {w:Wd} {cb md ms:Nat} {deps strs:List (BAr×Vl)} {at_ fld:Int} {fs:List Zt} (h:Chk w cb md ms deps strs at_ fld fs) (s:BAr):(Yy strs s).getD (.bool false) = .bool (Fc strs s):=by
 unfold Fc
 cases hl:Yy strs s with
 | none=>rfl
 | some v=>obtain ⟨b,rfl⟩:=h.sbool s v hl;rfl
def Chk.ext {w w':Wd} {cb md ms:Nat} {deps strs:List (BAr×Vl)} {at_ fld:Int} {fs:List Zt} (h:Chk w cb md ms deps strs at_ fld fs) (e:Ext w w'):Chk w' cb md ms deps strs at_ fld fs:=by
 obtain ⟨⟨dn,mv,ds,mn,fv,h1,h2⟩,h3,h4,h5,h6⟩:=h
 exact ⟨⟨dn,mv,ds,mn,fv,e.obj h1,h2.ext e⟩,h3.ext e,h4.ext e,h5,h6⟩
section
variable {w0:Wd} {cb md ms:Nat} {deps strs:List (BAr×Vl)} {at_ fld:Int} {fs:List Zt}
def YP (h:Chk w0 cb md ms deps strs at_ fld fs) (b:Bool) (c:Int) (hc:c≠0):Calls Pg 135 #[Qq4 cb,.bool b,.int .i64 c] w0 (QG w0 at_ fld (Yn b c)):=by
 obtain ⟨⟨dn,mv,ds,mn,fv,h1,h2⟩,h3,h4,h5,h6⟩:=h
 refine Zl7 ?_;unfold n96
 cases b with
 | true=>
  simp (disch:=try exact DI) only [↓PR,QR,simprocAttr,↓MV]
  exact Xu (Ext.refl _) rfl
 | false=>
  simp (disch:=try exact DI) only [↓PR,QR,simprocAttr,↓MV]
  refine ZB ?_
  simp (disch:=try exact DI) only [↓PR,QR,simprocAttr,↓MV,(Za h1).1]
  rw [Hs]
  exact Yq (Ext.refl _).drew rfl hc
def Vt (h:Chk w0 cb md ms deps strs at_ fld fs) (i:Nat) (hi:fld=i) (Ym:i < fs.length):Ret Pg 195 #[Qq4 cb] w0 λ r w'=>YX w' r (fs.take i)∧Ext w0 w':=by
 obtain ⟨⟨dn,mv,ds,mn,fv,h1,h2⟩,h3,h4,h5,h6⟩:=h
 obtain ⟨A,c,rfl,hlc,hcm,hlm,YS⟩:=Ze.open h2
 obtain ⟨x,hx⟩:=getElem?_lt Ym
 obtain ⟨b,o,_,rfl,_⟩:=YS i x hx
 subst hi
 refine Zl2 (R:=ZR _) ?_;unfold n91
 refine ZB ?_
 simp (disch:=try exact DI) only [↓PR,QR,simprocAttr,↓Zdz,(Za h1).1]
 rw [YG λ QP w' k=>Uk underlying72 VR b o fs.length c .i64 i K9]
 refine Qqk ?_
 refine ⟨?_,ee⟩
 have YH:(fs.take i).length=i:=by rw [List.length_take];omega
 refine ⟨_,c,by rw [YH],by rw [YH];omega,hcm,λ _=>⟨b,o,rfl,λ k y hy=>?_⟩⟩
 rw [List.getElem?_take] at hy
 split at hy
 · obtain ⟨b',o',cs,hA,hl,hA2,hE⟩:=YS k y hy
   injection hA with hA
   injection hA with h5 h6
   subst h5 h6
   have e:Ext w0 (drew w0):=(Ext.refl w0).drew
   exact ⟨cs,hl,hA2.ext e,xw _ _ _ _ e hE⟩
 · cases hy
def xY (h:Chk w0 cb md ms deps strs at_ fld fs) (s:BAr):Calls Pg 228 #[Qq4 cb,.string s] w0 (QG w0 at_ fld (Yn (Yy deps s).isSome 8)):=by
 have h':=h
 obtain ⟨⟨dn,mv,ds,mn,fv,h1,h2⟩,h3,h4,h5,h6⟩:=h
 refine Zl9 ?_;unfold n98
 simp (disch:=try exact DI) only [↓PR,QR,simprocAttr,joinK_eq,(Za h1).1]
 rw [Uh underlying198 underlying9 ty3 h3]
 refine Qqk ?_
 refine Z1 (YP h' _ 8 K7) (λ w' e h0=>?_) (λ w' e h0=>?_)
 · exact Xu e h0
 · exact Yq e rfl h0
def Yf (high:Int):Int→List Int→Int
 | _,[]=>0
 | low,n::l=>orC (Yn (decide (low≤n)&&decide (n≤high)) 7) (Yf high n l)
def V6 (w:Wd) (v:Vl) (l:List Int):Prop:=Ze w 1 ZdO v l
def CF {w:Wd} {p:Nat} (hp:p=w.heap.size) (a:Int) (T:TypeId):V6 (w.alloc (.cells #[.int .i64 a] T)) (.slice (some ⟨p,0,none⟩) 1 1) [a]:=by
 subst hp;exact Ze.new1 (E:=ZdO) (λ n:Int => .int .i64 n) (λ _ _=>rfl) w [a] T (by simp)
def Pu {w:Wd} {p:Nat} (hp:p=w.heap.size) (a b:Int) (T:TypeId):V6 (w.alloc (.cells #[.int .i64 a,.int .i64 b] T)) (.slice (some ⟨p,0,none⟩) 2 2) [a,b]:=by
 subst hp;exact Ze.new1 (E:=ZdO) (λ n:Int => .int .i64 n) (λ _ _=>rfl) w [a,b] T (by simp)
def QO (h:Chk w0 cb md ms deps strs at_ fld fs) (low high:Int) (v:Vl) (l:List Int) (hs:V6 w0 v l):Calls Pg 215 #[Qq4 cb,.int .i64 low,.int .i64 high,v] w0 (QG w0 at_ fld (Yf high low l)):=by
 obtain ⟨A,c,rfl,hlc,hcm,hlm,YS⟩:=Ze.open hs
 refine ZfT ?_;unfold ZfS
 refine Qqk ?_
 refine YA (λ a0 a1 w=>∃ (k:Nat) (n:Int),a0 = .int .i64 n∧a1 = .int .i64 (k:Int)∧k≤l.length∧Ext w0 w∧Yf high n (l.drop k)=Yf high low l) (λ a0 a1 _=>l.length - (intOf a1).toNat) ⟨0,low,rfl,rfl,Nat.zero_le _,ee,rfl⟩ ?_
 rintro _ _ w ⟨k,n,rfl,rfl,hk,e,hI⟩
 have se:=e.size
 rcases ZH hk with ⟨x,hx,hd,Ym,ZK⟩ | ⟨hk,hd,ZK⟩
 · obtain ⟨b,o,cs,rfl,hl,hA,rfl⟩:=YS k x hx
   rw [hd] at hI
   simp only [Yf] at hI
   simp (disch:=try exact DI) only [↓PR,QR,simprocAttr,↓D7,↓D8,ZK,hA.c1]
   refine Z1 (YP (h.ext e) _ 7 K7) (λ w' e1 h0=>?_) (λ w' e1 h0=>?_)
   · rw [h0,Xg] at hI
     simp (disch:=try exact DI) only [↓PR,QR,simprocAttr,↓D7,↓D8]
     exact ⟨⟨k+1,_,rfl,rfl,by omega,ee,hI⟩,ZQ (kd := .i64) Ym⟩
   · rw [Q2 h0] at hI
     exact Yq (e.trans e1) hI.symm h0
 · subst hk
   simp (disch:=try exact DI) only [↓PR,QR,simprocAttr,↓D7,↓D8,ZK]
   rw [hd] at hI
   exact Xu e hI.symm
def XO (f:Zt):Bool:=decide (1≤f.bits)&&decide (f.bits≤32)&&(!f.little||(decide (8 < f.bits)&&(f.bits.tmod 8 == 0)))
def Fu (h:Chk w0 cb md ms deps strs at_ fld fs) (v:Vl) (f:Zt) (hf:Z0 w0 v f):Calls Pg 214 #[Qq4 cb,v] w0 (QG w0 at_ fld (Yn (XO f) 6)):=by
 obtain ⟨tv,cv,rfl,hT,hC,ht1,hc1⟩:=hf.op
 refine Zl3 ?_;unfold n92
 simp (disch:=try exact DI) only [↓PR,QR,simprocAttr,↓SM,↓SN,↓SO,↓SP]
 have e0:Ext w0 (w0.alloc (Obj.cells (Zq f tv cv).toArray 123)):=ee
 have fin:∀ b,b=XO f→Yb Pg 135 #[Qq4 cb,.bool b,.int .i64 6] (Zj (QG w0 at_ fld (Yn (XO f) 6))) (w0.alloc (Obj.cells (Zq f tv cv).toArray 123)) (λ _ w=>QG w0 at_ fld (Yn (XO f) 6) (.returned (.tuple #[])) w):=by
  rintro b rfl
  exact Z1 (YP (h.ext e0) _ 6 K7) (λ w' e1 h0=>Xu (e0.trans e1) h0) (λ w' e1 h0=>Yq (e0.trans e1) rfl h0)
 unfold XO at fin ⊢
 generalize decide (1≤f.bits)=b1 at fin ⊢
 generalize decide (f.bits≤32)=b2 at fin ⊢
 generalize f.little=b3 at fin ⊢
 generalize decide (8 < f.bits)=b4 at fin ⊢
 generalize (f.bits.tmod 8 == 0)=b5 at fin ⊢
 cases b1<;>cases b2<;>cases b3<;>cases b4<;>cases b5<;>simp (disch:=try exact DI) only [↓PR,QR,simprocAttr,↓SM,↓SN,↓SO,↓SP]<;>exact fin _ rfl
def WI (rp:List (BAr×Int×Int)):List Ye→Int
 | []=>0
 | t::ts=>orC (Yn (YC rp t.field).isSome 8) (WI rp ts)
def NS (base:Int) (ts:List Ye) (rp:List (BAr×Int×Int)):Bool:=(YW base ts rp == 0)&&decide (0≤Qw base ts rp)&&decide (Qv base ts rp≤1048576)
def Wg (rp:List (BAr×Int×Int)) (f:Zt):Int:=orC (Yn (WD f.base f.terms) 9) (orC (WI rp f.terms) (Yn (NS f.base f.terms rp) 9))
def qc (h:Chk w0 cb md ms deps strs at_ fld fs) (i:Nat) (hi:fld=i) (Ym:i < fs.length) (v:Vl) (f:Zt) (hf:Z0 w0 v f) :
 Calls Pg 221 #[Qq4 cb,v] w0 (QG w0 at_ fld (Wg (Xo (fs.take i)) f)):=by
 obtain ⟨tv,cv,rfl,hT,hC,ht1,hc1⟩:=hf.op
 refine Zma ?_;unfold n99
 simp (disch:=try exact DI) only [↓PR,QR,simprocAttr,↓JP,↓JQ,↓JR,↓KH,↓KI,↓JS,↓JT,↓JU]
 generalize hW:World.alloc (World.alloc w0 _) _=W
 have e0:Ext w0 W:=by rw [← hW];exact ee
 have o2:W.heap[w0.heap.size]?=some (.cells #[Qq4 cb] 167 (0,0)):=by rw [← hW];exact Qqy
 have o3:W.heap[w0.heap.size+1]?=some (.cells (Zq f tv cv).toArray 123 (0,0)):=by rw [← hW];exact Qqy
 clear hW
 simp only [World.size_alloc]
 refine ZB ?_
 simp (disch:=try exact DI) only [↓PR,QR,simprocAttr,↓JP,↓JQ,↓JR,↓KH,↓KI,↓JS,↓JT,↓JU,(Za o2).1,(Za o3).1]
 refine zcr (xn _ _ f.base f.terms ⟨tv,rfl,Z8.ext hT ee⟩) λ w1 e1=>?_
 refine ⟨e1,?_⟩
 unfold Wg
 refine Z1 (YP (h.ext (e0.wdrew.trans e1)) _ 9 K7) (λ w2 e2 h0=>?_) (λ w2 e2 h0=>?_)
 · rw [h0,Xg]
   refine ⟨e1.trans e2,?_⟩
   have e3:Ext W w2:=(Ext.refl W).wdrew.trans (e1.trans e2)
   have hv:WD f.base f.terms=true:=by
    cases hb:WD f.base f.terms with
    | true=>rfl
    | false=>rw [hb] at h0;exact absurd h0 K7
   have ht:f.terms.length≤1048576:=by
    have hs:=hv
    unfold WD at hs
    simp only [Bool.and_eq_true,decide_eq_true_eq] at hs
    omega
   simp (disch:=try exact DI) only [↓PR,QR,simprocAttr,↓JP,↓JQ,↓JR,↓KH,↓KI,↓JS,↓JT,↓JU,(Za (e3.obj o2)).1]
   refine Zs (Vt (h.ext (e0.trans e3)) i hi Ym) ?_
   rintro bv w4 ⟨hB,e4⟩
   simp (disch:=try exact DI) only [↓PR,QR,simprocAttr,↓JP,↓JQ,↓JR,↓KH,↓KI,↓JS,↓JT,↓JU]
   refine Zs (KC _ _ _ hB) ?_
   rintro _ w5 ⟨m,rfl,hmlo,hM,e5⟩
   rw [UA] at hM
   have e6:Ext W w5:=e3.trans (e4.trans e5)
   have l3:w0.heap.size+1 < w5.heap.size:=(Qqq (e6.obj o3)).1
   simp (disch:=try exact DI) only [↓PR,QR,simprocAttr,↓JP,↓JQ,↓JR,↓KH,↓KI,↓JS,↓JT,↓JU,(Za (e6.obj o3)).1]
   have e6':Ext w0 w5:=e0.trans e6
   refine Zs (Cq _ _ f.base f.terms ⟨tv,rfl,Z8.ext hT ee⟩ ht) ?_
   rintro _ w7 ⟨pb,tv2,rfl,hTA,_,e7⟩
   rw [hv,if_pos rfl] at hTA
   have s7:=e7.size
   simp only [World.size_alloc] at s7
   have e8:Ext W w7:=ee
   have p4:w7.heap[w5.heap.size]?=some (.cells #[.map (some m)] 296 (0,0)):=by simp (disch:=try exact DI) only [↓PR,QR,simprocAttr,e7.heapQ]
   have hM7:Y9 w7 m (RP (Xo (fs.take i))):=hM.ext (((Ext.refl _).alloc _).trans e7)
   have h7:Chk w7 cb md ms deps strs at_ fld fs:=h.ext (e0.trans e8)
   have o2':=e8.obj o2
   have o3':=e8.obj o3
   have e07:Ext w0 w7:=e0.trans e8
   clear e7 e6 e5 e4 e3 e2 e1 hM hB hmlo s7 l3 o2 o3 e8 e6'
   unfold KI
   have hLI:∀ k,Yk w7.heap.size (λ w=>Ext w7 w∧WI (Xo (fs.take i)) (f.terms.drop k)=WI (Xo (fs.take i)) f.terms):=λ k=>Yk.and (Yk.from (Nat.le_refl _)) (Yk.const _ _)
   refine ⟨_,_,f.terms.length,Ku f.terms,λ w=>Q3 w pb tv2 f.terms,λ k w=>Ext w7 w∧WI (Xo (fs.take i)) (f.terms.drop k)=WI (Xo (fs.take i)) f.terms,λ _ _=>False,
    λ ch w=>Ext w7 w∧∃ c,c≠0∧ch=[XM at_ fld c]∧WI (Xo (fs.take i)) f.terms=c,rfl,Zfz,Cr pb tv2 f.terms,⟨Ext.refl _,rfl⟩,λ k w h=>hTA.ext h.1,hLI,λ _=>Yk.const _ _,?_,?_,?_,?_⟩
   · intro rec j w3 hj hI3 hrec hready
     refine ⟨hready,λ w4 hbz=>?_⟩
     have hrec4:=hrec.busied hbz
     obtain ⟨e4,hF⟩:=(hLI j).busied hbz (Nat.le_succ _) hI3
     clear hI3 hrec hready hbz
     obtain ⟨t,hx⟩:=getElem?_lt hj
     rw [show Ku f.terms j = .string t.field by unfold Ku;rw [hx]]
     have hd:f.terms.drop j=t::f.terms.drop (j+1):=by
      rw [List.drop_eq_getElem_cons hj]
      congr 1
      exact (Qqj hx).2
     rw [hd] at hF
     simp only [WI] at hF
     have o2:=e4.obj o2'
     have l2:w0.heap.size < w4.heap.size:=(Qqq o2).1
     simp (disch:=try exact DI) only [↓PR,QR,simprocAttr,↓JP,↓JQ,↓JR,↓KH,↓KI,↓JS,↓JT,↓JU,(Za (e4.obj p4)).1]
     rw [Uh underlying296 underlying9 UK (hM7.ext e4),Wl]
     have fin:∀ w5 b,Ext w4 w5→b=(YC (Xo (fs.take i)) t.field).isSome→Yb Pg 135 #[Qq4 cb,.bool b,.int .i64 8] (λ ch w''=>Xn rec w7.heap.size w''∧Ext w7 w''∧∃ c,c≠0∧ch=[XM at_ fld c]∧WI (Xo (fs.take i)) f.terms=c) w5 (λ _ w''=>Xn rec w7.heap.size w''∧Ext w7 w''∧WI (Xo (fs.take i)) (f.terms.drop (j+1))=WI (Xo (fs.take i)) f.terms):=by
      rintro w5 b e5 rfl
      refine Z1 (YP (h7.ext (e4.trans e5)) _ 8 K7) (λ w6 e6 h0=>?_) (λ w6 e6 h0=>?_)
      · rw [h0,Xg] at hF
        exact ⟨hrec4.ext (e5.trans e6),e4.trans (e5.trans e6),hF⟩
      · rw [Q2 h0] at hF
        exact ⟨hrec4.ext (e5.trans e6),e4.trans (e5.trans e6),_,h0,rfl,hF.symm⟩
     cases hl:YC (Xo (fs.take i)) t.field with
     | none=>
      rw [hl] at fin
      simp (disch:=try exact DI) only [↓PR,QR,simprocAttr,↓JP,↓JQ,↓JR,↓KH,↓KI,↓JS,↓JT,↓JU,(Za o2).1,Option.map_none]
      exact fin _ _ ee rfl
     | some q=>
      obtain ⟨lo,hi⟩:=q
      rw [hl] at fin
      simp (disch:=try exact DI) only [↓PR,QR,simprocAttr,↓JP,↓JQ,↓JR,↓KH,↓KI,↓JS,↓JT,↓JU,(Za o2).1,YD]
      exact fin _ _ ee rfl
   · rintro w3 ⟨e3,hF⟩ hmk
     rw [List.drop_length] at hF
     have l7:w7.heap.size < w3.heap.size:=(Qqq hmk).1
     rw [← hF]
     show KH _ _ _ _ (QG w0 at_ fld (orC 0 _)) w3
     rw [Xg]
     simp (disch:=try exact DI) only [↓PR,QR,simprocAttr,↓JP,↓JQ,↓JR,↓KH,↓KI,↓JS,↓JT,↓JU,(Za (e3.obj o3')).1,(Za (e3.obj p4)).1]
     refine zcr (Dy _ _ f.base f.terms m _ ⟨tv,rfl,Z8.ext hT (e07.trans e3)⟩ ht (hM7.ext e3)) λ w4 e4=>?_
     have s4:=e4.size
     have o2:=(e3.trans e4).obj o2'
     have l2:w0.heap.size < w4.heap.size:=(Qqq o2).1
     simp (disch:=try exact DI) only [↓PR,QR,simprocAttr,↓JP,↓JQ,↓JR,↓KH,↓KI,↓JS,↓JT,↓JU,(Za o2).1,YD]
     have e5:Ext w3 (w4.alloc (Obj.cells #[.int .i64 (Qw f.base f.terms (Xo (fs.take i))),.int .i64 (Qv f.base f.terms (Xo (fs.take i)))] 300)):=e4.alloc _
     have s07:=e07.size
     refine Z1 (YP (h7.ext (e3.trans e5)) (NS f.base f.terms (Xo (fs.take i))) 9 K7) (λ w6 e6 h0=>?_) (λ w6 e6 h0=>?_)
     · refine V5 (hmk.ext (e5.trans e6)) ?_
       rw [Um]
       exact Xu (((e07.trans e3).trans (e5.trans e6)).putObj K9 _) h0
     · refine xX (hmk.ext (e5.trans e6)) ?_
       rw [Ul]
       exact Yq (((e07.trans e3).trans (e5.trans e6)).putObj K9 _) rfl h0
   · rintro c w3 h
     exact h.elim
   · rintro ch w3 ⟨e3,c,hc,rfl,hF⟩ hmk
     have l7:w7.heap.size < w3.heap.size:=(Qqq hmk).1
     rw [hF,Q2 hc]
     refine xX hmk ?_
     rw [Ul]
     exact Yq (by have:=e07.size;exact ee) rfl hc
 · rw [Q2 h0]
   exact Yq (e0.wdrew.trans (e1.trans e2)) rfl h0
end
def Kb (w0:Wd) (v:Vl) (l:List Zt) (g:FuncId) (caps:AVl) (p:Zt→Bool) (hs:YX w0 v l) (hg:Callable Pg g) (hc:UV w0 Z0 g caps p l) :
 Ret Pg 250 #[v,.func (.func g) #[] caps] w0 λ r w'=>r = .bool (l.any p)∧Ext w0 w':=by
 refine Zhq (R:=ZR _) ?_;unfold Zhp
 refine Zs (VV _ _ l g caps p hs hg hc) ?_
 rintro r w' ⟨rfl,e⟩
 refine Qqv ?_
 exact ⟨by rw [QH],e⟩
def Wr (tag:BAr) (o:Zt):Bool:=o.kind == 9&&decide (o.tag=tag)
def Fw (w0:Wd) (v:Vl) (o f:Zt) (pb:Nat) (tv cv:Vl) (hv:Z0 w0 v o) (hp:w0.heap[pb]?=some (.cells (Zq f tv cv).toArray 123 (0,0))) :
 Ret Pg 251 #[v,Qq4 pb] w0 λ r w'=>r = .bool (Wr f.tag o)∧Ext w0 w':=by
 obtain ⟨tv',cv',rfl,hT,hC,ht1,hc1⟩:=hv.op
 have Ym:=(Qqq hp).1
 refine Zl5 (R:=ZR _) ?_;unfold n94
 simp (disch:=try exact DI) only [↓PR,QR,simprocAttr,joinK_eq,(Za hp).1]
 exact ⟨by first | trivial | rfl,ee⟩
def WH (hi:Int) (deps:List (BAr×Vl)):Int→List zK→Int
 | _,[]=>0
 | low,x::xs=>orC (Yf hi low [x.low,x.high]) (orC (Yn (Yy deps x.of).isSome 8) (WH hi deps (IntKind.i64.wrap (x.high+1)) xs))
def Vc (bef:List Zt) (deps:List (BAr×Vl)) (f:Zt):Int:=
 orC (Yn ((YC (Xo bef) f.tag).isSome&&!bef.any (Wr f.tag)) 8) (orC (Yn (decide (1≤(f.cases.length:Int))&&decide ((f.cases.length:Int)≤40)) 3) (WH (((YC (Xo bef) f.tag).getD (0,0)).2) deps (((YC (Xo bef) f.tag).getD (0,0)).1) f.cases))
section
variable {w0:Wd} {cb md ms:Nat} {deps strs:List (BAr×Vl)} {at_ fld:Int} {fs:List Zt}
def H9 {a0:Wd} (e00:Ext a0 w0) (h:Chk w0 cb md ms deps strs at_ fld fs) (pf p4:Nat) (f:Zt) (tv cv:Vl) (lo hi:Int) (hC:Yu w0 cv f.cases) (o3:w0.heap[pf]?=some (.cells (Zq f tv cv).toArray 123 (0,0))) (o4:w0.heap[p4]?=some (.cells #[.int .i64 lo,.int .i64 hi] 300 (0,0))) :
 Bi (Qq4 cb) (Qq4 pf) (Qq4 p4) (QG a0 at_ fld (WH hi deps lo f.cases)) w0:=by
 obtain ⟨A,c,rfl,hlc,hcm,hlm,YS⟩:=Ze.open hC
 simp (disch:=try exact DI) only [↓PR,QR,simprocAttr,↓Da,↓Db,↓Dc,↓Bi,↓Bj,↓Bk,↓JO,↓Bl,↓yJ,↓zx,↓xQ,↓zy,↓zz,(Za o3).1,(Za o4).1]
 refine YA (λ a0 a1 w=>∃ (k:Nat) (n:Int),a0 = .int .i64 n∧a1 = .int .i64 (k:Int)∧k≤f.cases.length∧Ext w0 w∧WH hi deps n (f.cases.drop k)=WH hi deps lo f.cases) (λ a0 a1 _=>f.cases.length - (intOf a1).toNat) ⟨0,lo,rfl,rfl,Nat.zero_le _,ee,rfl⟩ ?_
 rintro _ _ w ⟨k,n,rfl,rfl,hk,e,hI⟩
 have se:=e.size
 rcases ZH hk with ⟨x,hx,hd,Ym,ZK⟩ | ⟨hk,hd,ZK⟩
 · obtain ⟨b,o,cs,rfl,hl,hA,rfl⟩:=YS k x hx
   have l4:p4 < w.heap.size:=(Qqq (e.obj o4)).1
   rw [hd] at hI
   simp only [WH] at hI
   simp (disch:=try exact DI) only [↓PR,QR,simprocAttr,↓Da,↓Db,↓Dc,↓Bi,↓Bj,↓Bk,↓JO,↓Bl,↓yJ,↓zx,↓xQ,↓zy,↓zz,ZK,hA.c3,(Za (e.obj o4)).1]
   generalize hW:World.alloc (World.alloc w _) _=W
   have eW:Ext w W:=by rw [← hW];exact ee
   have o9:W.heap[w.heap.size]?=some (.cells #[.int .i64 x.low,.int .i64 x.high,.string x.of] 213 (0,0)):=by rw [← hW];exact Qqy
   have hIn:V6 W (.slice (some ⟨w.heap.size+1,0,none⟩) 2 2) [x.low,x.high]:=by rw [← hW];exact Pu (by simp only [World.size_alloc]) _ _ _
   clear hW
   refine Z1 (QO (h.ext (e.trans eW)) n hi _ _ hIn) (λ w1 e1 h0=>?_) (λ w1 e1 h0=>?_)
   · rw [h0,Xg] at hI
     have er1:=eW.trans e1
     simp (disch:=try exact DI) only [↓PR,QR,simprocAttr,↓Da,↓Db,↓Dc,↓Bi,↓Bj,↓Bk,↓JO,↓Bl,↓yJ,↓zx,↓xQ,↓zy,↓zz,(Za (e1.obj o9)).1]
     refine Z1 (xY (h.ext (e.trans er1)) x.of) (λ w2 e2 h0=>?_) (λ w2 e2 h0=>?_)
     · rw [h0,Xg] at hI
       simp (disch:=try exact DI) only [↓PR,QR,simprocAttr,↓Da,↓Db,↓Dc,↓Bi,↓Bj,↓Bk,↓JO,↓Bl,↓yJ,↓zx,↓xQ,↓zy,↓zz,(Za ((e1.trans e2).obj o9)).1]
       exact ⟨⟨k+1,_,rfl,rfl,by omega,ee,hI⟩,ZQ (kd := .i64) Ym⟩
     · rw [Q2 h0] at hI
       exact Yq (e00.trans (e.trans (er1.trans e2))) hI.symm h0
   · rw [Q2 h0] at hI
     exact Yq (e00.trans (e.trans (eW.trans e1))) hI.symm h0
 · subst hk
   simp (disch:=try exact DI) only [↓PR,QR,simprocAttr,↓Da,↓Db,↓Dc,↓Bi,↓Bj,↓Bk,↓JO,↓Bl,↓yJ,↓zx,↓xQ,↓zy,↓zz,ZK]
   rw [hd] at hI
   exact Xu (e00.trans e) hI.symm
def Nt {a0:Wd} (e00:Ext a0 w0) (h:Chk w0 cb md ms deps strs at_ fld fs) (i:Nat) (hi:fld=i) (Ym:i < fs.length) (pf p4:Nat) (f:Zt) (tv cv:Vl) (lo hi':Int) (b:Bool) (hC:Yu w0 cv f.cases) (o3:w0.heap[pf]?=some (.cells (Zq f tv cv).toArray 123 (0,0))) (o4:w0.heap[p4]?=some (.cells #[.int .i64 lo,.int .i64 hi'] 300 (0,0)))
 (hb:b=(YC (Xo (fs.take i)) f.tag).isSome) (hlo:b=true→lo=((YC (Xo (fs.take i)) f.tag).getD (0,0)).1∧hi'=((YC (Xo (fs.take i)) f.tag).getD (0,0)).2) :
 JO (Qq4 cb) (Qq4 pf) (Qq4 p4) (.bool b) (QG a0 at_ fld (Vc (fs.take i) deps f)) w0:=by
 unfold JO
 refine Zs (Vt h i hi Ym) ?_
 rintro bv w1 ⟨hB,e1⟩
 refine Qqk ?_
 refine Zs (Kb _ _ _ _ _ (Wr f.tag) hB Zkx ?_) ?_
 · intro w v o _ e hv
   exact Fw w v o f pf tv cv hv ((e1.trans e).obj o3)
 rintro _ w2 ⟨rfl,e2⟩
 have e12:=e1.trans e2
 simp (disch:=try exact DI) only [↓PR,QR,simprocAttr,↓Bk]
 unfold Vc
 refine Z1 (YP (h.ext e12) _ 8 K7) (λ w3 e3 h0=>?_) (λ w3 e3 h0=>?_)
 · rw [← hb,h0,Xg]
   have hbt:b=true:=by
    cases b with
    | true=>rfl
    | false=>exact absurd h0 (by simp [Yn])
   obtain ⟨h1,h2⟩:=hlo hbt
   rw [← h1,← h2]
   have e13:=e12.trans e3
   obtain ⟨A,c,rfl,_⟩:=Ze.open hC
   simp (disch:=try exact DI) only [↓PR,QR,simprocAttr,↓Bj,(Za (e13.obj o3)).1]
   refine Z1 (YP (h.ext e13) _ 3 K7) (λ w4 e4 h0=>?_) (λ w4 e4 h0=>?_)
   · rw [h0,Xg]
     have e14:=e13.trans e4
     exact H9 (e00.trans e14) (h.ext e14) pf p4 f tv _ lo hi' (Yu.ext hC e14) (e14.obj o3) (e14.obj o4)
   · rw [Q2 h0]
     exact Yq (e00.trans (e13.trans e4)) rfl h0
 · rw [← hb,Q2 h0]
   exact Yq (e00.trans (e12.trans e3)) rfl h0
def Ns (h:Chk w0 cb md ms deps strs at_ fld fs) (i:Nat) (hi:fld=i) (Ym:i < fs.length) (v:Vl) (f:Zt) (hf:Z0 w0 v f):Calls Pg 232 #[Qq4 cb,v] w0 (QG w0 at_ fld (Vc (fs.take i) deps f)):=by
 obtain ⟨tv,cv,rfl,hT,hC,ht1,hc1⟩:=hf.op
 refine Zl4 ?_;unfold n93
 refine Qqk ?_
 generalize hW:World.alloc w0 _=W
 have e0:Ext w0 W:=by rw [← hW];exact ee
 have o3:W.heap[w0.heap.size]?=some (.cells (Zq f tv cv).toArray 123 (0,0)):=by rw [← hW];exact Qqy
 clear hW
 refine ZB ?_
 simp (disch:=try exact DI) only [↓PR,QR,simprocAttr,↓zz,(Za o3).1]
 have key:∀ w' p4 b lo hi',Ext W w'→w'.heap[p4]?=some (.cells #[.int .i64 lo,.int .i64 hi'] 300 (0,0))→b=(YC (Xo (fs.take i)) f.tag).isSome→(b=true→lo=((YC (Xo (fs.take i)) f.tag).getD (0,0)).1∧hi'=((YC (Xo (fs.take i)) f.tag).getD (0,0)).2) →
  JO (Qq4 cb) (Qq4 w0.heap.size) (Qq4 p4) (.bool b) (QG w0 at_ fld (Vc (fs.take i) deps f)) w':=by
  intro w' p4 b lo hi' e o4 hb hlo
  exact Nt (e0.trans e) (h.ext (e0.trans e)) i hi Ym _ p4 f tv cv lo hi' b (Yu.ext hC (e0.trans e)) (e.obj o3) o4 hb hlo
 have eD:Ext W W.drew:=(Ext.refl W).wdrew
 have fin9:∀ (w2:Wd) (m p4:Nat) (u0 u1:Vl),Ext W.drew w2→Y9 w2 m (RP (Xo (fs.take i)))→w2.heap[p4]?=some (.cells #[u0,u1] 300 (0,0))→W.heap.size≤p4 →
  yJ (Qq4 p4) (.map (some m)) (.string f.tag) (KL W.drew m (RP (Xo (fs.take i)))) (λ t4 t5 w=>JO (Qq4 cb) (Qq4 w0.heap.size) t4 t5 (QG w0 at_ fld (Vc (fs.take i) deps f)) w) (QG w0 at_ fld (Vc (fs.take i) deps f)) w2:=by
  intro w2 m p4 u0 u1 e2 hM o4 hp4
  haveI:Xb (KL W.drew m (RP (Xo (fs.take i)))):=⟨⟨w2,e2,hM⟩⟩
  unfold yJ
  rw [J3 underlying296 underlying9 UK ⟨w2,e2,hM⟩,Wl]
  have hfin:∀ lo hi' b,b=(YC (Xo (fs.take i)) f.tag).isSome→(b=true→lo=((YC (Xo (fs.take i)) f.tag).getD (0,0)).1∧hi'=((YC (Xo (fs.take i)) f.tag).getD (0,0)).2) →
   KL W.drew m (RP (Xo (fs.take i))) ((w2.setCell ⟨p4,0,none⟩ (.int .i64 lo)).setCell ⟨p4,1,none⟩ (.int .i64 hi'))∧JO (Qq4 cb) (Qq4 w0.heap.size) (Qq4 p4) (.bool b) (QG w0 at_ fld (Vc (fs.take i) deps f)) ((w2.setCell ⟨p4,0,none⟩ (.int .i64 lo)).setCell ⟨p4,1,none⟩ (.int .i64 hi')):=by
   intro lo hi' b hb hlo
   have e3:Ext W.drew ((w2.setCell ⟨p4,0,none⟩ (.int .i64 lo)).setCell ⟨p4,1,none⟩ (.int .i64 hi')):=(e2.setCell (show W.drew.heap.size≤(⟨p4,0,none⟩:Addr).block from hp4) _).setCell (show W.drew.heap.size≤(⟨p4,1,none⟩:Addr).block from hp4) _
   refine ⟨⟨e3,(hM.setCell _ _).setCell _ _⟩,key _ p4 b lo hi' (eD.trans e3) ?_ hb hlo⟩
   have:=Zy (o:=1) (Zy (o:=0) o4 (.int .i64 lo)) (.int .i64 hi')
   simpa using this
  cases hl:YC (Xo (fs.take i)) f.tag with
  | none=>
   rw [hl] at hfin
   simp (disch:=try exact DI) only [↓PR,QR,simprocAttr,Option.map_none,(Za o4).1,(Za o4).2]
   exact hfin 0 0 false rfl (by simp)
  | some q=>
   obtain ⟨lo,hi'⟩:=q
   rw [hl] at hfin
   simp (disch:=try exact DI) only [↓PR,QR,simprocAttr,(Za o4).1,(Za o4).2,YD]
   exact hfin lo hi' true rfl (λ _=>⟨rfl,rfl⟩)
 refine ⟨?_,?_⟩
 · refine Zs (Vt (h.ext (e0.trans eD)) i hi Ym) ?_
   rintro bv w1 ⟨hB,e1⟩
   refine Kv e1 ?_
   unfold zx
   refine ⟨?_,?_⟩
   · refine Zs (KC _ _ _ hB) ?_
     rintro _ w2 ⟨m,rfl,_,hM,e2⟩
     rw [UA] at hM
     refine zB (e1.trans e2) hM ?_
     unfold Bl
     simp only [Kj]
     haveI:Xb (KL W.drew m (RP (Xo (fs.take i)))):=⟨⟨w2,e1.trans e2,hM⟩⟩
     rw [J3 underlying296 underlying9 UK ⟨w2,e1.trans e2,hM⟩]
     have h9:=fin9 (w2.alloc (.cells #[.int .i64 0,.int .i64 0] 300)) m w2.heap.size _ _ ((e1.trans e2).alloc _) (hM.ext ((Ext.refl _).alloc _)) (Zv _ _ _) (by have:=(e1.trans e2).size;simpa using this)
     unfold yJ at h9
     rw [J3 underlying296 underlying9 UK ⟨w2,e1.trans e2,hM⟩] at h9
     refine Qqk ?_
     refine ⟨⟨(e1.trans e2).alloc _,hM.ext ((Ext.refl _).alloc _)⟩,?_⟩
     simp only [↓Sw.GENQ] at h9
     exact h9
   · refine Qqk ?_
     refine ⟨e1.alloc _,?_⟩
     refine Zs (KC _ _ _ (YX.ext hB ((Ext.refl _).alloc _))) ?_
     rintro _ w2 ⟨m,rfl,_,hM,e2⟩
     rw [UA] at hM
     have s1:=e1.size
     simp only [World.size_drew] at s1
     refine zB ((e1.alloc _).trans e2) hM ?_
     exact fin9 w2 m w1.heap.size _ _ ((e1.alloc _).trans e2) hM (e2.obj (Zv _ _ _)) s1
 · refine ⟨(Ext.refl _).alloc _,?_⟩
   unfold zy
   refine Zs (Vt (h.ext ((e0.trans eD).alloc _)) i hi Ym) ?_
   rintro bv w1 ⟨hB,e1⟩
   refine Kv (((Ext.refl _).alloc _).trans e1) ?_
   refine Zs (KC _ _ _ hB) ?_
   rintro _ w2 ⟨m,rfl,_,hM,e2⟩
   rw [UA] at hM
   refine zB (((Ext.refl _).alloc _).trans (e1.trans e2)) hM ?_
   exact fin9 w2 m W.heap.size _ _ (((Ext.refl _).alloc _).trans (e1.trans e2)) hM ((e1.trans e2).obj (Zv W.drew _ _)) (Nat.le_refl _)
end
section
variable {w0:Wd} {cb md ms:Nat} {deps strs:List (BAr×Vl)} {at_ fld:Int} {fs:List Zt}
def KU (f:Zt):Int:=2 ^ f.bits.toNat - 1
def HM {f:Zt} (h:XO f=true):0≤f.bits∧f.bits≤64∧IntKind.i64.wrap (IntKind.i64.wrap (1*2 ^ f.bits.toNat) - 1)=KU f:=by
 unfold XO at h
 simp only [Bool.and_eq_true,decide_eq_true_eq] at h
 obtain ⟨⟨h1,h2⟩,_⟩:=h
 have hc:(2:Int) ^ f.bits.toNat=((2 ^ f.bits.toNat:Nat):Int):=by simp
 have hp1:2 ^ f.bits.toNat≤2 ^ 32:=Nat.pow_le_pow_right K7 K9
 have hp:(2:Int) ^ f.bits.toNat≤4294967296:=by rw [hc];omega
 have hp0:(0:Int) < 2 ^ f.bits.toNat:=Int.pow_pos K7
 refine ⟨by omega,by omega,?_⟩
 unfold KU
 rw [Int.one_mul,show IntKind.i64.wrap (2 ^ f.bits.toNat)=2 ^ f.bits.toNat from YF K9 K9,YF K9 K9]
def QK {b:Bool} {c:Int} (hc:c≠0) (h:Yn b c=0):b=true:=by
 cases b with
 | true=>rfl
 | false=>exact absurd h hc
def TW (h:Chk w0 cb md ms deps strs at_ fld fs) (v:Vl) (f:Zt) (hf:Z0 w0 v f):Calls Pg 213 #[Qq4 cb,v] w0 (QG w0 at_ fld (orC (Yn (XO f) 6) (Yf (KU f) 0 [f.low,f.high]))):=by
 obtain ⟨tv,cv,rfl,hT,hC,ht1,hc1⟩:=hf.op
 refine Zgo ?_;unfold Zgn
 refine Qqk ?_
 generalize hW:World.alloc w0 _=W
 have e0:Ext w0 W:=by rw [← hW];exact ee
 have o3:W.heap[w0.heap.size]?=some (.cells (Zq f tv cv).toArray 123 (0,0)):=by rw [← hW];exact Qqy
 clear hW
 refine Qqg (Za o3).1 ?_
 refine Z1 (Fu (h.ext e0) _ f ⟨tv,cv,rfl,Z8.ext hT e0,Yu.ext hC e0⟩) (λ w1 e1 h0=>?_) (λ w1 e1 h0=>?_)
 · rw [h0,Xg]
   obtain ⟨ha,hb,hw⟩:=HM (QK K7 h0)
   have e01:=e0.trans e1
   have l1:w0.heap.size < w1.heap.size:=(Qqq (e1.obj o3)).1
   refine ZB ?_
   simp (disch:=try exact DI) only [↓PR,QR,simprocAttr,↓PM,(Za (e1.obj o3)).1,hw]
   generalize hW:World.alloc (World.drew w1) _=W2
   have eD:Ext w1.drew W2:=by rw [← hW];exact ee
   have hIn:V6 W2 (.slice (some ⟨w1.heap.size,0,none⟩) 2 2) [f.low,f.high]:=by rw [← hW];exact Pu rfl _ _ _
   clear hW
   have eE:Ext w0 W2:=(e01.wdrew).trans eD
   refine ⟨eD,?_⟩
   refine Z1 (QO (h.ext eE) 0 (KU f) _ _ hIn) (λ w2 e2 h0=>?_) (λ w2 e2 h0=>?_)
   · exact ⟨eD.trans e2,Xu (eE.trans e2) h0⟩
   · exact Yq (eE.trans e2) rfl h0
 · rw [Q2 h0]
   exact Yq (e0.trans e1) rfl h0
def ND (h:Chk w0 cb md ms deps strs at_ fld fs) (v:Vl) (f:Zt) (hf:Z0 w0 v f):Calls Pg 217 #[Qq4 cb,v] w0 (QG w0 at_ fld (orC (Yn (XO f) 6) (Yf (KU f) 0 [f.low]))):=by
 obtain ⟨tv,cv,rfl,hT,hC,ht1,hc1⟩:=hf.op
 refine Zgy ?_;unfold Zgx
 refine Qqk ?_
 generalize hW:World.alloc w0 _=W
 have e0:Ext w0 W:=by rw [← hW];exact ee
 have o3:W.heap[w0.heap.size]?=some (.cells (Zq f tv cv).toArray 123 (0,0)):=by rw [← hW];exact Qqy
 clear hW
 refine Qqg (Za o3).1 ?_
 refine Z1 (Fu (h.ext e0) _ f ⟨tv,cv,rfl,Z8.ext hT e0,Yu.ext hC e0⟩) (λ w1 e1 h0=>?_) (λ w1 e1 h0=>?_)
 · rw [h0,Xg]
   obtain ⟨ha,hb,hw⟩:=HM (QK K7 h0)
   have e01:=e0.trans e1
   have l1:w0.heap.size < w1.heap.size:=(Qqq (e1.obj o3)).1
   refine ZB ?_
   simp (disch:=try exact DI) only [↓PR,QR,simprocAttr,↓PO,(Za (e1.obj o3)).1,hw]
   generalize hW:World.alloc (World.drew w1) _=W2
   have eD:Ext w1.drew W2:=by rw [← hW];exact ee
   have hIn:V6 W2 (.slice (some ⟨w1.heap.size,0,none⟩) 1 1) [f.low]:=by rw [← hW];exact CF rfl _ _
   clear hW
   have eE:Ext w0 W2:=(e01.wdrew).trans eD
   refine ⟨eD,?_⟩
   refine Z1 (QO (h.ext eE) 0 (KU f) _ _ hIn) (λ w2 e2 h0=>?_) (λ w2 e2 h0=>?_)
   · exact ⟨eD.trans e2,Xu (eE.trans e2) h0⟩
   · exact Yq (eE.trans e2) rfl h0
 · rw [Q2 h0]
   exact Yq (e0.trans e1) rfl h0
def Mb (h:Chk w0 cb md ms deps strs at_ fld fs) (v:Vl) (f:Zt) (hf:Z0 w0 v f):Calls Pg 219 #[Qq4 cb,v] w0 (QG w0 at_ fld (Yf 34359738367 0 [f.low,f.high])):=by
 obtain ⟨tv,cv,rfl,hT,hC,ht1,hc1⟩:=hf.op
 refine ZgC ?_;unfold ZgB
 refine Qqk ?_
 generalize hW:World.alloc (World.alloc w0 _) _=W
 have e0:Ext w0 W:=by rw [← hW];exact ee
 have o3:W.heap[w0.heap.size]?=some (.cells (Zq f tv cv).toArray 123 (0,0)):=by rw [← hW];exact Qqy
 have hIn:V6 W (.slice (some ⟨w0.heap.size+1,0,none⟩) 2 2) [f.low,f.high]:=by rw [← hW];exact Pu (by simp only [World.size_alloc]) _ _ _
 clear hW
 refine Z1 (QO (h.ext e0) 0 34359738367 _ _ hIn) (λ w1 e1 h0=>?_) (λ w1 e1 h0=>?_)
 · exact Xu (e0.trans e1) h0
 · exact Yq (e0.trans e1) rfl h0
def FL (h:Chk w0 cb md ms deps strs at_ fld fs) (v:Vl) (f:Zt) (hf:Z0 w0 v f):Calls Pg 225 #[Qq4 cb,v] w0 (QG w0 at_ fld (Yf 1048576 2 [f.high])):=by
 obtain ⟨tv,cv,rfl,hT,hC,ht1,hc1⟩:=hf.op
 refine Zf6 ?_;unfold Zf5
 refine Qqk ?_
 generalize hW:World.alloc (World.alloc w0 _) _=W
 have e0:Ext w0 W:=by rw [← hW];exact ee
 have o3:W.heap[w0.heap.size]?=some (.cells (Zq f tv cv).toArray 123 (0,0)):=by rw [← hW];exact Qqy
 have hIn:V6 W (.slice (some ⟨w0.heap.size+1,0,none⟩) 1 1) [f.high]:=by rw [← hW];exact CF (by simp only [World.size_alloc]) _ _
 clear hW
 refine Z1 (QO (h.ext e0) 2 1048576 _ _ hIn) (λ w1 e1 h0=>?_) (λ w1 e1 h0=>?_)
 · exact Xu (e0.trans e1) h0
 · exact Yq (e0.trans e1) rfl h0
def Oz (h:Chk w0 cb md ms deps strs at_ fld fs) (v:Vl) (f:Zt) (hf:Z0 w0 v f):Calls Pg 223 #[Qq4 cb,v] w0 (QG w0 at_ fld (orC (Yf 255 0 [f.low]) (Yf 1048576 0 [f.high]))):=by
 obtain ⟨tv,cv,rfl,hT,hC,ht1,hc1⟩:=hf.op
 refine ZgI ?_;unfold ZgH
 refine Qqk ?_
 generalize hW:World.alloc (World.alloc w0 _) _=W
 have e0:Ext w0 W:=by rw [← hW];exact ee
 have o3:W.heap[w0.heap.size]?=some (.cells (Zq f tv cv).toArray 123 (0,0)):=by rw [← hW];exact Qqy
 have hIn:V6 W (.slice (some ⟨w0.heap.size+1,0,none⟩) 1 1) [f.low]:=by rw [← hW];exact CF (by simp only [World.size_alloc]) _ _
 clear hW
 refine Z1 (QO (h.ext e0) 0 255 _ _ hIn) (λ w1 e1 h0=>?_) (λ w1 e1 h0=>?_)
 · rw [h0,Xg]
   have e01:=e0.trans e1
   simp (disch:=try exact DI) only [↓PR,QR,simprocAttr,↓PP,(Za (e1.obj o3)).1]
   refine Z1 (QO ((h.ext e01).ext ((Ext.refl _).alloc _)) 0 1048576 _ _ (CF rfl _ _)) (λ w2 e2 h0=>?_) (λ w2 e2 h0=>?_)
   · exact Xu ((e01.alloc _).trans e2) h0
   · exact Yq ((e01.alloc _).trans e2) rfl h0
 · rw [Q2 h0]
   exact Yq (e0.trans e1) rfl h0
def FW (h:Chk w0 cb md ms deps strs at_ fld fs) (v:Vl) (f:Zt) (hf:Z0 w0 v f):Calls Pg 230 #[Qq4 cb,v] w0 (QG w0 at_ fld (Yn (Yy deps f.of).isSome 8)):=by
 obtain ⟨tv,cv,rfl,hT,hC,ht1,hc1⟩:=hf.op
 refine Zge ?_;unfold Zgd
 refine Qqk ?_
 generalize hW:World.alloc w0 _=W
 have e0:Ext w0 W:=by rw [← hW];exact ee
 have o3:W.heap[w0.heap.size]?=some (.cells (Zq f tv cv).toArray 123 (0,0)):=by rw [← hW];exact Qqy
 clear hW
 refine Qqg (Za o3).1 ?_
 refine Z1 (xY (h.ext e0) f.of) (λ w1 e1 h0=>?_) (λ w1 e1 h0=>?_)
 · exact Xu (e0.trans e1) h0
 · exact Yq (e0.trans e1) rfl h0
def PC (h:Chk w0 cb md ms deps strs at_ fld fs) (i:Nat) (hi:fld=i) (Ym:i < fs.length) (v:Vl) (f:Zt) (hf:Z0 w0 v f):Calls Pg 227 #[Qq4 cb,v] w0 (QG w0 at_ fld (orC (Yn (Yy deps f.of).isSome 8) (Wg (Xo (fs.take i)) f))):=by
 obtain ⟨tv,cv,rfl,hT,hC,ht1,hc1⟩:=hf.op
 refine Zga ?_;unfold Zf9
 refine Qqk ?_
 generalize hW:World.alloc w0 _=W
 have e0:Ext w0 W:=by rw [← hW];exact ee
 have o3:W.heap[w0.heap.size]?=some (.cells (Zq f tv cv).toArray 123 (0,0)):=by rw [← hW];exact Qqy
 clear hW
 refine Qqg (Za o3).1 ?_
 refine Z1 (xY (h.ext e0) f.of) (λ w1 e1 h0=>?_) (λ w1 e1 h0=>?_)
 · rw [h0,Xg]
   have e01:=e0.trans e1
   refine Qqg (Za (e1.obj o3)).1 ?_
   refine Z1 (qc (h.ext e01) i hi Ym _ f ⟨tv,cv,rfl,Z8.ext hT e01,Yu.ext hC e01⟩) (λ w2 e2 h0=>?_) (λ w2 e2 h0=>?_)
   · exact Xu (e01.trans e2) h0
   · exact Yq (e01.trans e2) rfl h0
 · rw [Q2 h0]
   exact Yq (e0.trans e1) rfl h0
def TX (h:Chk w0 cb md ms deps strs at_ fld fs) (i:Nat) (hi:fld=i) (Ym:i < fs.length) (v:Vl) (f:Zt) (hf:Z0 w0 v f):Calls Pg 238 #[Qq4 cb,v] w0 (QG w0 at_ fld (orC (Yf 4294967295 0 [f.key]) (orC (Yn (Fc strs f.of) 8) (Wg (Xo (fs.take i)) f)))):=by
 obtain ⟨tv,cv,rfl,hT,hC,ht1,hc1⟩:=hf.op
 refine Zgu ?_;unfold Zgt
 refine Qqk ?_
 generalize hW:World.alloc (World.alloc w0 _) _=W
 have e0:Ext w0 W:=by rw [← hW];exact ee
 have o3:W.heap[w0.heap.size]?=some (.cells (Zq f tv cv).toArray 123 (0,0)):=by rw [← hW];exact Qqy
 have hIn:V6 W (.slice (some ⟨w0.heap.size+1,0,none⟩) 1 1) [f.key]:=by rw [← hW];exact CF (by simp only [World.size_alloc]) _ _
 clear hW
 refine Z1 (QO (h.ext e0) 0 4294967295 _ _ hIn) (λ w1 e1 h0=>?_) (λ w1 e1 h0=>?_)
 · rw [h0,Xg]
   have e01:=e0.trans e1
   have h1:=h.ext e01.wdrew
   obtain ⟨⟨dn,mv,ds,mn,fv,k1,k2⟩,k3,k4,k5,k6⟩:=id h1
   refine ZB ?_
   simp (disch:=try exact DI) only [↓PR,QR,simprocAttr,↓PN,(Za (e1.obj o3)).1,(Za k1).1]
   have k1':=(Za k1).1
   simp only [World.cell?] at k1'
   rw [jc underlying199 underlying9 ty4 k4]
   rw [h1.strV f.of]
   refine Z1 (YP h1 _ 8 K7) (λ w2 e2 h0=>?_) (λ w2 e2 h0=>?_)
   · rw [h0,Xg]
     refine ⟨e2,?_⟩
     have e02:=(e01.wdrew).trans e2
     have e12:Ext W w2:=(e1.wdrew).trans e2
     refine Qqg (Za (e12.obj o3)).1 ?_
     refine Z1 (qc (h.ext e02) i hi Ym _ f ⟨tv,cv,rfl,Z8.ext hT e02,Yu.ext hC e02⟩) (λ w3 e3 h0=>?_) (λ w3 e3 h0=>?_)
     · exact Xu (e02.trans e3) h0
     · exact Yq (e02.trans e3) rfl h0
   · rw [Q2 h0]
     exact Yq (e01.wdrew.trans e2) rfl h0
 · rw [Q2 h0]
   exact Yq (e0.trans e1) rfl h0
def NA (h:Chk w0 cb md ms deps strs at_ fld fs) (i:Nat) (hi:fld=i) (Ym:i < fs.length) (v:Vl) (f:Zt) (hf:Z0 w0 v f):Calls Pg 236 #[Qq4 cb,v] w0 (QG w0 at_ fld (orC (Yf 3 1 [f.check]) (Yn ((fs.take i).any λ o=>decide (o.name=f.fr)) 8))):=by
 obtain ⟨tv,cv,rfl,hT,hC,ht1,hc1⟩:=hf.op
 refine Zgq ?_;unfold Zgp
 refine Qqk ?_
 generalize hW:World.alloc (World.alloc w0 _) _=W
 have e0:Ext w0 W:=by rw [← hW];exact ee
 have o3:W.heap[w0.heap.size]?=some (.cells (Zq f tv cv).toArray 123 (0,0)):=by rw [← hW];exact Qqy
 have hIn:V6 W (.slice (some ⟨w0.heap.size+1,0,none⟩) 1 1) [f.check]:=by rw [← hW];exact CF (by simp only [World.size_alloc]) _ _
 clear hW
 refine Z1 (QO (h.ext e0) 1 3 _ _ hIn) (λ w1 e1 h0=>?_) (λ w1 e1 h0=>?_)
 · rw [h0,Xg]
   have e01:=e0.trans e1
   refine ZB ?_
   simp (disch:=try exact DI) only [↓PR,QR,simprocAttr,↓Ec,↓Ed,(Za (e1.obj o3)).1]
   refine Zs (Vt (h.ext e01.wdrew) i hi Ym) ?_
   rintro bv w2 ⟨hB,e2⟩
   refine ⟨e2,?_⟩
   have hb1:=Ze.oneCell hB
   simp (disch:=try exact DI) only [↓PR,QR,simprocAttr,↓Ec,↓Ed]
   refine zcr (xh w2 _ ⟨ByteArray.empty,fs.take i⟩ f.fr ⟨bv,rfl,hB⟩) λ w3 e3=>?_
   refine ⟨e2.trans e3,?_⟩
   simp (disch:=try exact DI) only [↓PR,QR,simprocAttr,↓Ec,↓Ed]
   have e03:=(e01.wdrew).trans (e2.trans e3)
   refine Z1 (YP (h.ext e03) _ 8 K7) (λ w4 e4 h0=>?_) (λ w4 e4 h0=>?_)
   · exact Xu (e03.trans e4) h0
   · exact Yq (e03.trans e4) rfl h0
 · rw [Q2 h0]
   exact Yq (e0.trans e1) rfl h0
def Cb (f:Zt):Bool:=(f.bits == 2)||(f.bits == 4)||(decide (8≤f.bits)&&decide (f.bits≤512)&&(f.bits.tmod 8 == 0))
def Za2 (h:Chk w0 cb md ms deps strs at_ fld fs) (v:Vl) (f:Zt) (hf:Z0 w0 v f):Calls Pg 234 #[Qq4 cb,v] w0 (QG w0 at_ fld (Yn (Cb f) 6)):=by
 obtain ⟨tv,cv,rfl,hT,hC,ht1,hc1⟩:=hf.op
 refine Zgk ?_;unfold Zgj
 simp (disch:=try exact DI) only [↓PR,QR,simprocAttr,↓Iv,↓Iw,↓Iy,↓Iz]
 have e0:Ext w0 (w0.alloc (Obj.cells (Zq f tv cv).toArray 123)):=ee
 have fin:∀ b,b=Cb f→Yb Pg 135 #[Qq4 cb,.bool b,.int .i64 6] (Zj (QG w0 at_ fld (Yn (Cb f) 6))) (w0.alloc (Obj.cells (Zq f tv cv).toArray 123)) (λ _ w=>QG w0 at_ fld (Yn (Cb f) 6) (.returned (.tuple #[])) w):=by
  rintro b rfl
  exact Z1 (YP (h.ext e0) _ 6 K7) (λ w' e1 h0=>Xu (e0.trans e1) h0) (λ w' e1 h0=>Yq (e0.trans e1) rfl h0)
 unfold Cb at fin ⊢
 generalize (f.bits == 2)=b1 at fin ⊢
 generalize (f.bits == 4)=b2 at fin ⊢
 generalize decide (8≤f.bits)=b3 at fin ⊢
 generalize decide (f.bits≤512)=b4 at fin ⊢
 cases b1<;>cases b2<;>cases b3<;>cases b4<;>simp (disch:=try exact DI) only [↓PR,QR,simprocAttr,↓Iv,↓Iw,↓Iy,↓Iz]<;>first | exact fin _ rfl | exact fin _ (by simp)
end
def Zaz (x y:Ye):(decide (x.field=y.field)&&decide (x.factor=y.factor))=decide (x=y):=by
 cases x;cases y
 rw [Bool.eq_iff_iff]
 simp
def jJ (w0:Wd) (v u:Vl) (l m:List Ye) (hl:Z8 w0 v l) (hm:Z8 w0 u m) :
 Ret Pg 240 #[v,u] w0 λ r w'=>r = .bool (decide (l=m))∧Ext w0 w':=by
 obtain ⟨A,c,rfl,hlc,hcm,hlm,YS⟩:=Ze.open hl
 obtain ⟨A',c',rfl,hlc',hcm',hlm',hel'⟩:=Ze.open hm
 refine ZhM (R:=ZR _) ?_;unfold ZhL
 refine Qqk ?_
 by_cases YH:l.length=m.length
 · have Y3:((l.length:Int) != (m.length:Int))=false:=by simp [YH]
   simp (disch:=try exact DI) only [↓PR,QR,simprocAttr,↓JE,↓JF,Y3]
   refine ZE (λ a0 w=>∃ (k:Nat) , a0 = .int .i64 (k:Int)∧k≤l.length∧Ext w0 w∧l.take k=m.take k) (λ a0 _=>l.length - (intOf a0).toNat) ⟨0,rfl,Nat.zero_le _,ee,rfl⟩ ?_
   rintro _ w ⟨k,rfl,hk,e,hI⟩
   have se:=e.size
   rcases ZH hk with ⟨x,hx,hd,Ym,ZK⟩ | ⟨hk,hd,ZK⟩
   · obtain ⟨b,o,cs,rfl,_,hA,rfl⟩:=YS k x hx
     obtain ⟨y,hy⟩:=getElem?_lt (l:=m) (k:=k) K9
     obtain ⟨b',o',cs',rfl,_,hA',rfl⟩:=hel' k y hy
     have hlt':k < m.length:=K9
     have eD:Ext w0 w.drew:=e.wdrew
     simp (disch:=try exact DI) only [↓PR,QR,simprocAttr,↓JE,↓JF,ZK]
     refine ZB ?_
     simp (disch:=try exact DI) only [↓PR,QR,simprocAttr,↓JE,↓JF,hA.c2,hA'.c2]
     rw [Zaz]
     by_cases hxy:x=y
     · subst hxy
       simp only [decide_true,Bool.not_true]
       simp (disch:=try exact DI) only [↓PR,QR,simprocAttr,↓JE,↓JF]
       exact ⟨⟨k+1,rfl,by omega,ee,by rw [List.take_add_one,List.take_add_one,hx,hy,hI]⟩,ZQ (kd := .i64) Ym⟩
     · simp only [hxy,decide_false,Bool.not_false]
       simp (disch:=try exact DI) only [↓PR,QR,simprocAttr,↓JE,↓JF]
       refine ⟨?_,eD⟩
       have hne':¬ l=m:=by
        rintro rfl
        rw [hx] at hy
        injection hy with hy
        exact hxy hy
       simp [hne']
   · subst hk
     simp (disch:=try exact DI) only [↓PR,QR,simprocAttr,↓JE,↓JF,ZK]
     rw [List.take_length,YH,List.take_length] at hI
     exact ⟨by simp [hI],e⟩
 · have Y3:((l.length:Int) != (m.length:Int))=true:=by simp;omega
   simp (disch:=try exact DI) only [↓PR,QR,simprocAttr,↓JE,↓JF,Y3]
   have hne':¬ l=m:=λ h=>YH (by rw [h])
   exact ⟨by simp [hne'],Ext.refl _⟩
def Zay (x y:zK):(decide (x.low=y.low)&&(decide (x.high=y.high)&&decide (x.of=y.of)))=decide (x=y):=by
 cases x;cases y
 rw [Bool.eq_iff_iff]
 simp
def jI (w0:Wd) (v u:Vl) (l m:List zK) (hl:Yu w0 v l) (hm:Yu w0 u m) :
 Ret Pg 241 #[v,u] w0 λ r w'=>r = .bool (decide (l=m))∧Ext w0 w':=by
 obtain ⟨A,c,rfl,hlc,hcm,hlm,YS⟩:=Ze.open hl
 obtain ⟨A',c',rfl,hlc',hcm',hlm',hel'⟩:=Ze.open hm
 refine ZhI (R:=ZR _) ?_;unfold ZhH
 refine Qqk ?_
 by_cases YH:l.length=m.length
 · have Y3:((l.length:Int) != (m.length:Int))=false:=by simp [YH]
   simp (disch:=try exact DI) only [↓PR,QR,simprocAttr,↓JA,↓JB,Y3]
   refine ZE (λ a0 w=>∃ (k:Nat) , a0 = .int .i64 (k:Int)∧k≤l.length∧Ext w0 w∧l.take k=m.take k) (λ a0 _=>l.length - (intOf a0).toNat) ⟨0,rfl,Nat.zero_le _,ee,rfl⟩ ?_
   rintro _ w ⟨k,rfl,hk,e,hI⟩
   have se:=e.size
   rcases ZH hk with ⟨x,hx,hd,Ym,ZK⟩ | ⟨hk,hd,ZK⟩
   · obtain ⟨b,o,cs,rfl,_,hA,rfl⟩:=YS k x hx
     obtain ⟨y,hy⟩:=getElem?_lt (l:=m) (k:=k) K9
     obtain ⟨b',o',cs',rfl,_,hA',rfl⟩:=hel' k y hy
     have hlt':k < m.length:=K9
     have eD:Ext w0 w.drew:=e.wdrew
     simp (disch:=try exact DI) only [↓PR,QR,simprocAttr,↓JA,↓JB,ZK]
     refine ZB ?_
     simp (disch:=try exact DI) only [↓PR,QR,simprocAttr,↓JA,↓JB,hA.c3,hA'.c3]
     rw [Zay]
     by_cases hxy:x=y
     · subst hxy
       simp only [decide_true,Bool.not_true]
       simp (disch:=try exact DI) only [↓PR,QR,simprocAttr,↓JA,↓JB]
       exact ⟨⟨k+1,rfl,by omega,ee,by rw [List.take_add_one,List.take_add_one,hx,hy,hI]⟩,ZQ (kd := .i64) Ym⟩
     · simp only [hxy,decide_false,Bool.not_false]
       simp (disch:=try exact DI) only [↓PR,QR,simprocAttr,↓JA,↓JB]
       refine ⟨?_,eD⟩
       have hne':¬ l=m:=by
        rintro rfl
        rw [hx] at hy
        injection hy with hy
        exact hxy hy
       simp [hne']
   · subst hk
     simp (disch:=try exact DI) only [↓PR,QR,simprocAttr,↓JA,↓JB,ZK]
     rw [List.take_length,YH,List.take_length] at hI
     exact ⟨by simp [hI],e⟩
 · have Y3:((l.length:Int) != (m.length:Int))=true:=by simp;omega
   simp (disch:=try exact DI) only [↓PR,QR,simprocAttr,↓JA,↓JB,Y3]
   have hne':¬ l=m:=λ h=>YH (by rw [h])
   exact ⟨by simp [hne'],Ext.refl _⟩
abbrev Tp (f:Zt):Vl := .agg #[.string f.name,.string f.of,.string f.tag,.string f.fr,.int .i64 f.kind,.int .i64 f.bits,.int .i64 f.low,.int .i64 f.high,.int .i64 f.base,.int .i64 f.check,.int .i64 f.key,.bool f.little,.bool f.loose]
def Dj (w0:Wd) (v:Vl) (f:Zt) (hf:Z0 w0 v f):Ret Pg 239 #[v] w0 λ r w'=>r=Tp f∧Ext w0 w':=by
 obtain ⟨tv,cv,rfl,hT,hC,ht1,hc1⟩:=hf.op
 refine ZgK (R:=ZR _) ?_;unfold ZgJ
 refine Qqv ?_
 exact ⟨by first | trivial | rfl,ee⟩
def Ci (w0:Wd) (v u:Vl) (f g:Zt) (hf:Z0 w0 v f) (hg:Z0 w0 u g):Ret Pg 197 #[v,u] w0 λ r w'=>r = .bool (decide (f=g))∧Ext w0 w':=by
 obtain ⟨tv,cv,rfl,hT,hC,ht1,hc1⟩:=hf.op
 obtain ⟨tv',cv',rfl,hT',hC',ht1',hc1'⟩:=hg.op
 refine ZgO (R:=ZR _) ?_;unfold ZgN
 refine Qqk ?_
 generalize hW:World.alloc (World.alloc w0 _) _=W
 have e0:Ext w0 W:=by rw [← hW];exact ee
 have o3:W.heap[w0.heap.size]?=some (.cells (Zq f tv cv).toArray 123 (0,0)):=by rw [← hW];exact Qqy
 have o4:W.heap[w0.heap.size+1]?=some (.cells (Zq g tv' cv').toArray 123 (0,0)):=by rw [← hW];exact Qqy
 clear hW
 simp only [World.size_alloc]
 refine ZB ?_
 have eD:Ext w0 W.drew:=e0.wdrew
 simp (disch:=try exact DI) only [↓PR,QR,simprocAttr,↓Jw,↓Jy,↓Jz,(Za o3).1,(Za o4).1]
 refine zcr (Dj _ _ f ⟨tv,cv,rfl,Z8.ext hT eD,Yu.ext hC eD⟩) λ w1 e1=>?_
 refine ⟨e1,?_⟩
 have eD1:=eD.trans e1
 refine zcr (Dj _ _ g ⟨tv',cv',rfl,Z8.ext hT' eD1,Yu.ext hC' eD1⟩) λ w2 e2=>?_
 refine ⟨e1.trans e2,?_⟩
 simp (disch:=try exact DI) only [↓PR,QR,simprocAttr,↓Jw,↓Jy,↓Jz,(Za o3).1,(Za o4).1]
 have eW2:Ext W w2:=(Ext.refl W).wdrew.trans (e1.trans e2)
 generalize hb:(_&&_:Bool)=b1
 cases b1 with
 | false=>
  simp (disch:=try exact DI) only [↓PR,QR,simprocAttr,↓Jw,↓Jy,↓Jz]
  refine ⟨?_,e0.trans eW2⟩
  have Y3:¬ f=g:=by
   rintro rfl
   simp at hb
  simp [Y3]
 | true=>
  have hbt:=hb
  simp only [Bool.and_eq_true,decide_eq_true_eq] at hb
  obtain ⟨h1,h2,h3,h4,h5,h6,h7,h8,h9,h10,h11,h12,h13⟩:=hb
  simp (disch:=try exact DI) only [↓PR,QR,simprocAttr,↓Jw,↓Jy,↓Jz,(Za o3).1,(Za o4).1]
  refine zcr (jJ _ _ _ _ _ (Z8.ext hT (e0.trans eW2)) (Z8.ext hT' (e0.trans eW2))) λ w3 e3=>?_
  refine ⟨(e1.trans e2).trans e3,?_⟩
  have eW3:=eW2.trans e3
  by_cases ht:f.terms=g.terms
  · simp only [ht,decide_true]
    simp (disch:=try exact DI) only [↓PR,QR,simprocAttr,↓Jw,↓Jy,↓Jz,hbt,(Za o3).1,(Za o4).1]
    refine zcr (jI _ _ _ _ _ (Yu.ext hC (e0.trans eW3)) (Yu.ext hC' (e0.trans eW3))) λ w4 e4=>?_
    refine ⟨((e1.trans e2).trans e3).trans e4,?_⟩
    simp (disch:=try exact DI) only [↓PR,QR,simprocAttr,↓Jw,↓Jy,↓Jz]
    refine ⟨?_,e0.trans (eW3.trans e4)⟩
    congr 1
    rw [Bool.eq_iff_iff]
    simp only [decide_eq_true_eq]
    constructor
    · intro hc;cases f;cases g;simp_all
    · rintro rfl;rfl
  · simp only [ht,decide_false]
    simp (disch:=try exact DI) only [↓PR,QR,simprocAttr,↓Jw,↓Jy,↓Jz,hbt]
    refine ⟨?_,e0.trans eW3⟩
    have Y3:¬ f=g:=by rintro rfl;exact ht rfl
    simp [Y3]
def Vs (g:FuncId) (cl:Zt→Zt) (ct cc:Bool):Prop:=∀ (w:Wd) (p:Nat) (f:Zt) (tv cv:Vl),tv.oneCell'=true→cv.oneCell'=true→w.heap[p]?=some (.cells (Zq f tv cv).toArray 123 (0,0)) →
 Ret Pg g #[Qq4 p] w λ _ w'=>w'.heap[p]?=some (.cells (Zq (cl f) (if ct then .slice none 0 0 else tv) (if cc then .slice none 0 0 else cv)).toArray 123 (0,0))∧∀ a,Ext a w→a.heap.size≤p→Ext a w'
def j2 (f:Zt):Zt:={ f with bits:=0,little:=false,low:=0,high:=0 }
def Zah:Vs 212 j2 false false:=by
 intro w p f tv cv ht1 hc1 hp
 have Ym:=(Qqq hp).1
 refine Zf2 (R:=ZR _) ?_;unfold Zf1
 simp (disch:=try exact DI) only [↓PR,QR,simprocAttr,joinK_eq,(Za hp).1,(Za hp).2]
 refine ⟨?_,λ a e hp'=>?_⟩
 · simp only [Y5,hp,Option.map_some,Y8,List.setIfInBounds_toArray,List.set_cons_zero,List.set_cons_succ,Bool.false_eq_true,if_false,if_true]
   try rfl
 · exact ee
def j3 (f:Zt):Zt:={ f with bits:=0,little:=false,low:=0 }
def Zai:Vs 216 j3 false false:=by
 intro w p f tv cv ht1 hc1 hp
 have Ym:=(Qqq hp).1
 refine Zgw (R:=ZR _) ?_;unfold Zgv
 simp (disch:=try exact DI) only [↓PR,QR,simprocAttr,joinK_eq,(Za hp).1,(Za hp).2]
 refine ⟨?_,λ a e hp'=>?_⟩
 · simp only [Y5,hp,Option.map_some,Y8,List.setIfInBounds_toArray,List.set_cons_zero,List.set_cons_succ,Bool.false_eq_true,if_false,if_true]
   try rfl
 · exact ee
def j4 (f:Zt):Zt:={ f with loose:=false,low:=0,high:=0 }
def Zaj:Vs 218 j4 false false:=by
 intro w p f tv cv ht1 hc1 hp
 have Ym:=(Qqq hp).1
 refine ZgA (R:=ZR _) ?_;unfold Zgz
 simp (disch:=try exact DI) only [↓PR,QR,simprocAttr,joinK_eq,(Za hp).1,(Za hp).2]
 refine ⟨?_,λ a e hp'=>?_⟩
 · simp only [Y5,hp,Option.map_some,Y8,List.setIfInBounds_toArray,List.set_cons_zero,List.set_cons_succ,Bool.false_eq_true,if_false,if_true]
   try rfl
 · exact ee
def j5 (f:Zt):Zt:={ f with base:=0,terms:=[] }
def Zak:Vs 220 j5 true false:=by
 intro w p f tv cv ht1 hc1 hp
 have Ym:=(Qqq hp).1
 refine ZgE (R:=ZR _) ?_;unfold ZgD
 simp (disch:=try exact DI) only [↓PR,QR,simprocAttr,joinK_eq,(Za hp).1,(Za hp).2]
 refine ⟨?_,λ a e hp'=>?_⟩
 · simp only [Y5,hp,Option.map_some,Y8,List.setIfInBounds_toArray,List.set_cons_zero,List.set_cons_succ,Bool.false_eq_true,if_false,if_true]
   try rfl
 · exact ee
def j6 (f:Zt):Zt:={ f with low:=0,high:=0 }
def Zal:Vs 222 j6 false false:=by
 intro w p f tv cv ht1 hc1 hp
 have Ym:=(Qqq hp).1
 refine ZgG (R:=ZR _) ?_;unfold ZgF
 simp (disch:=try exact DI) only [↓PR,QR,simprocAttr,joinK_eq,(Za hp).1,(Za hp).2]
 refine ⟨?_,λ a e hp'=>?_⟩
 · simp only [Y5,hp,Option.map_some,Y8,List.setIfInBounds_toArray,List.set_cons_zero,List.set_cons_succ,Bool.false_eq_true,if_false,if_true]
   try rfl
 · exact ee
def j7 (f:Zt):Zt:={ f with loose:=false,high:=0 }
def Zam:Vs 224 j7 false false:=by
 intro w p f tv cv ht1 hc1 hp
 have Ym:=(Qqq hp).1
 refine Zf4 (R:=ZR _) ?_;unfold Zf3
 simp (disch:=try exact DI) only [↓PR,QR,simprocAttr,joinK_eq,(Za hp).1,(Za hp).2]
 refine ⟨?_,λ a e hp'=>?_⟩
 · simp only [Y5,hp,Option.map_some,Y8,List.setIfInBounds_toArray,List.set_cons_zero,List.set_cons_succ,Bool.false_eq_true,if_false,if_true]
   try rfl
 · exact ee
def j8 (f:Zt):Zt:={ f with of:=ByteArray.empty,base:=0,terms:=[] }
def Zan:Vs 226 j8 true false:=by
 intro w p f tv cv ht1 hc1 hp
 have Ym:=(Qqq hp).1
 refine Zf8 (R:=ZR _) ?_;unfold Zf7
 simp (disch:=try exact DI) only [↓PR,QR,simprocAttr,joinK_eq,(Za hp).1,(Za hp).2]
 refine ⟨?_,λ a e hp'=>?_⟩
 · simp only [Y5,hp,Option.map_some,Y8,List.setIfInBounds_toArray,List.set_cons_zero,List.set_cons_succ,Bool.false_eq_true,if_false,if_true]
   try rfl
 · exact ee
def j9 (f:Zt):Zt:={ f with of:=ByteArray.empty }
def Zao:Vs 229 j9 false false:=by
 intro w p f tv cv ht1 hc1 hp
 have Ym:=(Qqq hp).1
 refine Zgc (R:=ZR _) ?_;unfold Zgb
 simp (disch:=try exact DI) only [↓PR,QR,simprocAttr,joinK_eq,(Za hp).1,(Za hp).2]
 refine ⟨?_,λ a e hp'=>?_⟩
 · simp only [Y5,hp,Option.map_some,Y8,List.setIfInBounds_toArray,List.set_cons_zero,List.set_cons_succ,Bool.false_eq_true,if_false,if_true]
   try rfl
 · exact ee
def Aa (f:Zt):Zt:={ f with tag:=ByteArray.empty,cases:=[] }
def Zap:Vs 231 Aa false true:=by
 intro w p f tv cv ht1 hc1 hp
 have Ym:=(Qqq hp).1
 refine Zgg (R:=ZR _) ?_;unfold Zgf
 simp (disch:=try exact DI) only [↓PR,QR,simprocAttr,joinK_eq,(Za hp).1,(Za hp).2]
 refine ⟨?_,λ a e hp'=>?_⟩
 · simp only [Y5,hp,Option.map_some,Y8,List.setIfInBounds_toArray,List.set_cons_zero,List.set_cons_succ,Bool.false_eq_true,if_false,if_true]
   try rfl
 · exact ee
def zW (f:Zt):Zt:={ f with bits:=0 }
def O1:Vs 233 zW false false:=by
 intro w p f tv cv ht1 hc1 hp
 have Ym:=(Qqq hp).1
 refine Zgi (R:=ZR _) ?_;unfold Zgh
 simp (disch:=try exact DI) only [↓PR,QR,simprocAttr,joinK_eq,(Za hp).1,(Za hp).2]
 refine ⟨?_,λ a e hp'=>?_⟩
 · simp only [Y5,hp,Option.map_some,Y8,List.setIfInBounds_toArray,List.set_cons_zero,List.set_cons_succ,Bool.false_eq_true,if_false,if_true]
   try rfl
 · exact ee
def zX (f:Zt):Zt:={ f with fr:=ByteArray.empty,check:=0 }
def O2:Vs 235 zX false false:=by
 intro w p f tv cv ht1 hc1 hp
 have Ym:=(Qqq hp).1
 refine Zgm (R:=ZR _) ?_;unfold Zgl
 simp (disch:=try exact DI) only [↓PR,QR,simprocAttr,joinK_eq,(Za hp).1,(Za hp).2]
 refine ⟨?_,λ a e hp'=>?_⟩
 · simp only [Y5,hp,Option.map_some,Y8,List.setIfInBounds_toArray,List.set_cons_zero,List.set_cons_succ,Bool.false_eq_true,if_false,if_true]
   try rfl
 · exact ee
def zY (f:Zt):Zt:={ f with of:=ByteArray.empty,base:=0,terms:=[],key:=0 }
def O3:Vs 237 zY true false:=by
 intro w p f tv cv ht1 hc1 hp
 have Ym:=(Qqq hp).1
 refine Zgs (R:=ZR _) ?_;unfold Zgr
 simp (disch:=try exact DI) only [↓PR,QR,simprocAttr,joinK_eq,(Za hp).1,(Za hp).2]
 refine ⟨?_,λ a e hp'=>?_⟩
 · simp only [Y5,hp,Option.map_some,Y8,List.setIfInBounds_toArray,List.set_cons_zero,List.set_cons_succ,Bool.false_eq_true,if_false,if_true]
   try rfl
 · exact ee
abbrev XG:Int→Vl:=λ n => .int .i64 n
def Dz (L:List (Int×Vl×Nat)):Prop:=(∀ k,¬ (1≤k∧k≤12)→Sw.look L k=none)∧Sw.look L 1=some (.agg #[.func (.func 212) #[] #[],.func (.func 213) #[] #[]])∧Sw.look L 2=some (.agg #[.func (.func 216) #[] #[],.func (.func 217) #[] #[]])∧Sw.look L 3=some (.agg #[.func (.func 218) #[] #[],.func (.func 219) #[] #[]])∧Sw.look L 4=some (.agg #[.func (.func 220) #[] #[],.func (.func 221) #[] #[]])∧Sw.look L 5=some (.agg #[.func (.func 222) #[] #[],.func (.func 223) #[] #[]])∧Sw.look L 6=some (.agg #[.func (.func 224) #[] #[],.func (.func 225) #[] #[]])∧Sw.look L 7=some (.agg #[.func (.func 226) #[] #[],.func (.func 227) #[] #[]])∧Sw.look L 8=some (.agg #[.func (.func 229) #[] #[],.func (.func 230) #[] #[]])∧Sw.look L 9=some (.agg #[.func (.func 231) #[] #[],.func (.func 232) #[] #[]])∧Sw.look L 10=some (.agg #[.func (.func 233) #[] #[],.func (.func 234) #[] #[]])∧Sw.look L 11=some (.agg #[.func (.func 235) #[] #[],.func (.func 236) #[] #[]])∧Sw.look L 12=some (.agg #[.func (.func 237) #[] #[],.func (.func 238) #[] #[]])
def Qm {w0 w:Wd} {m c:Nat} {L:List (Int×Vl×Nat)} {QP:PEn} {ku:WPr} (hM:XB w m XG L c) (e:Ext w0 w) (hm:w0.heap.size≤m) (k:Int) (v:Vl)
 (h:∀ w' L' c',XB w' m XG L' c'→(∀ k',Sw.look L' k'=if k'=k then some v else Sw.look L k')→Ext w0 w'→ku w'):opU Pg (mapUpdate 257 (.map (some m)) (.int .i64 k) v) QP w ku:=by
 rw [Ky underlying257 (Q6.int underlying117) hM k v]
 exact h _ _ _ (hM.put k v) (λ k'=>yj _ _ _ _ _) (e.putObj hm _)
def CI (w0:Wd):Ret Pg 196 #[] w0 λ r w'=>∃ m L c,r = .map (some m)∧w0.heap.size≤m∧XB w' m XG L c∧Dz L∧Ext w0 w':=by
 refine Zf0 (R:=ZR _) ?_;unfold ZfZ
 refine Qqk ?_
 have hM0:XB (w0.alloc (.map #[] 0)) w0.heap.size XG [] 0:=XB.new w0 _
 have e0:Ext w0 (w0.alloc (.map #[] 0)):=ee
 refine Qm hM0 e0 (Nat.le_refl _) 1 _ (λ w1 L1 c1 hM1 hl1 e1=>?_)
 refine Qqk ?_
 refine Qm hM1 e1 (Nat.le_refl _) 2 _ (λ w2 L2 c2 hM2 hl2 e2=>?_)
 refine Qqk ?_
 refine Qm hM2 e2 (Nat.le_refl _) 3 _ (λ w3 L3 c3 hM3 hl3 e3=>?_)
 refine Qqk ?_
 refine Qm hM3 e3 (Nat.le_refl _) 4 _ (λ w4 L4 c4 hM4 hl4 e4=>?_)
 refine Qqk ?_
 refine Qm hM4 e4 (Nat.le_refl _) 5 _ (λ w5 L5 c5 hM5 hl5 e5=>?_)
 refine Qqk ?_
 refine Qm hM5 e5 (Nat.le_refl _) 6 _ (λ w6 L6 c6 hM6 hl6 e6=>?_)
 refine Qqk ?_
 refine Qm hM6 e6 (Nat.le_refl _) 7 _ (λ w7 L7 c7 hM7 hl7 e7=>?_)
 refine Qqk ?_
 refine Qm hM7 e7 (Nat.le_refl _) 8 _ (λ w8 L8 c8 hM8 hl8 e8=>?_)
 refine Qqk ?_
 refine Qm hM8 e8 (Nat.le_refl _) 9 _ (λ w9 L9 c9 hM9 hl9 e9=>?_)
 refine Qqk ?_
 refine Qm hM9 e9 (Nat.le_refl _) 10 _ (λ w10 L10 c10 hM10 hl10 e10=>?_)
 refine Qqk ?_
 refine Qm hM10 e10 (Nat.le_refl _) 11 _ (λ w11 L11 c11 hM11 hl11 e11=>?_)
 refine Qqk ?_
 refine Qm hM11 e11 (Nat.le_refl _) 12 _ (λ w12 L12 c12 hM12 hl12 e12=>?_)
 refine Qqk ?_
 have hn:∀ k,Sw.look ([]:List (Int×Vl×Nat)) k=none:=λ _=>rfl
 refine ⟨_,_,_,rfl,Nat.le_refl _,hM12,⟨λ k hk=>?_,?_,?_,?_,?_,?_,?_,?_,?_,?_,?_,?_,?_⟩,e12⟩
 · rw [hl12,if_neg K9,hl11,if_neg K9,hl10,if_neg K9,hl9,if_neg K9,hl8,if_neg K9,hl7,if_neg K9,hl6,if_neg K9,hl5,if_neg K9,hl4,if_neg K9,hl3,if_neg K9,hl2,if_neg K9,hl1,if_neg K9,hn]
 · rw [hl12,if_neg K7,hl11,if_neg K7,hl10,if_neg K7,hl9,if_neg K7,hl8,if_neg K7,hl7,if_neg K7,hl6,if_neg K7,hl5,if_neg K7,hl4,if_neg K7,hl3,if_neg K7,hl2,if_neg K7,hl1,if_pos rfl]
 · rw [hl12,if_neg K7,hl11,if_neg K7,hl10,if_neg K7,hl9,if_neg K7,hl8,if_neg K7,hl7,if_neg K7,hl6,if_neg K7,hl5,if_neg K7,hl4,if_neg K7,hl3,if_neg K7,hl2,if_pos rfl]
 · rw [hl12,if_neg K7,hl11,if_neg K7,hl10,if_neg K7,hl9,if_neg K7,hl8,if_neg K7,hl7,if_neg K7,hl6,if_neg K7,hl5,if_neg K7,hl4,if_neg K7,hl3,if_pos rfl]
 · rw [hl12,if_neg K7,hl11,if_neg K7,hl10,if_neg K7,hl9,if_neg K7,hl8,if_neg K7,hl7,if_neg K7,hl6,if_neg K7,hl5,if_neg K7,hl4,if_pos rfl]
 · rw [hl12,if_neg K7,hl11,if_neg K7,hl10,if_neg K7,hl9,if_neg K7,hl8,if_neg K7,hl7,if_neg K7,hl6,if_neg K7,hl5,if_pos rfl]
 · rw [hl12,if_neg K7,hl11,if_neg K7,hl10,if_neg K7,hl9,if_neg K7,hl8,if_neg K7,hl7,if_neg K7,hl6,if_pos rfl]
 · rw [hl12,if_neg K7,hl11,if_neg K7,hl10,if_neg K7,hl9,if_neg K7,hl8,if_neg K7,hl7,if_pos rfl]
 · rw [hl12,if_neg K7,hl11,if_neg K7,hl10,if_neg K7,hl9,if_neg K7,hl8,if_pos rfl]
 · rw [hl12,if_neg K7,hl11,if_neg K7,hl10,if_neg K7,hl9,if_pos rfl]
 · rw [hl12,if_neg K7,hl11,if_neg K7,hl10,if_pos rfl]
 · rw [hl12,if_neg K7,hl11,if_pos rfl]
 · rw [hl12,if_pos rfl]
def Jd (f:Zt):Zt:={ name:=f.name,kind:=f.kind,bits:=0,little:=false,loose:=false,low:=0,high:=0,base:=0,terms:=[],of:=ByteArray.empty,tag:=ByteArray.empty,fr:=ByteArray.empty,cases:=[],check:=0,key:=0 }
section
variable {w0:Wd} {cb md ms:Nat} {deps strs:List (BAr×Vl)} {at_ fld:Int} {fs:List Zt}
def QT {a0:Wd} (e00:Ext a0 w0) (h:Chk w0 cb md ms deps strs at_ fld fs) (p3 p6:Nat) (f:Zt) (tv cv:Vl) (hT:Z8 w0 tv f.terms) (hC:Yu w0 cv f.cases) (o3:w0.heap[p3]?=some (.cells (Zq f tv cv).toArray 123 (0,0)))
 (g1 g2:FuncId) (o6:w0.heap[p6]?=some (.cells #[.func (.func g1) #[] #[],.func (.func g2) #[] #[]] 255 (0,0))) (hc1:Callable Pg g1) (hc2:Callable Pg g2) (cl:Zt→Zt) (ct cc:Bool) (hcl:Vs g1 cl ct cc)
 (hterms:(cl f).terms=if ct then [] else f.terms) (hcases:(cl f).cases=if cc then [] else f.cases) (code:Int)
 (hchk:∀ w v,Chk w cb md ms deps strs at_ fld fs→Z0 w v f→Calls Pg g2 #[Qq4 cb,v] w (QG w at_ fld code)) :
 Hj (Qq4 cb) (Qq4 p3) (Qq4 p6) (QG a0 at_ fld (orC (Yn (decide (cl f=Jd f)) 5) code)) w0:=by
 have ht1:=Ze.oneCell hT
 have hv1:=Ze.oneCell hC
 have l6:p6 < w0.heap.size:=(Qqq o6).1
 unfold Hj
 refine Qqh (Za o3).1 (Za o6).1 ?_
 have e1:Ext w0 (w0.alloc (Obj.cells (Zq f tv cv).toArray 123)):=ee
 have o7:=Zv w0 (Zq f tv cv).toArray 123
 rw [YO hc1]
 simp only [Array.empty_append,Array.append_empty]
 refine Zs (hcl _ w0.heap.size f tv cv ht1 hv1 o7) ?_
 rintro r w2 ⟨o7',hE⟩
 have e2:=hE w0 e1 (Nat.le_refl _)
 clear hE o7 e1
 have hT2:Z8 w2 (if ct then .slice none 0 0 else tv) (cl f).terms:=by
  rw [hterms]
  cases ct
  · exact Z8.ext hT e2
  · exact Ze.nil _ _ _
 have hC2:Yu w2 (if cc then .slice none 0 0 else cv) (cl f).cases:=by
  rw [hcases]
  cases cc
  · exact Yu.ext hC e2
  · exact Ze.nil _ _ _
 generalize (if ct=true then Value.slice none 0 0 else tv)=tv2 at o7' hT2
 generalize (if cc=true then Value.slice none 0 0 else cv)=cv2 at o7' hC2
 generalize cl f=g at o7' hT2 hC2 ⊢
 have o3':=e2.obj o3
 clear hterms hcases hcl
 unfold ZdB
 have hL:WX Pg w2 123 ⟨w0.heap.size,0,none⟩ (.agg (Zq g tv2 cv2).toArray):=WX.many VR rfl (λ j v hv=>by rw [Addr.add_lit,(Za o7').1];simpa using hv)
 refine (Gr hL).mpr ?_
 refine Qqg (Za o3').1 ?_
 refine zcr (Ci w2 _ _ g (Jd f) ⟨_,_,rfl,hT2,hC2⟩ ⟨.slice none 0 0,.slice none 0 0,rfl,Ze.nil _ _ _,Ze.nil _ _ _⟩) λ w3 e3=>?_
 have e23:=e2.trans e3
 refine Z1 (YP (h.ext e23) _ 5 K7) (λ w4 e4 h0=>?_) (λ w4 e4 h0=>?_)
 · rw [h0,Xg]
   have e24:=e23.trans e4
   simp (disch:=try exact DI) only [↓PR,QR,simprocAttr,↓ZdA,(Za (e24.obj o6)).1,(Za (e24.obj o3)).1]
   rw [YO hc2]
   simp only [Array.empty_append,Array.append_empty]
   refine Z1 (hchk w4 _ (h.ext e24) ⟨tv,cv,rfl,Z8.ext hT e24,Yu.ext hC e24⟩) (λ w5 e5 h0=>?_) (λ w5 e5 h0=>?_)
   · exact Xu (e00.trans (e24.trans e5)) h0
   · exact Yq (e00.trans (e24.trans e5)) rfl h0
 · rw [Q2 h0]
   exact Yq (e00.trans (e23.trans e4)) rfl h0
end
def Z4 (bef:List Zt) (deps strs:List (BAr×Vl)) (f:Zt):Int:=
 if f.kind=1 then orC (Yn (XO f) 6) (Yf (KU f) 0 [f.low,f.high]) else
 if f.kind=2 then orC (Yn (XO f) 6) (Yf (KU f) 0 [f.low]) else
 if f.kind=3 then Yf 34359738367 0 [f.low,f.high] else
 if f.kind=4 then Wg (Xo bef) f else
 if f.kind=5 then orC (Yf 255 0 [f.low]) (Yf 1048576 0 [f.high]) else
 if f.kind=6 then Yf 1048576 2 [f.high] else
 if f.kind=7 then orC (Yn (Yy deps f.of).isSome 8) (Wg (Xo bef) f) else
 if f.kind=8 then Yn (Yy deps f.of).isSome 8 else
 if f.kind=9 then Vc bef deps f else
 if f.kind=10 then Yn (Cb f) 6 else
 if f.kind=11 then orC (Yf 3 1 [f.check]) (Yn (bef.any λ o=>decide (o.name=f.fr)) 8) else
 if f.kind=12 then orC (Yf 4294967295 0 [f.key]) (orC (Yn (Fc strs f.of) 8) (Wg (Xo bef) f)) else 0
def Y1 (f:Zt):Zt:=
 if f.kind=1 then j2 f else
 if f.kind=2 then j3 f else
 if f.kind=3 then j4 f else
 if f.kind=4 then j5 f else
 if f.kind=5 then j6 f else
 if f.kind=6 then j7 f else
 if f.kind=7 then j8 f else
 if f.kind=8 then j9 f else
 if f.kind=9 then Aa f else
 if f.kind=10 then zW f else
 if f.kind=11 then zX f else
 if f.kind=12 then zY f else f
def Xa (bef:List Zt) (deps strs:List (BAr×Vl)) (f:Zt):Int:=
 orC (Yn (YZ f.name) 1) (orC (Yn (!bef.any λ o=>decide (o.name=f.name)) 2) (orC (Yn (decide (1≤f.kind∧f.kind≤12)) 4) (orC (Yn (decide (Y1 f=Jd f)) 5) (Z4 bef deps strs f))))
section
variable {w0:Wd} {cb md ms:Nat} {deps strs:List (BAr×Vl)} {at_ fld:Int} {fs:List Zt}
def ZaA {a0:Wd} (e00:Ext a0 w0) (h:Chk w0 cb md ms deps strs at_ fld fs) (i:Nat) (hi:fld=i) (Ym:i < fs.length) (p3 p6:Nat) (f:Zt) (tv cv:Vl) (hT:Z8 w0 tv f.terms) (hC:Yu w0 cv f.cases) (o3:w0.heap[p3]?=some (.cells (Zq f tv cv).toArray 123 (0,0)))
 (L:List (Int×Vl×Nat)) (hL:Dz L) (a b:Vl) (ok:Bool) (hab:(Sw.look L f.kind).getD (.agg #[.nilFunc,.nilFunc]) = .agg #[a,b]) (hok:ok=(Sw.look L f.kind).isSome) (o6:w0.heap[p6]?=some (.cells #[a,b] 255 (0,0))) :
 Yb Pg 135 #[Qq4 cb,.bool ok,.int .i64 4] (Zj (QG a0 at_ fld (orC (Yn (decide (1≤f.kind∧f.kind≤12)) 4) (orC (Yn (decide (Y1 f=Jd f)) 5) (Z4 (fs.take i) deps strs f))))) w0
  (λ _ w=>Hj (Qq4 cb) (Qq4 p3) (Qq4 p6) (QG a0 at_ fld (orC (Yn (decide (1≤f.kind∧f.kind≤12)) 4) (orC (Yn (decide (Y1 f=Jd f)) 5) (Z4 (fs.take i) deps strs f)))) w):=by
 obtain ⟨hn,k1,k2,k3,k4,k5,k6,k7,k8,k9,k10,k11,k12⟩:=hL
 by_cases hk:1≤f.kind∧f.kind≤12
 · have hd:decide (1≤f.kind∧f.kind≤12)=true:=by simpa using hk
   rw [hd]
   show Yb _ _ _ (Zj (QG a0 at_ fld (orC 0 _))) _ _
   simp only [show Yn true 4=0 from rfl,Xg]
   have hs:ok=true:=by
    rw [hok]
    have:f.kind=1∨f.kind=2∨f.kind=3∨f.kind=4∨f.kind=5∨f.kind=6∨f.kind=7∨f.kind=8∨f.kind=9∨f.kind=10∨f.kind=11∨f.kind=12:=K9
    rcases this with h | h | h | h | h | h | h | h | h | h | h | h<;>simp only [h,k1,k2,k3,k4,k5,k6,k7,k8,k9,k10,k11,k12,Option.isSome_some]
   subst hs
   refine Z1 (YP h true 4 K7) (λ w1 e1 _=>?_) (λ w1 e1 h0=>absurd rfl h0)
   have hw:=h.ext e1
   have hT1:=Z8.ext hT e1
   have hC1:=Yu.ext hC e1
   have o31:=e1.obj o3
   have this:f.kind=1∨f.kind=2∨f.kind=3∨f.kind=4∨f.kind=5∨f.kind=6∨f.kind=7∨f.kind=8∨f.kind=9∨f.kind=10∨f.kind=11∨f.kind=12:=K9
   rcases this with VY | VY | VY | VY | VY | VY | VY | VY | VY | VY | VY | VY
   · rw [VY,k1,Option.getD_some] at hab
     injection hab with hab
     have hab:=congrArg Array.toList hab
     simp only [List.cons.injEq,and_true] at hab
     obtain ⟨rfl,rfl⟩:=hab
     have hcl:Y1 f=j2 f:=by unfold Y1;simp [VY]
     have hcc:Z4 (fs.take i) deps strs f=orC (Yn (XO f) 6) (Yf (KU f) 0 [f.low,f.high]):=by unfold Z4;simp [VY]
     rw [hcl,hcc]
     exact QT (e00.trans e1) hw p3 p6 f tv cv hT1 hC1 o31 _ _ (e1.obj o6) Zj6 Zj7 j2 false false Zah rfl rfl _ (λ w v hw hf=>TW hw v f hf)
   · rw [VY,k2,Option.getD_some] at hab
     injection hab with hab
     have hab:=congrArg Array.toList hab
     simp only [List.cons.injEq,and_true] at hab
     obtain ⟨rfl,rfl⟩:=hab
     have hcl:Y1 f=j3 f:=by unfold Y1;simp [VY]
     have hcc:Z4 (fs.take i) deps strs f=orC (Yn (XO f) 6) (Yf (KU f) 0 [f.low]):=by unfold Z4;simp [VY]
     rw [hcl,hcc]
     exact QT (e00.trans e1) hw p3 p6 f tv cv hT1 hC1 o31 _ _ (e1.obj o6) Zj8 Zj9 j3 false false Zai rfl rfl _ (λ w v hw hf=>ND hw v f hf)
   · rw [VY,k3,Option.getD_some] at hab
     injection hab with hab
     have hab:=congrArg Array.toList hab
     simp only [List.cons.injEq,and_true] at hab
     obtain ⟨rfl,rfl⟩:=hab
     have hcl:Y1 f=j4 f:=by unfold Y1;simp [VY]
     have hcc:Z4 (fs.take i) deps strs f=Yf 34359738367 0 [f.low,f.high]:=by unfold Z4;simp [VY]
     rw [hcl,hcc]
     exact QT (e00.trans e1) hw p3 p6 f tv cv hT1 hC1 o31 _ _ (e1.obj o6) Zka Zkb j4 false false Zaj rfl rfl _ (λ w v hw hf=>Mb hw v f hf)
   · rw [VY,k4,Option.getD_some] at hab
     injection hab with hab
     have hab:=congrArg Array.toList hab
     simp only [List.cons.injEq,and_true] at hab
     obtain ⟨rfl,rfl⟩:=hab
     have hcl:Y1 f=j5 f:=by unfold Y1;simp [VY]
     have hcc:Z4 (fs.take i) deps strs f=Wg (Xo (fs.take i)) f:=by unfold Z4;simp [VY]
     rw [hcl,hcc]
     exact QT (e00.trans e1) hw p3 p6 f tv cv hT1 hC1 o31 _ _ (e1.obj o6) Zkc ZdU j5 true false Zak rfl rfl _ (λ w v hw hf=>qc hw i hi Ym v f hf)
   · rw [VY,k5,Option.getD_some] at hab
     injection hab with hab
     have hab:=congrArg Array.toList hab
     simp only [List.cons.injEq,and_true] at hab
     obtain ⟨rfl,rfl⟩:=hab
     have hcl:Y1 f=j6 f:=by unfold Y1;simp [VY]
     have hcc:Z4 (fs.take i) deps strs f=orC (Yf 255 0 [f.low]) (Yf 1048576 0 [f.high]):=by unfold Z4;simp [VY]
     rw [hcl,hcc]
     exact QT (e00.trans e1) hw p3 p6 f tv cv hT1 hC1 o31 _ _ (e1.obj o6) Zkd Zke j6 false false Zal rfl rfl _ (λ w v hw hf=>Oz hw v f hf)
   · rw [VY,k6,Option.getD_some] at hab
     injection hab with hab
     have hab:=congrArg Array.toList hab
     simp only [List.cons.injEq,and_true] at hab
     obtain ⟨rfl,rfl⟩:=hab
     have hcl:Y1 f=j7 f:=by unfold Y1;simp [VY]
     have hcc:Z4 (fs.take i) deps strs f=Yf 1048576 2 [f.high]:=by unfold Z4;simp [VY]
     rw [hcl,hcc]
     exact QT (e00.trans e1) hw p3 p6 f tv cv hT1 hC1 o31 _ _ (e1.obj o6) Zkf Zkg j7 false false Zam rfl rfl _ (λ w v hw hf=>FL hw v f hf)
   · rw [VY,k7,Option.getD_some] at hab
     injection hab with hab
     have hab:=congrArg Array.toList hab
     simp only [List.cons.injEq,and_true] at hab
     obtain ⟨rfl,rfl⟩:=hab
     have hcl:Y1 f=j8 f:=by unfold Y1;simp [VY]
     have hcc:Z4 (fs.take i) deps strs f=orC (Yn (Yy deps f.of).isSome 8) (Wg (Xo (fs.take i)) f):=by unfold Z4;simp [VY]
     rw [hcl,hcc]
     exact QT (e00.trans e1) hw p3 p6 f tv cv hT1 hC1 o31 _ _ (e1.obj o6) Zkh Zki j8 true false Zan rfl rfl _ (λ w v hw hf=>PC hw i hi Ym v f hf)
   · rw [VY,k8,Option.getD_some] at hab
     injection hab with hab
     have hab:=congrArg Array.toList hab
     simp only [List.cons.injEq,and_true] at hab
     obtain ⟨rfl,rfl⟩:=hab
     have hcl:Y1 f=j9 f:=by unfold Y1;simp [VY]
     have hcc:Z4 (fs.take i) deps strs f=Yn (Yy deps f.of).isSome 8:=by unfold Z4;simp [VY]
     rw [hcl,hcc]
     exact QT (e00.trans e1) hw p3 p6 f tv cv hT1 hC1 o31 _ _ (e1.obj o6) Zkj Zkk j9 false false Zao rfl rfl _ (λ w v hw hf=>FW hw v f hf)
   · rw [VY,k9,Option.getD_some] at hab
     injection hab with hab
     have hab:=congrArg Array.toList hab
     simp only [List.cons.injEq,and_true] at hab
     obtain ⟨rfl,rfl⟩:=hab
     have hcl:Y1 f=Aa f:=by unfold Y1;simp [VY]
     have hcc:Z4 (fs.take i) deps strs f=Vc (fs.take i) deps f:=by unfold Z4;simp [VY]
     rw [hcl,hcc]
     exact QT (e00.trans e1) hw p3 p6 f tv cv hT1 hC1 o31 _ _ (e1.obj o6) Zkl Zkm Aa false true Zap rfl rfl _ (λ w v hw hf=>Ns hw i hi Ym v f hf)
   · rw [VY,k10,Option.getD_some] at hab
     injection hab with hab
     have hab:=congrArg Array.toList hab
     simp only [List.cons.injEq,and_true] at hab
     obtain ⟨rfl,rfl⟩:=hab
     have hcl:Y1 f=zW f:=by unfold Y1;simp [VY]
     have hcc:Z4 (fs.take i) deps strs f=Yn (Cb f) 6:=by unfold Z4;simp [VY]
     rw [hcl,hcc]
     exact QT (e00.trans e1) hw p3 p6 f tv cv hT1 hC1 o31 _ _ (e1.obj o6) Zkn Zko zW false false O1 rfl rfl _ (λ w v hw hf=>Za2 hw v f hf)
   · rw [VY,k11,Option.getD_some] at hab
     injection hab with hab
     have hab:=congrArg Array.toList hab
     simp only [List.cons.injEq,and_true] at hab
     obtain ⟨rfl,rfl⟩:=hab
     have hcl:Y1 f=zX f:=by unfold Y1;simp [VY]
     have hcc:Z4 (fs.take i) deps strs f=orC (Yf 3 1 [f.check]) (Yn ((fs.take i).any λ o=>decide (o.name=f.fr)) 8):=by unfold Z4;simp [VY]
     rw [hcl,hcc]
     exact QT (e00.trans e1) hw p3 p6 f tv cv hT1 hC1 o31 _ _ (e1.obj o6) Zkp Zkq zX false false O2 rfl rfl _ (λ w v hw hf=>NA hw i hi Ym v f hf)
   · rw [VY,k12,Option.getD_some] at hab
     injection hab with hab
     have hab:=congrArg Array.toList hab
     simp only [List.cons.injEq,and_true] at hab
     obtain ⟨rfl,rfl⟩:=hab
     have hcl:Y1 f=zY f:=by unfold Y1;simp [VY]
     have hcc:Z4 (fs.take i) deps strs f=orC (Yf 4294967295 0 [f.key]) (orC (Yn (Fc strs f.of) 8) (Wg (Xo (fs.take i)) f)):=by unfold Z4;simp [VY]
     rw [hcl,hcc]
     exact QT (e00.trans e1) hw p3 p6 f tv cv hT1 hC1 o31 _ _ (e1.obj o6) Zkr Zks zY true false O3 rfl rfl _ (λ w v hw hf=>TX hw i hi Ym v f hf)
 · have hd:decide (1≤f.kind∧f.kind≤12)=false:=by simpa using hk
   rw [hd]
   have hs:ok=false:=by rw [hok,hn _ hk];rfl
   subst hs
   refine Z1 (YP h false 4 K7) (λ w1 e1 h0=>absurd h0 K7) (λ w1 e1 h0=>?_)
   exact Yq (e00.trans e1) rfl h0
end
section
variable {w0:Wd} {cb md ms:Nat} {deps strs:List (BAr×Vl)} {at_ fld:Int} {fs:List Zt}
def FF (h:Chk w0 cb md ms deps strs at_ fld fs) (i:Nat) (hi:fld=i) (Ym:i < fs.length) (v:Vl) (f:Zt) (hf:Z0 w0 v f) :
 Calls Pg 161 #[Qq4 cb,v] w0 (QG w0 at_ fld (Xa (fs.take i) deps strs f)):=by
 obtain ⟨tv,cv,rfl,hT,hC,ht1,hc1⟩:=hf.op
 refine Zl6 ?_;unfold n95
 refine Qqk ?_
 generalize hW:World.alloc w0 _=W
 have e0:Ext w0 W:=by rw [← hW];exact ee
 have o3:W.heap[w0.heap.size]?=some (.cells (Zq f tv cv).toArray 123 (0,0)):=by rw [← hW];exact Qqy
 clear hW
 refine zcr (UU _ f.name) λ w1 e1=>?_
 have e01:=e0.trans e1
 unfold Xa
 refine Z1 (YP (h.ext e01) _ 1 K7) (λ w2 e2 h0=>?_) (λ w2 e2 h0=>?_)
 · rw [h0,Xg]
   have e02:=e01.trans e2
   have o32:=(e1.trans e2).obj o3
   refine ZB ?_
   simp (disch:=try exact DI) only [↓PR,QR,simprocAttr,↓ZdF,(Za o32).1]
   have eD:Ext w0 w2.drew:=e02.wdrew
   refine Zs (Vt (h.ext eD) i hi Ym) ?_
   rintro bv w3 ⟨hB,e3⟩
   refine ⟨e3,?_⟩
   have hb1:=Ze.oneCell hB
   refine Qqk ?_
   refine zcr (xh w3 _ ⟨ByteArray.empty,fs.take i⟩ f.name ⟨bv,rfl,hB⟩) λ w4 e4=>?_
   refine ⟨e3.trans e4,?_⟩
   simp (disch:=try exact DI) only [↓PR,QR,simprocAttr,↓ZdE]
   have e04:=eD.trans (e3.trans e4)
   have e24:Ext w2 w4:=(Ext.refl w2).wdrew.trans (e3.trans e4)
   refine Z1 (YP (h.ext e04) _ 2 K7) (λ w5 e5 h0=>?_) (λ w5 e5 h0=>?_)
   · rw [h0,Xg]
     have e05:=e04.trans e5
     have o35:=(e24.trans e5).obj o32
     clear e24 e04 e3 e4 hB eD e02 e01 e1 e2 o32
     refine ZB ?_
     simp (disch:=try exact DI) only [↓PR,QR,simprocAttr,↓ZdD,(Za o35).1]
     have eD:Ext w5 w5.drew:=(Ext.refl _).wdrew
     have fin5:∀ (w':Wd) (m p6 c:Nat) (L:List (Int×Vl×Nat)) (u0 u1:Vl),Ext w5.drew w'→XB w' m XG L c→Dz L→w'.heap[p6]?=some (.cells #[u0,u1] 255 (0,0))→w5.heap.size≤p6 →
      MU (Qq4 p6) (.map (some m)) (.int .i64 f.kind) (KM w5.drew m XG L c) (λ t5 t6 w=>Yb Pg 135 #[Qq4 cb,t5,.int .i64 4] (Zj (QG w0 at_ fld (orC (Yn (decide (1≤f.kind∧f.kind≤12)) 4) (orC (Yn (decide (Y1 f=Jd f)) 5) (Z4 (fs.take i) deps strs f))))) w λ _ w=>Hj (Qq4 cb) (Qq4 w0.heap.size) t6 (QG w0 at_ fld (orC (Yn (decide (1≤f.kind∧f.kind≤12)) 4) (orC (Yn (decide (Y1 f=Jd f)) 5) (Z4 (fs.take i) deps strs f)))) w)
       (QG w0 at_ fld (orC (Yn (decide (1≤f.kind∧f.kind≤12)) 4) (orC (Yn (decide (Y1 f=Jd f)) 5) (Z4 (fs.take i) deps strs f)))) w':=by
      intro w' m p6 c L u0 u1 e' hM hL o6 hp6
      haveI:Xb (KM w5.drew m XG L c):=⟨⟨w',e',hM⟩⟩
      unfold MU
      rw [VN underlying257 (Q6.int underlying117) HQ ⟨w',e',hM⟩]
      obtain ⟨a,b,hab,ha,hb⟩:∃ a b,(Sw.look L f.kind).getD (.agg #[.nilFunc,.nilFunc]) = .agg #[a,b]∧a.oneCell'=true∧b.oneCell'=true:=by
       obtain ⟨hn,k1,k2,k3,k4,k5,k6,k7,k8,k9,k10,k11,k12⟩:=hL
       by_cases hk:1≤f.kind∧f.kind≤12
       · have this:f.kind=1∨f.kind=2∨f.kind=3∨f.kind=4∨f.kind=5∨f.kind=6∨f.kind=7∨f.kind=8∨f.kind=9∨f.kind=10∨f.kind=11∨f.kind=12:=K9
         rcases this with h | h | h | h | h | h | h | h | h | h | h | h<;>simp only [h,k1,k2,k3,k4,k5,k6,k7,k8,k9,k10,k11,k12,Option.getD_some]<;>exact ⟨_,_,rfl,rfl,rfl⟩
       · rw [hn _ hk];exact ⟨_,_,rfl,rfl,rfl⟩
      rw [hab]
      refine Qqh (Za o6).1 (Za o6).2 ?_
      have e6:Ext w5.drew ((w'.setCell ⟨p6,0,none⟩ a).setCell ⟨p6,1,none⟩ b):=(e'.setCell (show w5.drew.heap.size≤(⟨p6,0,none⟩:Addr).block from hp6) _).setCell (show w5.drew.heap.size≤(⟨p6,1,none⟩:Addr).block from hp6) _
      refine ⟨⟨e6,(hM.setCell _ _).setCell _ _⟩,?_⟩
      have e06:=(e05.trans eD).trans e6
      have o6':=Zy (o:=1) (Zy (o:=0) o6 a) b
      exact ZaA e06 (h.ext e06) i hi Ym _ p6 f tv cv (Z8.ext hT e06) (Yu.ext hC e06) ((eD.trans e6).obj o35) L hL a b _ hab rfl (by simpa using o6')
     refine ⟨?_,?_⟩
     · refine Zs (CI _) ?_
       rintro _ w6 ⟨m,L,c,rfl,hm,hM,hL,e6⟩
       refine Ue e6 hM ?_
       have h9:=fin5 (w6.alloc (.cells #[.nilFunc,.nilFunc] 255)) m w6.heap.size c L _ _ (e6.alloc _) (hM.ext ((Ext.refl _).alloc _)) hL (Zv _ _ _) (by have:=e6.size;simpa using this)
       unfold MU at h9
       unfold ZdC
       simp only [Kj]
       haveI:Xb (KM w5.drew m XG L c):=⟨⟨w6,e6,hM⟩⟩
       rw [VN underlying257 (Q6.int underlying117) HQ ⟨w6,e6,hM⟩] at h9 ⊢
       refine Qqk ?_
       simp only [↓Sw.GENQ] at h9
       exact ⟨⟨e6.alloc _,hM.ext ((Ext.refl _).alloc _)⟩,h9⟩
     · refine ⟨(Ext.refl _).alloc _,?_⟩
       refine Zs (CI _) ?_
       rintro _ w6 ⟨m,L,c,rfl,hm,hM,hL,e6⟩
       refine Ue (((Ext.refl _).alloc _).trans e6) hM ?_
       exact fin5 w6 m w5.heap.size c L _ _ (((Ext.refl _).alloc _).trans e6) hM hL (e6.obj (Zv w5.drew _ _)) (Nat.le_refl _)
   · rw [Q2 h0]
     exact Yq (e04.trans e5) rfl h0
 · rw [Q2 h0]
   exact Yq (e01.trans e2) rfl h0
end
end Go.Proofs.YtgalpdihjbinjaaGreatDoor
