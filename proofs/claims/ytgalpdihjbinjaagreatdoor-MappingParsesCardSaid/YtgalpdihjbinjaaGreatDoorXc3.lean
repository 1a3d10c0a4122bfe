/-
  Lemmas for the claim.
-/
import Derived.Test.YtgalpdihjbinjaaGreatDoorXc2
set_option linter.all false
set_option maxHeartbeats 40000000
set_option maxRecDepth 100000
open Go.Instr (loadAt storeAt fieldAt indexAt buildSlice mapUpdate makeFunc alloc build box extract fill sliceAt lookup makeInterface)
open Go.Proofs.Tryz
namespace Go.Proofs.YtgalpdihjbinjaaGreatDoor
open Sw
def xA a b c (d:WPr) R w:=
 F0 123 a 0 R w λ e w=>
 L0 9 e R w λ f w=>
 L0 300 b R w λ g w=>
 opU Pg (mapUpdate 296 c f g) (Zc R) w λ w=>
 d w
def xB d e f a (Zz:KV) R w:=
 E0q a 0 R w λ g w=>
 E0q a 1 R w λ h w=>
 opV Pg (alloc 300 true (.tuple #[])) (Zc R) w λ b w=>
 S0 300 b g R w λ w=>
 B0 .eql 49 true h (QqQ 0) R w λ i w=>
 Zp (λ (w:Wd)=>
 B0 .add 3 true f (QqQ 1) R w λ j w=>
 Zz j w) λ c=>
 Zr i (
 xA d b e c R w) (
 c w)
def xC c d b (Zz:KV) R w:=
 X0 72 c b R w λ e w=>
 L0 123 e R w λ f w=>
 opV Pg (alloc 123 true (.tuple #[])) (Zc R) w λ a w=>
 S0 123 a f R w λ w=>
 L0 123 a R w λ g w=>
 C0 255 #[g] R w λ h w=>
 xB a d b h Zz R w
def ZgD a R w:=
 opV Pg (Instr.makeMap 296 none) (Zc R) w λ b w=>
 G0 72 3 a R w λ d w=>
 YW (λ c w Zz=>
 B0 .lss 3 false c d R w λ e w=>
 Zr e (
 xC a b c Zz R w) (
 R (.returned b) w)) (QqQ 0) w
def ZgE:QqX1 247 ZgD:=λ h=>by
 refine yD func247 ?_
 refine zs<|zr<|zm<|zn<|zk<|zs<|zr<|yv h λ h=>zm<|zn<|zk<|zs<|zs<|zr<|zm ?_
 refine yx h λ h=>zm<|zn<|zk<|Zl<|yl1 [5,6,7,11,12,13,14,15,16,17,18,19,20,21,22,23,24,25,26] 11 h λ σ w next h=>zs<|zr<|yb h λ h=>zn<|zk<|zs<|yC h (λ h=>?_) λ h=>?_
 · refine Zk<|zk<|zs<|Zl<|zs<|zr<|yv h λ h=>yv h λ h=>yv h λ h=>yu h λ h=>zn<|zk<|zs<|zr<|yv h λ h=>?_
   refine yc h Zkk λ h=>zm<|yv h λ h=>yv h λ h=>yv h λ h=>yu h λ h=>zm<|zn<|zk<|zs<|zr<|zm<|yb h λ h=>zn<|zk ?_
   refine yJ0 [22,23,24,25] h (λ _ _ hkK2 h=>?_) λ σ w h=>?_
   · refine yC h (λ h=>?_) λ h=>?_
     · refine zr<|zm<|yv h λ h=>yv h λ h=>yv h λ h=>yu h λ h=>zn<|zk ?_
       exact zt hkK2 h
     refine Zk<|zk ?_
     exact zt hkK2 h
   exact Zf<|zk<|zr<|yb h λ h=>zm<|zn<|zk<|⟨rfl,h⟩
 exact ZN<|Ze<|Ze<|Zs<|zk<|zs<|zr<|zm<|zm<|zn<|zk<|Zg<|Zj rfl rfl h
def AL a b (c:WPr) R w:=
 F0 120 a 1 R w λ d w=>
 L0 118 d R w λ e w=>
 C0 256 #[e] R w λ f w=>
 S0 118 b f R w λ w=>
 c w
def ZgT d R w:=
 opV Pg (box 120 d) (Zc R) w λ a w=>
 opV Pg (alloc 118 true (.tuple #[])) (Zc R) w λ b w=>
 L0 120 a R w λ e w=>
 C0 246 #[e] R w λ f w=>
 Zp (λ (w:Wd)=>
 opV Pg (makeFunc (.func 257) #[] #[b]) (Zc R) w λ g w=>
 R (.returned g) w) λ c=>
 Zr f (
 AL a b c R w) (
 c w)
def ZgU:QqX1 248 ZgT:=λ h=>by
 refine yD func248 ?_
 refine zs<|zr<|yv h λ h=>zm<|zn<|zk<|zs<|zr<|yv h λ h=>zn<|zk<|zs<|zs<|zr<|yv h λ h=>?_
 refine yc h Zen λ h=>zn<|zk<|yJ0 [6,7,8] h (λ _ _ hkK1 h=>?_) λ σ w h=>?_
 · refine yC h (λ h=>?_) λ h=>?_
   · refine zr<|yv h λ h=>yv h λ h=>yc h Zkl λ h=>yu h λ h=>zn<|zk ?_
     exact zt hkK1 h
   refine Zk<|zk ?_
   exact zt hkK1 h
 exact zk<|zs<|zr<|yF h λ h=>zm<|zn<|zk<|Zg<|Zj rfl rfl h
def AJ a b c R w:=
 opV Pg (build 300 #[(0,b),(1,c)]) (Zc R) w λ d w=>
 S0 300 a d R w λ w=>
 qW Pg 300 a w λ r0=>
 R (.returned (.tuple #[r0,(QqQ 0)])) w
def AK b c d R w:=
 opV Pg (makeFunc (.func 260) #[] #[b,c]) (Zc R) w λ a w=>
 X9 Pg a #[(.bool true)] (Zc R) w λ e w=>
 X9 Pg a #[(.bool false)] (Zc R) w λ f w=>
 AJ d e f R w
def xD c d a b R w:=
 B0 .neq 49 true b (QqQ 0) R w λ e w=>
 Zr e (
 opV Pg (build 300 #[]) (Zc R) w λ f w=>
 S0 300 a f R w λ w=>
 qW Pg 300 a w λ r0=>
 R (.returned (.tuple #[r0,b])) w) (
 AK c d a R w)
def ZgH c d R w:=
 opV Pg (box 120 c) (Zc R) w λ a w=>
 opV Pg (box 296 d) (Zc R) w λ b w=>
 opV Pg (alloc 300 true (.tuple #[])) (Zc R) w λ e w=>
 L0 120 a R w λ f w=>
 L0 296 b R w λ g w=>
 ZU Pg 259 #[f,(.string { data := #[] }),g,(.func (.func 258) #[] #[])] (Zc R) w λ h w=>
 xD a b e h R w
def ZgI:QqX2 249 ZgH:=λ h=>by
 refine yD func249 ?_
 refine zs<|zr<|yv h λ h=>yv h λ h=>yv h λ h=>zm<|zn<|zk<|zs<|zr<|zm<|zn<|zk<|zs<|zs ?_
 refine zr<|yv h λ h=>yv h λ h=>zm<|yc h Zkn λ h=>zm<|zn<|zk<|zs<|zr<|zm<|yb h λ h=>zn<|zk<|yC h (λ h=>zs<|zr<|yB h λ h=>zm<|yu h λ h=>zm<|zn<|zk<|Zg<|Zb<|YD rfl rfl rfl h) λ h=>?_
 refine Zk<|zk<|zs<|zr<|yF h λ h=>zm<|zn<|zk<|zs<|zr<|zm<|yV h λ h=>zm<|yV h λ h=>yB h λ h=>?_
 exact yu h λ h=>zm<|zn<|zk<|Zg<|YD rfl rfl rfl h
def Zhl a b (R:RT) w:=
 C0 199 #[a,b] R w λ c w=>
 B0 .geq 3 true c (QqQ 0) R w λ d w=>
 R (.returned d) w
def Zhm:QqX2 250 Zhl:=λ h=>by
 refine yD func250 ?_
 refine zs<|zr<|zm<|zn<|zk<|zs<|zr<|zm<|zm<|yc h ZfE λ h=>yb h λ h=>zm<|zn<|zk<|Zg ?_
 exact Zj rfl rfl h
def n85 e f R w:=
 opV Pg (box 123 e) (Zc R) w λ b w=>
 F0 123 b 1 R w λ g w=>
 L0 117 g R w λ h w=>
 B0 .eql 117 true h (QqQ 9) R w λ c w=>
 Zp (λ (a:Vl) (w:Wd)=>
 Zx c a (.bool false) λ i=>
 R (.returned i) w) λ d=>
 Zm c true (
 F0 123 b 9 R w λ j w=>
 L0 9 j R w λ k w=>
 F0 123 f 9 R w λ l w=>
 L0 9 l R w λ m w=>
 B0 .eql 9 false k m R w λ a w=>
 d a w) (
 d undef w)
def ZlF:QqX2 251 n85:=λ h=>by
 refine yD func251 ?_
 refine zs<|zr<|yv h λ h=>zm<|zn<|zk<|zs<|Zq<|yG 4<|yv h λ h=>yv h λ h=>yb h λ h=>zm<|zn<|yg1 5 3 true [8,9,10,11,12] 12 h (λ _ T hT h=>?_) λ σ w h=>?_
 · refine yv h λ h=>yv h λ h=>yv h λ h=>yv h λ h=>yb h λ h=>zn ?_
   exact zt hT h
 exact yG 2<|yp h λ h=>zm<|zn<|ZG<|zk<|Zg<|Zj rfl rfl h
def AO b c d (a:WPr) (e:KV) R w:=
 opV Pg (buildSlice 170 3 #[(0,b),(1,c),(2,d)]) (Zc R) w λ f w=>
 a w∧(
 C0 74 #[f] R w λ g w=>
 a w∧(
 qV Pg a (Op.unary .not g) λ h=>
 e h w))
def AP b (a:WPr) (c:KV) (R:RT) w:=
 J0 128 b 0 a λ d=>
 I0 9 d a λ e=>
 J0 128 b 1 a λ f=>
 I0 3 f a λ g=>
 qV Pg a (ZA .neq 3 true g (QqQ 0)) λ h=>
 J0 128 b 1 a λ i=>
 I0 3 i a λ j=>
 C0 35 #[e] R w λ k w=>
 a w∧(
 C0 253 #[j] R w λ l w=>
 a w∧(
 AO k h l a c R w))
def ZgZ e b R w:=
 opV Pg (box 128 e) (Zc R) w λ a w=>
 L0 199 b R w λ f w=>
 F0 128 a 0 R w λ g w=>
 L0 9 g R w λ h w=>
 opV Pg (lookup 199 f h false) (Zc R) w λ c w=>
 L0 199 b R w λ i w=>
 F0 128 a 0 R w λ j w=>
 L0 9 j R w λ k w=>
 opU Pg (mapUpdate 199 i k (.bool true)) (Zc R) w λ w=>
 Z4 w λ l w=>
 Zp (λ (m:Vl) (w:Wd)=>
 Zx c (.bool true) m λ n=>
 R (.returned n) w) λ d=>
 Zm c false (
 AP a l d R w) (
 d undef w)
def Zg0:QqX2 252 ZgZ:=λ h=>by
 refine yD func252 ?_
 refine zs<|zr<|yv h λ h=>zm<|zn<|zk<|zs<|zr<|yv h λ h=>yv h λ h=>yv h λ h=>yv h λ h=>zm<|zn<|zk ?_
 refine zs<|zr<|yv h λ h=>yv h λ h=>yv h λ h=>yu h λ h=>zn<|zk<|zs<|yh [3,12,13,14,15,16,17,18,19,20,21,22,23,24,25,26] h λ C hC h=>yw 0 hC ?_
 refine yw 1 hC ?_
 refine yj1 2 [13,12,11,10,4,9,8,7,6,5,3,2,1,0] [14,15,16,17,18,19,20,21,22,23,24,25] 25 h (λ _ hT hb h=>?_) (λ _ hT hb h=>?_) λ σ w hC h=>?_
 · refine ye 2 hC h λ h=>?_
   refine ye 3 hC h λ h=>?_
   refine ye 5 hC h λ h=>?_
   refine ye 6 hC h λ h=>?_
   refine ye 7 hC h λ h=>?_
   refine ye 8 hC h λ h=>?_
   refine ye 9 hC h λ h=>?_
   refine yo 4 ?_
   refine yc h c35 λ h=>zn ?_
   obtain ⟨hC,h⟩:=h
   refine ⟨hC,?_⟩
   refine yo 10 ?_
   refine yc h ZfI λ h=>zn ?_
   obtain ⟨hC,h⟩:=h
   refine ⟨hC,?_⟩
   refine yo 11 ?_
   refine yS h λ h=>zn ?_
   obtain ⟨hC,h⟩:=h
   refine ⟨hC,?_⟩
   refine yo 12 ?_
   refine yc h c74 λ h=>zn ?_
   obtain ⟨hC,h⟩:=h
   refine ⟨hC,?_⟩
   refine ye 13 hC h λ h=>?_
   exact yt hT hC h
 · refine yi 2 hC ?_
   refine yi 3 hC ?_
   refine yi 5 hC ?_
   refine yi 6 hC ?_
   refine yi 7 hC ?_
   refine yi 8 hC ?_
   refine yi 9 hC ?_
   refine yi 4 hC ?_
   refine yi 10 hC ?_
   refine yi 11 hC ?_
   refine yi 12 hC ?_
   refine yi 13 hC ?_
   exact yt hT hC h
 refine yP 14 hC h λ _ h=>?_
 refine yw 15 hC ?_
 exact yz<|zk<|Zg<|Zj rfl rfl h
def Zha b R w:=
 opV Pg (ZA .geq 3 true b (.int .i64 (-1048576))) (Zc R) w λ c w=>
 Zp (λ (a:Vl) (w:Wd)=>
 Zx c a (.bool false) λ e=>
 R (.returned e) w) λ d=>
 Zm c true (
 B0 .leq 3 true b (QqQ 1048576) R w λ a w=>
 d a w) (
 d undef w)
def Zhb:QqX1 253 Zha:=λ h=>by
 refine yD func253 ?_
 refine zs<|zr<|zm<|zn<|zk<|zs<|Zq<|yG 3<|zm<|yb h λ h=>zm<|zn<|yg1 2 2 true [6,7] 7 h (λ _ T hT h=>?_) λ σ w h=>?_
 · refine zm<|yb h λ h=>zn ?_
   exact zt hT h
 exact yG 2<|yp h λ h=>zm<|zn<|ZG<|zk<|Zg<|Zj rfl rfl h
def Zhp a b (R:RT) w:=
 C0 263 #[a,b] R w λ c w=>
 B0 .geq 3 true c (QqQ 0) R w λ d w=>
 R (.returned d) w
def Zhq:QqX2 254 Zhp:=λ h=>by
 refine yD func254 ?_
 refine zs<|zr<|zm<|zn<|zk<|zs<|zr<|zm<|zm<|yc h Zkq λ h=>yb h λ h=>zm<|zn<|zk<|Zg ?_
 exact Zj rfl rfl h
def Dw a b R w:=
 F0 123 a 5 R w λ c w=>
 L0 3 c R w λ d w=>
 F0 123 a 5 R w λ e w=>
 L0 3 e R w λ f w=>
 opV Pg (build 300 #[(0,d),(1,f)]) (Zc R) w λ g w=>
 S0 300 b g R w λ w=>
 qW Pg 300 b w λ r0=>
 R (.returned (.tuple #[r0,(QqQ 0)])) w
def Dx a b R w:=
 F0 123 a 5 R w λ c w=>
 L0 3 c R w λ d w=>
 F0 123 a 6 R w λ e w=>
 L0 3 e R w λ f w=>
 opV Pg (build 300 #[(0,d),(1,f)]) (Zc R) w λ g w=>
 S0 300 b g R w λ w=>
 qW Pg 300 b w λ r0=>
 R (.returned (.tuple #[r0,(QqQ 0)])) w
def Dy a R w:=
 opV Pg (build 300 #[]) (Zc R) w λ b w=>
 S0 300 a b R w λ w=>
 qW Pg 300 a w λ r0=>
 R (.returned (.tuple #[r0,(QqQ 2)])) w
def Dz a b R w:=
 F0 123 a 1 R w λ c w=>
 L0 117 c R w λ d w=>
 B0 .eql 117 true d (QqQ 2) R w λ e w=>
 Zr e (
 Dw a b R w) (
 Dx a b R w)
def n78 c R w:=
 opV Pg (box 123 c) (Zc R) w λ a w=>
 opV Pg (alloc 300 true (.tuple #[])) (Zc R) w λ b w=>
 L0 123 a R w λ d w=>
 C0 264 #[d] R w λ e w=>
 N0 e R w λ f w=>
 Zr f (
 Dy b R w) (
 Dz a b R w)
def Zlx:QqX1 255 n78:=λ h=>by
 refine yD func255 ?_
 refine zs<|zr<|yv h λ h=>yv h λ h=>zm<|zn<|zk<|zs<|Zl<|zs<|zr<|yv h λ h=>yc h Zkr λ h=>yv h λ h=>zm ?_
 refine zn<|zk<|yC h (λ h=>zs<|zr<|yB h λ h=>yu h λ h=>zm<|zn<|zk<|Zg<|Zh<|Zb<|YD rfl rfl rfl h) λ h=>zs<|zr<|yv h λ h=>yv h λ h=>yb h λ h=>zm<|zn<|zk<|yC h (λ h=>zs<|zr<|yv h λ h=>yv h λ h=>yv h λ h=>yv h λ h=>yB h λ h=>yu h λ h=>zm<|zn<|zk<|Zg<|Zh<|Zb<|YD rfl rfl rfl h) λ h=>Zk ?_
 exact Zf<|zk<|zs<|zr<|yv h λ h=>yv h λ h=>yv h λ h=>yv h λ h=>yB h λ h=>yu h λ h=>zm<|zn<|zk<|Zg<|YD rfl rfl rfl h
def Zhh a R w:=
 opV Pg (ZA .eql 118 true a (Value.slice none 0 0)) (Zc R) w λ b w=>
 Zr b (
 R (.returned (Value.slice none 0 0)) w) (
 opV Pg (buildSlice 118 0 #[]) (Zc R) w λ c w=>
 opV Pg (Builtin.append_ #[118,118] 118 #[c,a]) (Zc R) w λ d w=>
 R (.returned d) w)
def Zhi:QqX1 256 Zhh:=λ h=>by
 refine yD func256 ?_
 refine zs<|zr<|zm<|zn<|zk<|zs<|zs<|zr<|zm<|yb h λ h=>zn<|zk<|yC h (λ h=>zs<|zr<|zm<|zn<|zk<|Zg<|Zb<|Zj rfl rfl h) λ h=>Zk ?_
 exact zk<|zs<|zr<|yS h λ h=>zm<|yx h λ h=>zm<|zn<|zk<|Zg<|Zj rfl rfl h
def AM a b (Zz:KV) R w:=
 N0 b R w λ c w=>
 Zr c (
 R (.returned (.tuple #[])) w) (
 B0 .add 3 true a (QqQ 1) R w λ d w=>
 Zz d w)
def AN c d a (Zz:KV) R w:=
 X0 118 d a R w λ e w=>
 L0 128 e R w λ f w=>
 opV Pg (alloc 128 true (.tuple #[])) (Zc R) w λ b w=>
 S0 128 b f R w λ w=>
 F0 128 b 0 R w λ g w=>
 L0 9 g R w λ h w=>
 X9 Pg c #[h] (Zc R) w λ i w=>
 AM a i Zz R w
def ZgV c d R w:=
 L0 118 d R w λ a w=>
 G0 118 3 a R w λ e w=>
 YW (λ b w Zz=>
 B0 .lss 3 false b e R w λ f w=>
 Zr f (
 AN c a b Zz R w) (
 R (.returned (.tuple #[])) w)) (QqQ 0) w
def ZgW:QqX2 257 ZgV:=λ h=>by
 refine yD func257 ?_
 refine zs<|zr<|yv h λ h=>yx h λ h=>zm<|zn<|zk<|Zl<|yl1 [4,7,8,9,10,11,12,13,14,15,16] 7 h λ σ w next h=>zs<|zr<|yb h λ h=>zn<|zk<|zs ?_
 refine yC h (λ h=>?_) λ h=>?_
 · refine Zk<|zk<|zs<|Zl<|zs<|zr<|yv h λ h=>yv h λ h=>yv h λ h=>yu h λ h=>zn<|zk<|zs<|zr<|zm ?_
   refine yv h λ h=>yv h λ h=>yV h λ h=>yv h λ h=>zn<|zk<|yC h (λ h=>Zg<|Zh<|Zb<|Zb<|Zh<|ZR rfl h) λ h=>Zk<|Zf<|zk<|zr<|yb h λ h=>zm<|zn ?_
   exact zk<|⟨rfl,h⟩
 exact ZN<|Ze<|Ze<|Zs<|ZJ<|ZR rfl h
def ZgJ b R w:=
 opV Pg (box 300 b) (Zc R) w λ a w=>
 F0 300 a 0 R w λ c w=>
 L0 3 c R w λ d w=>
 B0 .geq 3 true d (QqQ 0) R w λ e w=>
 F0 300 a 0 R w λ f w=>
 L0 3 f R w λ g w=>
 F0 300 a 1 R w λ h w=>
 L0 3 h R w λ i w=>
 B0 .leq 3 false g i R w λ j w=>
 F0 300 a 1 R w λ k w=>
 L0 3 k R w λ l w=>
 B0 .lss 3 true l (QqQ 34359738368) R w λ m w=>
 opV Pg (buildSlice 170 3 #[(0,e),(1,j),(2,m)]) (Zc R) w λ n w=>
 C0 74 #[n] R w λ o w=>
 R (.returned o) w
def ZgK:QqX1 258 ZgJ:=λ h=>by
 refine yD func258 ?_
 refine zs<|zr<|yv h λ h=>zm<|zn<|zk<|zs<|zr<|yv h λ h=>yv h λ h=>yb h λ h=>yv h λ h=>yv h λ h=>yv h λ h=>yv h λ h=>?_
 exact yb h λ h=>yv h λ h=>yv h λ h=>yb h λ h=>yS h λ h=>yc h c74 λ h=>zm<|zn<|zk<|Zg<|Zj rfl rfl h
def W3 b c d (e:WPr) (a:PEn) (f:Nat→Wd→Prop) (R:RT) w:=
 opV Pg (loadAt 311 b) a w λ g w=>
 opV Pg (loadAt 300 d) a w λ h w=>
 X9 Pg g #[h] a w λ i w=>
 opV Pg (Op.unary .not i) a w λ j w=>
 Zr j (
 opU Pg (storeAt 49 c (QqQ 2)) a w λ w=>
 f 0 w) (
 e w)
def W4 f g h i j c (k:WPr) (a:PEn) (l:Nat→Wd→Prop) R w:=
 opV Pg (loadAt 296 g) a w λ m w=>
 opV Pg (lookup 296 m c true) a w λ d w=>
 opV Pg (extract d 0) a w λ n w=>
 opV Pg (extract d 1) a w λ o w=>
 opV Pg (alloc 300 true (.tuple #[])) a w λ e w=>
 opU Pg (storeAt 300 e n) a w λ w=>
 opV Pg (loadAt 9 f) a w λ p w=>
 opV Pg (ZA .eql 9 false c p) a w λ q w=>
 Zp (λ (w:Wd)=>
 k w) λ b=>
 Zr q (
 b w) (
 opV Pg (Op.unary .not o) a w λ r w=>
 Zr r (
 opU Pg (storeAt 4 j (.bool true)) a w λ w=>
 b w) (
 W3 h i e b a l R w))
def W5 a b (ds:LDf) R w:=
 opV Pg (loadAt 4 b) (OQ0 ds 49 a R) w λ c w=>
 Zr c (
 opU Pg (storeAt 49 a (QqQ 9)) (OQ0 ds 49 a R) w λ w=>
 Ul Pg ds [(some 49,a)] R w) (
 opU Pg (storeAt 49 a (QqQ 0)) (OQ0 ds 49 a R) w λ w=>
 Ul Pg ds [(some 49,a)] R w)
def WJ c d e a b f (ds:LDf) R w:=
 BF Pg f ds (λ l1 g w h i j=>
 Ad l1 w λ w=>
 W4 c d e a b g h j i R w) (λ ch ds w=>OQ0 ds 49 a R ch w) w (λ ds w=>
 W5 a b ds R w) [λ ds w=>
 Ul Pg ds [(some 49,a)] R w]
def W6 c d e f a (ds:LDf) R w:=
 opV Pg (alloc 4 true (.tuple #[])) (OQ0 ds 49 a R) w λ b w=>
 opU Pg (storeAt 4 b (.bool false)) (OQ0 ds 49 a R) w λ w=>
 opV Pg (loadAt 120 c) (OQ0 ds 49 a R) w λ g w=>
 ZU Pg 248 #[g] (OQ0 ds 49 a R) w λ h w=>
 WJ d e f a b h ds R w
def W7 b c d e a f (ds:LDf) R w:=
 opV Pg (Op.unary .not f) (OQ0 ds 49 a R) w λ g w=>
 Zr g (
 opU Pg (storeAt 49 a (QqQ 2)) (OQ0 ds 49 a R) w λ w=>
 Ul Pg ds [(some 49,a)] R w) (
 W6 b c d e a ds R w)
def ZeJ c d e f (R:RT) w:=
 (λ (ds:LDf)=>
 opV Pg (box 120 c) (ZD Pg ds [(some 49,undef)] R) w λ b w=>
 opV Pg (box 9 d) (ZD Pg ds [(some 49,undef)] R) w λ g w=>
 opV Pg (box 296 e) (ZD Pg ds [(some 49,undef)] R) w λ h w=>
 opV Pg (box 311 f) (ZD Pg ds [(some 49,undef)] R) w λ i w=>
 opV Pg (alloc 49 true (.tuple #[])) (ZD Pg ds [(some 49,undef)] R) w λ a w=>
 opV Pg (loadAt 120 b) (OQ0 ds 49 a R) w λ j w=>
 ZU Pg 246 #[j] (OQ0 ds 49 a R) w λ k w=>
 W7 b g h i a k ds R w) []
def Zg3:QqX4 259 ZeJ:=λ h=>by
 refine yE func259 ?_
 unfold ZeJ at h
 dsimp only at h
 refine zs<|zr<|yv h λ h=>yv h λ h=>yv h λ h=>yv h λ h=>yv h λ h=>zn<|zk<|zs<|zs<|zr<|yv h λ h=>yc h Zen λ h=>yv h λ h=>?_
 refine zn<|zk<|yC h (λ h=>zs<|zr<|yu h λ h=>zn<|zk<|Zg<|Zb<|X8 rfl h) λ h=>Zk<|zk<|zs<|zr<|yv h λ h=>yu h λ h=>zn<|zk<|zs<|zs<|zr ?_
 refine yv h λ h=>yc h ZfH λ h=>zn<|zk<|Zl<|Gr [.ret] h rfl (λ l1 t18 w Kr1 Xr1 Qr1 h=>?_) (λ ds w h=>?_) (λ c ds w h=>?_) (λ ch ds w h=>X7 rfl h)
 · refine zr<|zm<|zn<|zk ?_
   obtain ⟨hr,h⟩:=h
   refine ⟨rfl,hr,λ w hb=>?_⟩
   have h:=h w hb
   refine Zl<|zs<|zr<|yv h λ h=>zm<|yv h λ h=>zm<|yv h λ h=>yv h λ h=>yv h λ h=>yu h λ h=>zm<|zn<|zk<|Zl ?_
   refine zs<|zr<|zm<|yv h λ h=>yb h λ h=>zm<|zn<|zk<|yJ0 [29,30,31,32,33,34,35,36] h (λ _ _ hkK2 h=>?_) λ σ w h=>?_
   · refine yC h (λ h=>?_) λ h=>?_
     · refine Zk<|zk ?_
       exact zt hkK2 h
     refine zs<|zr<|zm<|yv h λ h=>zm<|zn<|zk<|yC h (λ h=>?_) λ h=>?_
     · refine zr<|yu h λ h=>zn<|zk ?_
       exact zt hkK2 h
     refine zs<|zr<|yv h λ h=>yv h λ h=>yV h λ h=>yv h λ h=>zm<|zn<|zk<|yC h (λ h=>zs<|zr<|yu h λ h=>zn<|zk<|Zg<|Zb<|Zh<|Zh<|⟨rfl,0,rfl,h⟩) λ h=>Zk<|zk ?_
     exact zt hkK2 h
   exact Zf<|Zf<|⟨rfl,h⟩
 · refine Zf<|zk<|zs<|zs<|zr<|yv h λ h=>zn<|zk<|yC h (λ h=>zs<|zr<|yu h λ h=>zn<|zk<|Zg<|Zb<|X8 rfl h) λ h=>Zk<|zk<|zs<|zr<|yu h λ h=>?_
   exact zn<|zk<|Zg<|X8 rfl h
 rcases c with _ | c
 · refine ⟨_,rfl,.inl ⟨rfl,?_⟩⟩
   exact Zh<|Zb<|X8 rfl h
 exact h.elim
def ZgL a b c R w:=
 opV Pg (box 4 a) (Zc R) w λ d w=>
 L0 120 b R w λ e w=>
 opV Pg (makeFunc (.func 262) #[] #[c,d]) (Zc R) w λ f w=>
 C0 261 #[e,f] R w λ g w=>
 R (.returned g) w
def ZgM:QqX3 260 ZgL:=λ h=>by
 refine yD func260 ?_
 refine zs<|zr<|yv h λ h=>zm<|zn<|zk<|zs<|zr<|yv h λ h=>yF h λ h=>yc h Zko λ h=>zm<|zn<|zk<|Zg ?_
 exact Zj rfl rfl h
open Go.RowKit (intOf)
def Q3 (c:UInt8):Bool:=(decide (65≤(c.toNat:Int))&&decide ((c.toNat:Int)≤90))||(decide (97≤(c.toNat:Int))&&decide ((c.toNat:Int)≤122))
def G1 (c:UInt8):Bool:=decide (48≤(c.toNat:Int))&&decide ((c.toNat:Int)≤57)
def WR (c:UInt8):Bool:=Q3 c||G1 c||((c.toNat:Int) == 95)
def zG (v:Int):Bool:=decide (-1048576≤v)&&decide (v≤1048576)
def Yq (s:BAr):Bool:=decide (1≤(s.size:Int))&&decide ((s.size:Int)≤32)&&(match s.data.toList with | []=>false | c::_=>Q3 c)&&s.data.toList.all WR
def AA (w0:Wd) (c:UInt8):Ret Pg 72 #[.int .u8 c.toNat] w0 λ r w'=>r = .bool (Q3 c)∧Ext w0 w':=by
 refine Zg7 (R:=ZE _) ?_;unfold Zg6
 simp (disch:=try exact DI) only [↓PR,QR,simprocAttr,↓I8,↓I9]
 unfold Q3
 have e:=Ext.refl w0
 generalize decide (65≤(c.toNat:Int))=b1
 generalize decide ((c.toNat:Int)≤90)=b2
 generalize decide (97≤(c.toNat:Int))=b3
 generalize decide ((c.toNat:Int)≤122)=b4
 cases b1<;>cases b2<;>cases b3<;>cases b4<;>simp (disch:=try exact DI) only [↓PR,QR,simprocAttr,↓I8,↓I9]<;>exact ⟨by trivial,e⟩
def jm (w0:Wd) (c:UInt8):Ret Pg 81 #[.int .u8 c.toNat] w0 λ r w'=>r = .bool (Q3 c)∧Ext w0 w':=by
 refine Zlc (R:=ZE _) ?_;unfold n57
 simp (disch:=try exact DI) only [↓PR,QR,simprocAttr,↓SD,↓SE]
 unfold Q3
 have e:=Ext.refl w0
 generalize decide (65≤(c.toNat:Int))=b1
 generalize decide ((c.toNat:Int)≤90)=b2
 generalize decide (97≤(c.toNat:Int))=b3
 generalize decide ((c.toNat:Int)≤122)=b4
 cases b1<;>cases b2<;>cases b3<;>cases b4<;>simp (disch:=try exact DI) only [↓PR,QR,simprocAttr,↓SD,↓SE]<;>exact ⟨by trivial,e⟩
def N3 (w0:Wd) (c:UInt8):Ret Pg 73 #[.int .u8 c.toNat] w0 λ r w'=>r = .bool (G1 c)∧Ext w0 w':=by
 refine Zg5 (R:=ZE _) ?_;unfold Zg4
 refine Qqw ?_
 unfold G1
 have e:=Ext.refl w0
 generalize decide (48≤(c.toNat:Int))=b1
 generalize decide ((c.toNat:Int)≤57)=b2
 cases b1<;>cases b2<;>simp (disch:=try exact DI) only [↓PR,QR,simprocAttr,joinK_eq]<;>exact ⟨by trivial,e⟩
def Mn (w0:Wd) (c:UInt8):Ret Pg 82 #[.int .u8 c.toNat] w0 λ r w'=>r = .bool (G1 c)∧Ext w0 w':=by
 refine Zlb (R:=ZE _) ?_;unfold n56
 refine Qqw ?_
 unfold G1
 have e:=Ext.refl w0
 generalize decide (48≤(c.toNat:Int))=b1
 generalize decide ((c.toNat:Int)≤57)=b2
 cases b1<;>cases b2<;>simp (disch:=try exact DI) only [↓PR,QR,simprocAttr,joinK_eq]<;>exact ⟨by trivial,e⟩
def DS (w0:Wd) (v:Int):Ret Pg 253 #[.int .i64 v] w0 λ r w'=>r = .bool (zG v)∧Ext w0 w':=by
 refine Zhb (R:=ZE _) ?_;unfold Zha
 refine Qqw ?_
 unfold zG
 have e:=Ext.refl w0
 generalize decide (-1048576≤v)=b1
 generalize decide (v≤1048576)=b2
 cases b1<;>cases b2<;>simp (disch:=try exact DI) only [↓PR,QR,simprocAttr,joinK_eq]<;>exact ⟨by trivial,e⟩
def jE (w:Wd) (v:Vl) (l:List Bool):Prop:=Zd w 1 Zfi v l
def jV (w0:Wd) (v:Vl) (l:List Bool) (x:Bool) (hs:jE w0 v l) :
 Ret Pg 137 #[v,.bool x] w0 λ r w'=>r = .int .i64 (idx (x == ·) l)∧Ext w0 w':=by
 obtain ⟨A,c,rfl,hlc,hcm,hlm,Xj⟩:=Zd.open hs
 refine ZhV (R:=ZE _) ?_;unfold ZhU
 refine Qqv ?_
 refine ZL (λ i w=>∃ k:Nat,i = .int .i64 k∧k≤l.length∧Ext w0 w∧∀ (j:Nat) y,j < k→l[j]?=some y→(x == y)=false) (λ i _=>l.length - (intOf i).toNat) ⟨0,rfl,by omega,Ext.refl _,λ j y h=>by omega⟩ ?_
 rintro i w ⟨k,rfl,hk,e,hb⟩
 by_cases Yo:k < l.length
 · obtain ⟨y,hy⟩:=getElem?_lt Yo
   obtain ⟨b,o,cs,rfl,hl,hA,rfl⟩:=Xj k y hy
   have hd:decide ((k:Int) < (l.length:Int))=true:=by simp;omega
   have hc:w.cell? ⟨b,o+k*1,none⟩=some (.bool y):=(hA.ext e).cell 0 rfl
   simp (disch:=try exact DI) only [↓PR,QR,simprocAttr,hd,hc,↓Lb]
   cases hp:(x == y) with
   | true=>
    refine Qqv ?_
    exact ⟨by rw [We hy hp hb],e⟩
   | false=>
    refine Qqv ?_
    exact ⟨⟨k+1,rfl,by omega,e,before_succ hb hy hp⟩,by simp [intOf];omega⟩
 · have hd:decide ((k:Int) < (l.length:Int))=false:=by simp;omega
   simp (disch:=try exact DI) only [↓PR,QR,simprocAttr,hd,↓Lb]
   exact ⟨by rw [Wf λ j y hy=>hb j y (by have:=(Qqx hy).1;omega) hy],e⟩
def zK (w0:Wd) (v:Vl) (l:List Bool) (x:Bool) (hs:jE w0 v l) :
 Ret Pg 107 #[v,.bool x] w0 λ r w'=>r = .bool (l.any (x == ·))∧Ext w0 w':=by
 refine Zhw (R:=ZE _) ?_;unfold Zhv
 refine Zi (jV _ _ l x hs) ?_
 rintro r w' ⟨rfl,e⟩
 refine Qqw ?_
 exact ⟨by rw [VG],e⟩
def D4 (w0:Wd) (v:Vl) (l:List Bool) (hs:jE w0 v l) :
 Ret Pg 74 #[v] w0 λ r w'=>r = .bool (l.all id)∧Ext w0 w':=by
 refine Zg2 (R:=ZE _) ?_;unfold Zg1
 refine Zi (zK _ _ l false hs) ?_
 rintro r w' ⟨rfl,e⟩
 refine Qqw ?_
 refine ⟨?_,e⟩
 congr 1
 clear hs
 induction l with
 | nil=>rfl
 | cons a l ih=>cases a<;>simp_all
def Iv (w0:Wd) (c:UInt8):Ret Pg 71 #[.int .u8 c.toNat] w0 λ r w'=>r = .bool (!WR c)∧Ext w0 w':=by
 refine ZgS (R:=ZE _) ?_;unfold ZgR
 refine Zi (AA _ c) ?_
 rintro r w' ⟨rfl,e⟩
 simp (disch:=try exact DI) only [↓PR,QR,simprocAttr,↓xE,↓xF]
 unfold WR
 cases Q3 c with
 | true=>simp (disch:=try exact DI) only [↓PR,QR,simprocAttr,↓xE,↓xF];exact ⟨by trivial,e⟩
 | false=>
  simp (disch:=try exact DI) only [↓PR,QR,simprocAttr,↓xE,↓xF]
  refine Zi (N3 _ c) ?_
  rintro r w2 ⟨rfl,e2⟩
  have e3:=e.trans e2
  cases G1 c with
  | true=>simp (disch:=try exact DI) only [↓PR,QR,simprocAttr,↓xE,↓xF];exact ⟨by trivial,e3⟩
  | false=>simp (disch:=try exact DI) only [↓PR,QR,simprocAttr,↓xE,↓xF];exact ⟨by trivial,e3⟩
def Ga (w:Wd) (v:Vl) (l:List UInt8):Prop:=Zd w 1 MO v l
def KH (w0:Wd) (v:Vl) (l:List UInt8) (g:FuncId) (caps:AVl) (p:UInt8→Bool) (hs:Ga w0 v l) (hg:Callable Pg g) (hc:US w0 (λ _ v x=>v = .int .u8 (x.toNat:Int)) g caps p l) :
 Ret Pg 75 #[v,.func (.func g) #[] caps] w0 λ r w'=>r = .bool (l.any p)∧Ext w0 w':=by
 refine Zhs (R:=ZE _) ?_;unfold Zhr
 refine Zi (GT _ _ l g caps p hs hg hc) ?_
 rintro r w' ⟨rfl,e⟩
 refine Qqw ?_
 exact ⟨by rw [VG],e⟩
def Ac (w:Wd) (l:List Bool) (T:TypeId) (hl:l.length≤9223372036854775807):jE (w.alloc (.cells (l.map Value.bool).toArray T)) (.slice (some ⟨w.heap.size,0,none⟩) l.length l.length) l:=Zd.new1 _ (λ _ _=>rfl) w l T hl
def Pi {w:Wd} {p:Nat} (hp:p=w.heap.size) (a b:Bool) (T:TypeId):Ret Pg 74 #[.slice (some ⟨p,0,none⟩) 2 2] (w.alloc (.cells #[.bool a,.bool b] T)) λ r w'=>r = .bool (a&&b)∧Ext (w.alloc (.cells #[.bool a,.bool b] T)) w':=by
 subst hp
 have h:=D4 _ _ [a,b] (Ac w [a,b] T (by simp))
 simpa using h
def FH {w:Wd} {p:Nat} (hp:p=w.heap.size) (a b c:Bool) (T:TypeId):Ret Pg 74 #[.slice (some ⟨p,0,none⟩) 3 3] (w.alloc (.cells #[.bool a,.bool b,.bool c] T)) λ r w'=>r = .bool (a&&b&&c)∧Ext (w.alloc (.cells #[.bool a,.bool b,.bool c] T)) w':=by
 subst hp
 have h:=D4 _ _ [a,b,c] (Ac w [a,b,c] T (by simp))
 simpa [Bool.and_assoc] using h
def UP (w0:Wd) (s:BAr):Ret Pg 35 #[.string s] w0 λ r w'=>r = .bool (Yq s)∧Ext w0 w':=by
 refine ZgQ (R:=ZE _) ?_;unfold ZgP
 simp (disch:=try exact DI) only [↓PR,QR,simprocAttr,↓za,↓zb]
 have e1:Ext w0 (w0.alloc (.cells #[.bool (decide (1≤(s.size:Int))),.bool (decide ((s.size:Int)≤32))] 4)):=(Ext.refl w0).alloc _
 refine Zi (D4 _ _ [decide (1≤(s.size:Int)),decide ((s.size:Int)≤32)] (Ac w0 [decide (1≤(s.size:Int)),decide ((s.size:Int)≤32)] 4 (by simp))) ?_
 rintro r w1 ⟨rfl,e2⟩
 have e:=e1.trans e2
 have hall:[decide (1≤(s.size:Int)),decide ((s.size:Int)≤32)].all id=(decide (1≤(s.size:Int))&&decide ((s.size:Int)≤32)):=by simp
 rw [hall]
 unfold Yq
 cases h1:(decide (1≤(s.size:Int))&&decide ((s.size:Int)≤32)) with
 | false=>simp (disch:=try exact DI) only [↓PR,QR,simprocAttr,↓za,↓zb];exact ⟨by trivial,e⟩
 | true=>
  simp (disch:=try exact DI) only [↓PR,QR,simprocAttr,↓za,↓zb]
  have YJ:s.size≤9223372036854775807:=by simp only [Bool.and_eq_true,decide_eq_true_eq] at h1;omega
  obtain ⟨c,cs,hcs⟩:∃ c cs,s.data.toList=c::cs:=by
   simp only [Bool.and_eq_true,decide_eq_true_eq] at h1
   cases hd:s.data.toList with
   | nil=>
    have:s.data.size=0:=by rw [← Array.length_toList,hd];rfl
    have h0:s.size=s.data.size:=rfl
    omega
   | cons c cs=>exact ⟨c,cs,rfl⟩
  rw [Ub underlying9 s .i64 (b:=c) (by rw [hcs];rfl)]
  refine Zi (AA _ c) ?_
  rintro r w2 ⟨rfl,e3⟩
  have e:=e.trans e3
  rw [hcs]
  cases hl:Q3 c with
  | false=>simp (disch:=try exact DI) only [↓PR,QR,simprocAttr,↓za,↓zb];exact ⟨by rw [hl];rfl,e⟩
  | true=>
   simp (disch:=try exact DI) only [↓PR,QR,simprocAttr,↓za,↓zb]
   refine Bw underlying9 underlying40 underlying5 s YJ ?_
   rintro v w3 e4 ⟨A,cp,rfl,hc1,hc2,b,rfl,X4⟩
   have Vs:s.data.toList.length=s.size:=by rw [Array.length_toList];rfl
   have hB:Ga w3 (.slice (some ⟨b,0,none⟩) s.size cp) s.data.toList:=by
    rw [← Vs]
    refine ⟨_,_,rfl,by omega,hc2,λ _=>⟨_,_,rfl,λ k x hx=>⟨[.int .u8 x.toNat],rfl,λ j v hv=>?_,rfl⟩⟩⟩
    cases j with
    | zero=>injection hv with hv;subst hv;simpa using X4 k x hx
    | succ j=>cases hv
   have e:=e.trans e4
   refine Zi (KH _ _ s.data.toList _ _ (λ x=>!WR x) hB c71 ?_) ?_
   · rintro w v x _ _ rfl
     exact Iv w x
   · rintro r w4 ⟨rfl,e5⟩
     simp (disch:=try exact DI) only [↓PR,QR,simprocAttr,↓za,↓zb]
     refine ⟨?_,e.trans e5⟩
     rw [hcs,hl]
     congr 1
     generalize c::cs=l
     clear hall
     induction l with
     | nil=>rfl
     | cons a l ih=>simp only [List.any_cons,List.all_cons,Bool.not_or,Bool.not_not,Bool.true_and] at *;rw [ih]
def jo (t:Xc):Bool:=Yq t.field&&(t.factor != 0)&&zG t.factor
def FE (w:Wd) (t:Xc) (pb r:Nat) (names:List BAr) (X4:w.cell? ⟨pb,0,none⟩=some (.map (some r))) (hm:Kv w r names) :
 Ret Pg 252 #[UB t,Qq5 pb] w λ v w'=>v = .bool (yl names t.field||!jo t)∧Kv w' r (names++[t.field])∧w'.cell? ⟨pb,0,none⟩=some (.map (some r)) ∧
  ∀ w0,Ext w0 w→w0.heap.size≤r→Ext w0 w':=by
 have hpb:pb < w.heap.size:=World.block_lt_of_cell? w _ X4
 obtain ⟨L,c,hM,hl⟩:=hm
 refine Zg0 (R:=ZE _) ?_;unfold ZgZ
 unfold UB
 refine Qqh X4 ?_
 have e1:Ext w (w.alloc (.cells #[.string t.field,.int .i64 t.factor] 128)):=(Ext.refl w).alloc _
 rw [jh underlying199 underlying9 ty4 (hM.ext e1)]
 refine Qqh X4 ?_
 rw [GH underlying199 underlying9 (hM.ext e1)]
 obtain ⟨W,hW⟩:∃ W,((w.alloc (.cells #[.string t.field,.int .i64 t.factor] 128)).putObj r (Gj (UH L c t.field (.bool true)) (U5 L c t.field)))=W:=⟨_,rfl⟩
 have hS:Kv W r (names++[t.field]):=by rw [← hW];exact Kv.put (hM.ext e1) hl _
 have hC:W.cell? ⟨pb,0,none⟩=some (.map (some r)):=by rw [← hW,KZ (hM.ext e1)];exact e1.cell X4
 have hE:∀ w0,Ext w0 w→w0.heap.size≤r→Ext w0 W:=λ w0 h0 hr=>by rw [← hW];exact (h0.trans e1).putObj hr _
 have hA0:W.cell? ⟨w.heap.size,0,none⟩=some (.string t.field):=by rw [← hW,KZ (hM.ext e1),QN];rfl
 have hA1:W.cell? ⟨w.heap.size,1,none⟩=some (.int .i64 t.factor):=by rw [← hW,KZ (hM.ext e1),QN];rfl
 rw [hW]
 refine ZB ?_
 have ht8:(Sw.look L t.field).getD (.bool false) = .bool (yl names t.field):=by rw [hl];cases yl names t.field<;>rfl
 rw [ht8]
 have fin:∀ b w',Ext W w'→b=(yl names t.field||!jo t)→(Value.bool b = .bool (yl names t.field||!jo t)∧Kv w' r (names++[t.field])∧w'.cell? ⟨pb,0,none⟩=some (.map (some r))∧∀ w0,Ext w0 w→w0.heap.size≤r→Ext w0 w'):=
  λ b w' e hb=>⟨by rw [hb],hS.ext e,e.cell hC,λ w0 h0 hr=>(hE w0 h0 hr).trans e⟩
 cases PP:yl names t.field with
 | true=>
  simp (disch:=try exact DI) only [↓PR,QR,simprocAttr,↓AO,↓AP]
  exact ⟨trivial,(fin (true||!jo t) _ (Ext.refl _).wdrew (by rw [PP])).2⟩
 | false=>
  simp (disch:=try exact DI) only [↓PR,QR,simprocAttr,↓AO,↓AP,hA0,hA1]
  refine zcr (UP _ t.field) λ w1 e2=>?_
  refine ⟨e2,?_⟩
  refine zcr (DS _ t.factor) λ w2 e3=>?_
  refine ⟨e2.trans e3,?_⟩
  simp (disch:=try exact DI) only [↓PR,QR,simprocAttr,↓AO,↓AP]
  have e:=e2.trans e3
  refine ⟨e.alloc _,?_⟩
  refine zcr (FH rfl _ _ _ _) λ w3 e4=>?_
  refine ⟨(e.alloc _).trans e4,?_⟩
  simp (disch:=try exact DI) only [↓PR,QR,simprocAttr,↓AO,↓AP]
  exact ⟨rfl,(fin (!jo t) w3 (((Ext.refl _).wdrew).trans ((e.alloc _).trans e4)) (by rw [PP];rfl)).2⟩
def BX:List BAr→List Xc→Bool
 | _,[]=>true
 | seen,t::ts=>!(yl seen t.field)&&jo t&&BX (seen++[t.field]) ts
def BY:∀ (ts:List Xc) (seen:List BAr),BX seen ts=true↔∀ k x,ts[k]?=some x→(yl (seen++(ts.take k).map (·.field)) x.field||!jo x)=false
 | [],seen=>by simp [BX]
 | t::ts,seen=>by
  simp only [BX,Bool.and_eq_true,BY ts]
  constructor
  · rintro ⟨⟨h1,h2⟩,h3⟩ k x hx
    cases k with
    | zero=>simp at hx;subst hx;simpa using ⟨by simpa using h1,h2⟩
    | succ k=>have:=h3 k x (by simpa using hx);simpa using this
  · intro h
    refine ⟨?_,λ k x hx=>by simpa using h (k+1) x (by simpa using hx)⟩
    have:=h 0 t rfl
    simp at this
    exact ⟨by rw [this.1];rfl,this.2⟩
def KO (w0 w1:Wd) (v:Vl) (l:List Xc) (g:FuncId) (caps:AVl) (p:Nat→Bool) (J:Nat→Wd→Prop) (hs:Z6 w0 v l) (hg:Callable Pg g) (hJ:∀ k w,J k w→Ext w0 w) (h0:J 0 w1)
 (hc:∀ k x w u,l[k]?=some x→J k w→(λ _ v x=>v=UB x) w u x→Ret Pg g (#[u]++caps) w λ r w'=>r = .bool (p k)∧J (k+1) w') :
 Ret Pg 254 #[v,.func (.func g) #[] caps] w1 λ r w'=>r = .bool ((List.range l.length).any p)∧∃ k,J k w':=by
 refine Zhq (R:=ZE _) ?_;unfold Zhp
 refine Zi (zN w0 _ _ l g caps p J hs hg hJ h0 hc) ?_
 rintro r w' ⟨rfl,e⟩
 refine Qqw ?_
 exact ⟨by rw [VG],e⟩
def J2 (base:Int) (ts:List Xc):Bool:=zG base&&decide (ts.length≤4)&&BX [] ts
def xg (w0:Wd) (v:Vl) (base:Int) (ts:List Xc) (hs:zP w0 v base ts) :
 Ret Pg 246 #[v] w0 λ r w'=>r = .bool (J2 base ts)∧Ext w0 w':=by
 obtain ⟨tv,rfl,hT⟩:=hs
 refine ZgY (R:=ZE _) ?_;unfold ZgX
 refine Qqv ?_
 obtain ⟨A,c,rfl,hlc,hcm,hlm,Xj⟩:=Zd.open hT
 obtain ⟨W1,hW1⟩:∃ W1,w0.alloc (.cells #[.int .i64 base,.slice A ts.length c] 120)=W1:=⟨_,rfl⟩
 have e0:Ext w0 W1:=by rw [← hW1];exact (Ext.refl w0).alloc _
 have hc0:W1.cell? ⟨w0.heap.size,0,none⟩=some (.int .i64 base):=by rw [← hW1];exact Qqf
 have hc1:W1.cell? ⟨w0.heap.size,1,none⟩=some (.slice A ts.length c):=by rw [← hW1];exact Qqf
 have Vs:w0.heap.size+1=W1.heap.size:=by rw [← hW1];exact Qqf
 simp only [hW1,Vs]
 refine Em (w1:=W1) (((Ext.refl W1).alloc _).alloc _) ?_
 simp (disch:=try exact DI) only [↓PR,QR,simprocAttr,↓xG,↓xH,↓xI,hc0,hc1]
 generalize hW:(World.drew _)=W
 have e1:Ext W1 W:=by rw [← hW];exact (((Ext.refl W1).alloc _).alloc _).wdrew
 have hpb:W.cell? ⟨W1.heap.size+1,0,none⟩=some (.map (some W1.heap.size)):=by rw [← hW];exact Qqf
 have hset:Kv W W1.heap.size []:=by
  rw [← hW]
  have h:=(jZ.new W1).ext (((Ext.refl _).alloc (Obj.cells (#[Value.map none].setIfInBounds 0 (Value.map (some W1.heap.size))) 199)).wdrew)
  exact ⟨[],0,by simpa using h,λ s=>rfl⟩
 clear hW
 refine zcr (DS _ base) λ w1 e2=>?_
 refine ⟨e1.trans e2,?_⟩
 refine Qqv ?_
 refine ⟨e1.trans (e2.alloc _),?_⟩
 refine zcr (Pi rfl _ _ _) λ w2 e3=>?_
 replace e2:=(e2.alloc _).trans e3
 refine ⟨e1.trans e2,?_⟩
 simp (disch:=try exact DI) only [↓PR,QR,simprocAttr,↓xG,↓xH,↓xI]
 unfold J2
 cases hb:(zG base&&decide (ts.length≤4)) with
 | false=>
  have hb':(zG base&&decide ((ts.length:Int)≤4))=false:=by rw [← hb];congr 1;simp;omega
  rw [hb']
  simp (disch:=try exact DI) only [↓PR,QR,simprocAttr,↓xG,↓xH,↓xI,hc0,hc1]
  exact ⟨by trivial,e0.trans (e1.trans e2)⟩
 | true=>
  have hb':(zG base&&decide ((ts.length:Int)≤4))=true:=by rw [← hb];congr 1;simp;omega
  rw [hb']
  simp (disch:=try exact DI) only [↓PR,QR,simprocAttr,↓xG,↓xH,↓xI,hc0,hc1]
  refine Zi (KO W1 w2 _ ts 252 _ (λ k=>match ts[k]? with | some t=>yl ((ts.take k).map (·.field)) t.field||!jo t | none=>true) (λ k w=>Kv w W1.heap.size ((ts.take k).map (·.field))∧w.cell? ⟨W1.heap.size+1,0,none⟩=some (.map (some W1.heap.size))∧Ext W1 w) (hT.ext e0) Zki (λ k w h=>h.2.2) ⟨hset.ext e2,e2.cell hpb,e1.trans e2⟩ ?_) ?_
  · rintro k x w u hx ⟨h1,h2,h3⟩ rfl
    simp only [Vs]
    refine Ret.mono (FE w x _ _ _ h2 h1) ?_
    rintro v w' ⟨rfl,h4,h5,h6⟩
    refine ⟨by rw [hx],?_,h5,h6 _ h3 (Nat.le_refl _)⟩
    rw [List.take_add_one,hx]
    simpa using h4
  · rintro _ w3 ⟨rfl,k,h1,h2,h3⟩
    refine ⟨h3,?_⟩
    simp (disch:=try exact DI) only [↓PR,QR,simprocAttr,↓xG,↓xH,↓xI]
    refine ⟨?_,e0.trans h3⟩
    congr 1
    rw [Bool.eq_iff_iff,BY,Bool.not_eq_true',List.any_eq_false]
    simp only [List.mem_range,List.nil_append]
    constructor
    · intro h k x hx
      have:=h k (Qqx hx).1
      rw [hx] at this
      simpa using this
    · intro h k hk
      rw [List.getElem?_eq_getElem hk]
      have:=h k _ (List.getElem?_eq_getElem hk)
      simpa using this
def VI (f:Zv):Bool:=f.kind == 1||f.kind == 2||f.kind == 3
def UF (f:Zv):Int:=if f.kind == 2 then f.low else f.high
abbrev YB (lo hi:Int):Vl := .agg #[.int .i64 lo,.int .i64 hi]
def Iw (w0:Wd) (v:Vl) (f:Zv) (hf:Z8 w0 v f):Ret Pg 264 #[v] w0 λ r w'=>r = .bool (VI f)∧Ext w0 w':=by
 obtain ⟨tv,cv,rfl,hT,hC⟩:=hf
 refine Zlw (R:=ZE _) ?_;unfold n77
 simp (disch:=try exact DI) only [↓PR,QR,simprocAttr,↓ZdO]
 exact ⟨by first | trivial | rfl,ee⟩
def NK (w0:Wd) (v:Vl) (f:Zv) (hf:Z8 w0 v f):Ret Pg 255 #[v] w0 λ r w'=>r = .tuple #[if VI f then YB f.low (UF f) else YB 0 0,.int .i64 (if VI f then 0 else 2)]∧Ext w0 w':=by
 obtain ⟨tv,cv,rfl,hT,hC⟩:=hf
 refine Zlx (R:=ZE _) ?_;unfold n78
 simp (disch:=try exact DI) only [↓PR,QR,simprocAttr,↓Dw,↓Dx,↓Dy,↓Dz]
 refine zcr (Iw _ _ f ⟨tv,cv,rfl,Z6.ext hT ee,Yu.ext hC ee⟩) λ w1 e1=>?_
 have s1:=e1.size
 try simp only [World.size_alloc,World.size_setCell,World.size_drew,World.putObj_size,Sw.putW_size] at s1
 cases hn:VI f with
 | false=>
  simp (disch:=try exact DI) only [↓PR,QR,simprocAttr,↓Dw,↓Dx,↓Dy,↓Dz,e1.cellQ,e1.frozenQ]
  exact ⟨by first | trivial | rfl,ee⟩
 | true=>
  simp (disch:=try exact DI) only [↓PR,QR,simprocAttr,↓Dw,↓Dx,↓Dy,↓Dz,e1.cellQ,e1.frozenQ]
  unfold UF
  cases f.kind == 2
  · simp (disch:=try exact DI) only [↓PR,QR,simprocAttr,↓Dw,↓Dx,↓Dy,↓Dz,e1.cellQ,e1.frozenQ]
    exact ⟨by first | trivial | rfl,ee⟩
  · simp (disch:=try exact DI) only [↓PR,QR,simprocAttr,↓Dw,↓Dx,↓Dy,↓Dz,e1.cellQ,e1.frozenQ]
    exact ⟨by first | trivial | rfl,ee⟩
def zY (w0:Wd) (v:Vl) (l:List Xr) (g:FuncId) (caps:AVl) (p:Xr→Bool) (hs:VN w0 v l) (hg:Callable Pg g) (hc:US w0 Wo g caps p l) :
 Ret Pg 138 #[v,.func (.func g) #[] caps] w0 λ r w'=>r = .tuple #[.int .i64 (if idx p l < 0 then 0 else idx p l),.bool (l.any p)]∧Ext w0 w':=by
 refine ZlO (R:=ZE _) ?_;unfold n95
 refine zcr (KI _ _ l g caps p hs hg hc) λ w1 e1=>?_
 have s1:=e1.size
 try simp only [World.size_alloc,World.size_setCell,World.size_drew,World.putObj_size,Sw.putW_size] at s1
 simp (disch:=try exact DI) only [↓PR,QR,simprocAttr,↓Zd7]
 exact ⟨by rw [VG],e1⟩
def jv (w0:Wd) (v:Vl) (l:List Zv) (g:FuncId) (caps:AVl) (p:Zv→Bool) (hs:YR w0 v l) (hg:Callable Pg g) (hc:US w0 Z8 g caps p l) :
 Ret Pg 164 #[v,.func (.func g) #[] caps] w0 λ r w'=>r = .tuple #[.int .i64 (if idx p l < 0 then 0 else idx p l),.bool (l.any p)]∧Ext w0 w':=by
 refine ZlN (R:=ZE _) ?_;unfold n94
 refine zcr (VA _ _ l g caps p hs hg hc) λ w1 e1=>?_
 have s1:=e1.size
 try simp only [World.size_alloc,World.size_setCell,World.size_drew,World.putObj_size,Sw.putW_size] at s1
 simp (disch:=try exact DI) only [↓PR,QR,simprocAttr,↓Zd6]
 exact ⟨by rw [VG],e1⟩
def Od {α:Type} (p:α→Bool) (l:List α):Int:=if idx p l < 0 then 0 else idx p l
def FB (w0:Wd) (v:Vl) (f:Zv) (pb:Nat) (s:BAr) (hf:Z8 w0 v f) (hp:w0.cell? ⟨pb,0,none⟩=some (.string s)):Ret Pg 165 #[v,Qq5 pb] w0 λ r w'=>r = .bool (decide (f.name=s))∧Ext w0 w':=by
 obtain ⟨tv,cv,rfl,hT,hC⟩:=hf
 have hb:=World.block_lt_of_cell? w0 _ hp
 simp only at hb
 refine Zlt (R:=ZE _) ?_;unfold n74
 simp (disch:=try exact DI) only [↓PR,QR,simprocAttr,joinK_eq,hp]
 exact ⟨by first | trivial | rfl,ee⟩
def Iu (w0:Wd) (v:Vl) (m:Xr) (pb:Nat) (s:BAr) (hf:Wo w0 v m) (hp:w0.cell? ⟨pb,0,none⟩=some (.string s)):Ret Pg 139 #[v,Qq5 pb] w0 λ r w'=>r = .bool (decide (m.name=s))∧Ext w0 w':=by
 obtain ⟨fv,rfl,hF⟩:=hf
 have hb:=World.block_lt_of_cell? w0 _ hp
 simp only at hb
 refine Zlv (R:=ZE _) ?_;unfold n76
 simp (disch:=try exact DI) only [↓PR,QR,simprocAttr,joinK_eq,hp]
 exact ⟨by first | trivial | rfl,ee⟩
def xc (w0:Wd) (v:Vl) (m:Xr) (s:BAr) (hm:Wo w0 v m):Ret Pg 140 #[v,.string s] w0 λ r w'=>r = .tuple #[.int .i64 (Od (λ f=>decide (f.name=s)) m.fields),.bool (m.fields.any λ f=>decide (f.name=s))]∧Ext w0 w':=by
 obtain ⟨fv,rfl,hF⟩:=hm
 refine Zls (R:=ZE _) ?_;unfold n73
 refine Qqw ?_
 refine Zi (jv _ _ m.fields _ _ (λ f=>decide (f.name=s)) (hF.ext ee) ZjI ?_) ?_
 · intro w v f hf e hv
   exact FB w v f _ s hv (e.cell (by simp (disch:=try exact DI) only [↓PR,QR,simprocAttr]))
 rintro _ w1 ⟨rfl,e1⟩
 refine Qqw ?_
 exact ⟨by first | trivial | rfl,ee⟩
def Pc (w0:Wd) (v:Vl) (d:QF) (s:BAr) (hd:Qg w0 v d):Ret Pg 109 #[v,.string s] w0 λ r w'=>r = .tuple #[.int .i64 (Od (λ m=>decide (m.name=s)) d.msgs),.bool (d.msgs.any λ m=>decide (m.name=s))]∧Ext w0 w':=by
 obtain ⟨fv,rfl,hF⟩:=hd
 refine Zlu (R:=ZE _) ?_;unfold n75
 refine Qqw ?_
 refine Zi (zY _ _ d.msgs _ _ (λ m=>decide (m.name=s)) (hF.ext ee) ZjA ?_) ?_
 · intro w v f hf e hv
   exact Iu w v f _ s hv (e.cell (by simp (disch:=try exact DI) only [↓PR,QR,simprocAttr]))
 rintro _ w1 ⟨rfl,e1⟩
 refine Qqw ?_
 exact ⟨by first | trivial | rfl,ee⟩
open Go.RowKit (intOf Below)
def jQ (w0:Wd) (v:Vl) (css:List (Cs 2)) (hs:Zd w0 2 (λ _ cs x=>cs=x.1) v css) (h1:∀ x∈css,∀ u∈x.1,u.oneCell'=true) (hb:css.length≤1048576) :
 Ret Pg 256 #[v] w0 λ r w'=>ZM w' w0.heap.size 128 2 Subtype.val r css∧Ext w0 w':=by
 obtain ⟨A,c,rfl,hlc,hcm,hlm,Xj⟩:=Zd.open hs
 refine Zhi (R:=ZE _) ?_;unfold Zhh
 refine Qqv ?_
 cases A with
 | none=>
  have:css=[]:=by
   cases css with
   | nil=>rfl
   | cons x l=>obtain ⟨_,_,_,h,_⟩:=Xj 0 x rfl;cases h
  subst this
  simp only [Option.isNone_none]
  refine Qqv ?_
  exact ⟨ZM.nil _ _ _ _ _,ee⟩
 | some a=>
  simp only [Option.isNone_some]
  refine Qqv ?_
  have hO:=ZM.new w0 128 2 (Subtype.val:Cs 2→List Vl) [] (λ x=>x.2) (by simp)
  simp only [List.flatMap_nil,List.length_nil] at hO
  have eW:Ext w0 (w0.alloc (.cells #[] 128)):=ee
  have Vs:w0.heap.size≤(w0.alloc (.cells #[] 128)).heap.size:=eW.size
  generalize w0.alloc (.cells #[] 128)=W at hO eW Vs ⊢
  cases hcs:css with
  | nil=>
   subst hcs
   simp only [List.length_nil]
   rw [LP underlying118 GQ _ _ _ _ _ (Nat.le_refl 0)]
   refine Qqv ?_
   exact ⟨hO,eW⟩
  | cons x0 l0=>
   obtain ⟨b,o,_,hA,_⟩:=Xj 0 x0 (by rw [hcs];rfl)
   injection hA with hA
   subst hA
   rw [← hcs]
   refine W8 underlying118 GQ rfl K7 (λ x=>x.2) h1 hO (λ j x hx=>?_) Vs ?_ (by simp;omega) ?_
   · obtain ⟨b',o',cs,hA',hl',hE,rfl⟩:=Xj j x hx
     injection hA' with hA'
     injection hA' with h3 h4
     subst h3 h4
     exact hE.ext eW
   · have:=Zfu
     rw [List.length_nil,Nat.zero_add]
     exact Nat.le_trans (Nat.mul_le_mul hb this) K7
   · intro v' w' ho hg
     refine Qqv ?_
     refine ⟨ho,eW.grown hg ?_⟩
     intro k hk
     have h:=hO.lt k hk
     exact h.1
def Pb.one {w:Wd} {cs:List Vl} {m:Xr} (h:Pb w cs m):∀ u∈cs,u.oneCell'=true:=by
 obtain ⟨fv,rfl,h1⟩:=h
 have:=h1.oneCell
 intro u hu
 simp only [List.mem_cons,List.not_mem_nil,or_false] at hu
 rcases hu with rfl | rfl
 · rfl
 · exact this
def CH.one {w:Wd} {cs:List Vl} {t:Xc} (h:CH w cs t):∀ u∈cs,u.oneCell'=true:=by
 obtain rfl:=h
 intro u hu
 simp only [List.mem_cons,List.not_mem_nil,or_false] at hu
 rcases hu with rfl | rfl<;>rfl
def Qa (l:List Zv):List (BAr×Vl):=(l.filter VI).map λ f=>(f.name,YB f.low (UF f))
def GF (l:List Zv) (f:Zv):Qa (l++[f])=Qa l++(if VI f then [(f.name,YB f.low (UF f))] else []):=by
 unfold Qa
 rw [List.filter_append,List.map_append]
 cases h:VI f<;>simp [List.filter_cons,h]
def Qy {α:Type} {l:List α} {k:Nat} {x:α} (hx:l[k]?=some x):l.take (k+1)=l.take k++[x]:=by
 rw [List.take_add_one,hx];rfl
def Kr (w0:Wd) (v:Vl) (l:List Zv) (hs:YR w0 v l) :
 Ret Pg 247 #[v] w0 λ r w'=>∃ m,r = .map (some m)∧w0.heap.size≤m∧Y6 w' m (Qa l)∧Ext w0 w':=by
 obtain ⟨A,c,rfl,hlc,hcm,hlm,Xj⟩:=Zd.open hs
 refine ZgE (R:=ZE _) ?_;unfold ZgD
 refine Qqv ?_
 have hM0:=Y6.new w0
 have e0:Ext w0 (w0.alloc (.map #[] 0)):=ee
 refine ZL (λ a0 w=>∃ (k:Nat) , a0 = .int .i64 (k:Int)∧k≤l.length∧Ext w0 w∧Y6 w w0.heap.size (Qa (l.take k))) (λ a0 _=>l.length - (intOf a0).toNat) ⟨0,rfl,Nat.zero_le _,ee,hM0⟩ ?_
 rintro _ w ⟨k,rfl,hk,e,hI⟩
 have se:=e.size
 rcases ZY hk with ⟨x,hx,hd,Yo,ZT⟩ | ⟨hk,hd,ZT⟩
 · obtain ⟨b,o,cs,rfl,hl,hA,hE⟩:=Xj k x hx
   obtain ⟨tv,cv,rfl,hT,hC,ht1,hc1⟩:=hE.op
   have hlt2:=hI.lt
   simp (disch:=try exact DI) only [↓PR,QR,simprocAttr,↓xA,↓xB,↓xC,ZT,hA.c15]
   refine zcr (NK _ _ x ⟨tv,cv,rfl,Z6.ext hT ee,Yu.ext hC ee⟩) λ w1 e1=>?_
   have s1:=e1.size
   try simp only [World.size_alloc,World.size_setCell,World.size_drew,World.putObj_size,Sw.putW_size] at s1
   have hI1:=(hI.ext ((Ext.refl w).alloc _)).ext e1
   have hI2:∀ o,Y6 (w1.alloc o) w0.heap.size (Qa (l.take k)):=λ o=>hI1.ext ((Ext.refl w1).alloc _)
   cases hn:VI x with
   | false=>
    simp (disch:=try exact DI) only [↓PR,QR,simprocAttr,↓xA,↓xB,↓xC,e1.cellQ,e1.frozenQ,YB]
    have hf:=hI2 (.cells #[.int .i64 0,.int .i64 0] 300)
    rw [show Qa (l.take k)=Qa (l.take (k+1)) by rw [Qy hx,GF,hn];simp] at hf
    exact ⟨⟨k+1,rfl,by omega,ee,hf⟩,Yh (kd := .i64) Yo⟩
   | true=>
    simp (disch:=try exact DI) only [↓PR,QR,simprocAttr,↓xA,↓xB,↓xC,e1.cellQ,e1.frozenQ,YB]
    have hf:=hI2 (.cells #[.int .i64 x.low,.int .i64 (UF x)] 300)
    rw [Ma underlying296 underlying9 hf]
    have hg:=hf.put x.name (YB x.low (UF x))
    have eg:Ext w0 (putW (w1.alloc (.cells #[.int .i64 x.low,.int .i64 (UF x)] 300)) w0.heap.size (Qa (l.take k)) x.name (YB x.low (UF x))):=Ext.putW ee (Nat.le_refl _) _ _
    rw [show Qa (l.take k)++[(x.name,YB x.low (UF x))]=Qa (l.take (k+1)) by rw [Qy hx,GF,hn];simp] at hg
    simp (disch:=try exact DI) only [↓PR,QR,simprocAttr,↓xA,↓xB,↓xC]
    exact ⟨⟨k+1,rfl,by omega,ee,hg⟩,Yh (kd := .i64) Yo⟩
 · subst hk
   simp (disch:=try exact DI) only [↓PR,QR,simprocAttr,↓xA,↓xB,↓xC,ZT]
   rw [List.take_length] at hI
   exact ⟨_,rfl,Nat.le_refl _,hI,e⟩
def QD (w:Wd) (pb:Nat) (tv:Vl) (ts:List Xc):Prop:=w.cell? ⟨pb,0,none⟩=some tv∧Z6 w tv ts∧∀ A m c,tv = .slice (some A) m c→pb < A.block
def QD.ext {w w':Wd} {pb:Nat} {tv:Vl} {ts:List Xc} (h:QD w pb tv ts) (e:Ext w w'):QD w' pb tv ts:=⟨e.cell h.1,Z6.ext h.2.1 e,h.2.2⟩
def QD.set {w:Wd} {pb:Nat} {tv:Vl} {ts:List Xc} (h:QD w pb tv ts) {b o:Nat} (hb:b < pb) (u:Vl):QD (w.setCell ⟨b,o,none⟩ u) pb tv ts:=
 ⟨by rw [Xd C1];exact h.1,Zd.setOther h.2.1 u (λ A m c e=>by have:=h.2.2 A m c e;omega) (λ _ _ h=>h),h.2.2⟩
def CI (w0:Wd) (v:Vl) (base:Int) (ts:List Xc) (hs:zP w0 v base ts) (hb:ts.length≤1048576) :
 Ret Pg 248 #[v] w0 λ r w'=>∃ pb tv,r = .func (.func 257) #[] #[Qq5 pb]∧QD w' pb tv (if J2 base ts then ts else [])∧w0.heap.size≤pb∧Ext w0 w':=by
 obtain ⟨tv,rfl,hT⟩:=hs
 have ht1:=Zd.oneCell hT
 refine ZgU (R:=ZE _) ?_;unfold ZgT
 simp (disch:=try exact DI) only [↓PR,QR,simprocAttr,↓AL]
 refine zcr (xg _ _ base ts ⟨tv,rfl,Z6.ext hT ee⟩) λ w1 e1=>?_
 have s1:=e1.size
 try simp only [World.size_alloc,World.size_setCell,World.size_drew,World.putObj_size,Sw.putW_size] at s1
 cases hv:J2 base ts with
 | false=>
  simp (disch:=try exact DI) only [↓PR,QR,simprocAttr,↓AL]
  refine ⟨_,_,rfl,⟨e1.cell (by simp (disch:=try exact DI) only [↓PR,QR,simprocAttr]),Zd.nil _ _ _,λ A m c e=>by cases e⟩,by omega,ee⟩
 | true=>
  simp (disch:=try exact DI) only [↓PR,QR,simprocAttr,↓AL,e1.cellQ,e1.frozenQ]
  obtain ⟨cssT,hrawT,hmatesT⟩:=Zd.raw hT
  refine Zi (jQ _ tv cssT (hrawT.ext ZaW ee) (λ y hy=>by obtain ⟨m,_,hm⟩:=hmatesT.mem hy;exact hm.one) (by rw [hmatesT.1];exact hb)) ?_
  rintro t8 w2 ⟨hO,e2⟩
  have s2:=e2.size
  have hO':=ZM.mates hO (hmatesT.imp λ _ _ h=>h)
  have hS:=hO'.slice (E:=CH) (λ _=>rfl) (λ _ _=>rfl)
  have h8:=Zd.oneCell hS
  have hTy:GV w2 (w0.heap.size+1) 118:=(GV.ext (w:=(w0.alloc _).alloc (.cells #[.slice none 0 0] 118)) ⟨_,_,by have:=Zt (w0.alloc (.cells #[.int .i64 base,tv] 120)) #[.slice none 0 0] 118;rw [World.size_alloc] at this;exact this⟩ (e1.trans e2))
  simp (disch:=try exact DI) only [↓PR,QR,simprocAttr,↓AL,e1.cellQ,e1.frozenQ,e2.cellQ,e2.frozenQ]
  have hS2:=((hO'.range.only (YA.setCell w2 (w0.heap.size+1) 0 t8) (.inr (.inl C1))).1).slice (E:=CH) (λ _=>rfl) (λ _ _=>rfl)
  refine ⟨_,t8,rfl,⟨?_,hS2,λ A m c e=>by subst e;have:=hO'.lt A.block rfl;omega⟩,by omega,ee⟩
  simp (disch:=try exact DI) only [↓PR,QR,simprocAttr,e1.cellQ,e1.frozenQ,e2.cellQ,e2.frozenQ]
def Km (ts:List Xc) (k:Nat):Vl:=match ts[k]? with
 | some t => .string t.field
 | none=>undef
def CJ (pb:Nat) (tv:Vl) (ts:List Xc):MP Pg 257 #[Qq5 pb] ts.length (Km ts) (λ w=>QD w pb tv ts):=by
 intro yv J Jx Jp w hFP hJe hJx XY h0
 obtain ⟨hc,hT,_⟩:=hFP 0 w h0
 obtain ⟨A,c,rfl,hlc,hcm,hlm,Xj⟩:=Zd.open hT
 refine ZgW (t0:=yv) (t1 := Qq5 pb) ?_
 unfold ZgV
 refine Qqh hc ?_
 refine ZL (λ i w=>∃ k:Nat,i = .int .i64 k∧k≤ts.length∧J k w) (λ i _=>ts.length - (intOf i).toNat) ⟨0,rfl,by omega,h0⟩ ?_
 rintro i w' ⟨k,rfl,hk,hJ⟩
 rcases ZY hk with ⟨x,hx,hd,Yo,ZT⟩ | ⟨hk,hd,ZT⟩
 · obtain ⟨_,hT',_⟩:=hFP k w' hJ
   obtain ⟨A',c',hv,_,_,_,hel'⟩:=Zd.open hT'
   injection hv with hv _ hv'
   subst hv hv'
   obtain ⟨b,o,cs,rfl,hl,hA,rfl⟩:=hel' k x hx
   have er:=Ext.refl w'
   simp (disch:=try exact DI) only [↓PR,QR,simprocAttr,↓AM,↓AN,ZT,hA.c2]
   have hs:=XY k Yo _ (hJe k w' _ hJ ((Ext.refl w').alloc (.cells #[.string x.field,.int .i64 x.factor] 128)))
   rw [show Km ts k = .string x.field by unfold Km;rw [hx]] at hs
   refine Kc hs (λ ch w h=>h) ?_
   rintro v w2 (⟨rfl,h2⟩ | ⟨rfl,h2⟩)
   · simp (disch:=try exact DI) only [↓PR,QR,simprocAttr,↓AM,↓AN]
     exact ⟨⟨k+1,rfl,by omega,h2⟩,Yh (kd := .i64) Yo⟩
   · simp (disch:=try exact DI) only [↓PR,QR,simprocAttr,↓AM,↓AN]
     exact .inr h2
 · subst hk
   simp (disch:=try exact DI) only [↓PR,QR,simprocAttr,↓AM,↓AN,ZT]
   exact .inl hJ
def QD.lasts (B pb:Nat) (tv:Vl) (ts:List Xc):ZQ B (λ w=>QD w pb tv ts):=
 ZQ.and (ZQ.cell B) (ZQ.and ⟨λ _ _ h e=>Z6.ext h e,λ _ _ _ _ _ h hl=>Zd.putLoop (λ _ _ h=>h) hl h⟩ (ZQ.const _ _))
def Qq (but:BAr) (ps:List (BAr×Vl)) (p:Vl→Bool):List Xc→Bool→Int
 | [],no=>if no then 9 else 0
 | t::ts,no=>if t.field=but then Qq but ps p ts no else match Yy ps t.field with
  | none=>Qq but ps p ts true
  | some v=>if p v then Qq but ps p ts no else 2
def zU (w0:Wd) (v:Vl) (base:Int) (ts:List Xc) (but:BAr) (m:Nat) (ps:List (BAr×Vl)) (g:FuncId) (caps:AVl) (p:Vl→Bool) (hs:zP w0 v base ts) (hb:ts.length≤1048576)
 (hm:Y6 w0 m ps) (hr:∀ k v,Yy ps k=some v→∃ lo hi,v=YB lo hi) (hg:Callable Pg g) (hc:∀ w lo hi,Ext w0 w→Ret Pg g (#[YB lo hi]++caps) w λ r w'=>r = .bool (p (YB lo hi))∧Ext w w') :
 Ret Pg 259 #[v,.string but,.map (some m),.func (.func g) #[] caps] w0 λ r w'=>r = .int .i64 (if J2 base ts then Qq but ps p ts false else 2)∧Ext w0 w':=by
 obtain ⟨tv,rfl,hT⟩:=hs
 have ht1:=Zd.oneCell hT
 have hmlt:=hm.lt
 refine Zg3 (R:=ZE _) ?_;unfold ZeJ
 simp (disch:=try exact DI) only [↓PR,QR,simprocAttr,↓W3,↓W4,↓W5,↓WJ,↓W6,↓W7]
 refine zcr (xg _ _ base ts ⟨tv,rfl,Z6.ext hT ee⟩) λ w1 e1=>?_
 have s1:=e1.size
 try simp only [World.size_alloc,World.size_setCell,World.size_drew,World.putObj_size,Sw.putW_size] at s1
 cases hv:J2 base ts with
 | false=>
  simp (disch:=try exact DI) only [↓PR,QR,simprocAttr,↓W3,↓W4,↓W5,↓WJ,↓W6,↓W7,e1.cellQ,e1.frozenQ,WM,y1,XV]
  exact ⟨by first | trivial | rfl,ee⟩
 | true=>
  simp (disch:=try exact DI) only [↓PR,QR,simprocAttr,↓W3,↓W4,↓W5,↓WJ,↓W6,↓W7,e1.cellQ,e1.frozenQ]
  refine Zi (CI _ _ base ts ⟨tv,rfl,Z6.ext hT ee⟩ hb) ?_
  rintro _ w2 ⟨pb,tv2,rfl,hTA,hpb,e2⟩
  rw [hv] at hTA
  simp only [if_true] at hTA
  have s2:=e2.size
  simp only [World.size_alloc] at s2 hpb
  have o5:w2.heap[w0.heap.size+1]?=some (.cells #[.string but] 9 (0,0)):=by simp (disch:=try exact DI) only [↓PR,QR,simprocAttr,e1.heapQ,e2.heapQ]
  have o6:w2.heap[w0.heap.size+1+1]?=some (.cells #[.map (some m)] 296 (0,0)):=by simp (disch:=try exact DI) only [↓PR,QR,simprocAttr,e1.heapQ,e2.heapQ]
  have o7:w2.heap[w0.heap.size+1+1+1]?=some (.cells #[.func (.func g) #[] caps] 311 (0,0)):=by simp (disch:=try exact DI) only [↓PR,QR,simprocAttr,e1.heapQ,e2.heapQ]
  have o8:w2.heap[w0.heap.size+1+1+1+1]?=some (.cells #[.int .i64 0] 49 (0,0)):=by simp (disch:=try exact DI) only [↓PR,QR,simprocAttr,e1.heapQ,e2.heapQ]
  have o9:w2.heap[w1.heap.size]?=some (.cells #[.bool false] 4 (0,0)):=by simp (disch:=try exact DI) only [↓PR,QR,simprocAttr,e1.heapQ,e2.heapQ]
  have eW:Ext w0 w2:=ee
  simp only [World.size_alloc]
  unfold WJ
  let I:Nat→Wd→Prop:=λ k w=>Ext w0 w∧w.heap[w0.heap.size+1]?=some (.cells #[.string but] 9 (0,0))∧w.heap[w0.heap.size+1+1]?=some (.cells #[.map (some m)] 296 (0,0)) ∧
   w.heap[w0.heap.size+1+1+1]?=some (.cells #[.func (.func g) #[] caps] 311 (0,0))∧QD w pb tv2 ts ∧
   ∃ nb x,w.heap[w0.heap.size+1+1+1+1]?=some (.cells #[.int .i64 x] 49 (0,0))∧w.heap[w1.heap.size]?=some (.cells #[.bool nb] 4 (0,0))∧Qq but ps p (ts.drop k) nb=Qq but ps p ts false
  let Ix:Nat→Wd→Prop:=λ c w=>c=0∧Ext w0 w∧w.heap[w0.heap.size+1+1+1+1]?=some (.cells #[.int .i64 2] 49 (0,0))∧Qq but ps p ts false=2
  have hLI:∀ k,ZQ w2.heap.size (I k):=λ k=>ZQ.and (ZQ.from C1) (ZQ.and (ZQ.has _ (by simp)) (ZQ.and (ZQ.has _ (by simp)) (ZQ.and (ZQ.has _ (by simp)) (ZQ.and (QD.lasts _ _ _ _)
   (ZQ.ex λ nb=>ZQ.ex λ x=>ZQ.and (ZQ.has _ (by simp)) (ZQ.and (ZQ.has _ (by simp)) (ZQ.const _ _)))))))
  have hLX:∀ k,ZQ w2.heap.size (Ix k):=λ k=>ZQ.and (ZQ.const _ _)<|ZQ.and (ZQ.from C1) (ZQ.and (ZQ.has _ (by simp)) (ZQ.const _ _))
  refine ⟨_,_,ts.length,Km ts,λ w=>QD w pb tv2 ts,I,Ix,λ _ _=>False,rfl,ZfJ,CJ pb tv2 ts,⟨eW,o5,o6,o7,hTA,false,0,o8,o9,rfl⟩,λ k w h=>h.2.2.2.2.1,hLI,hLX,?_,?_,?_,?_⟩
  · intro rec j w3 hj hI3 hrec hready
    refine ⟨hready,λ w4 hbz=>?_⟩
    have hrec4:=hrec.busied hbz
    have hI4:=(hLI j).busied hbz (Nat.le_succ _) hI3
    clear hI3 hrec hready hbz
    obtain ⟨e4,o5,o6,o7,hTA4,nb,x,o8,o9,hF⟩:=hI4
    obtain ⟨t,hx⟩:=getElem?_lt hj
    rw [show Km ts j = .string t.field by unfold Km;rw [hx]]
    have hd:ts.drop j=t::ts.drop (j+1):=by
     rw [List.drop_eq_getElem_cons hj]
     congr 1
     exact (Qqx hx).2
    rw [hd] at hF
    simp only [Qq] at hF
    have hm4:=hm.ext e4
    have s4:=e4.size
    have l9:w1.heap.size < w4.heap.size:=(Qqj o9).1
    have l8:w0.heap.size+1+1+1+1 < w4.heap.size:=(Qqj o8).1
    simp (disch:=try exact DI) only [↓PR,QR,simprocAttr,↓W3,↓W4,↓W5,↓WJ,↓W6,↓W7,(Za o5).1,(Za o6).1]
    rw [Uc underlying296 underlying9 UC hm4]
    have next:∀ nb' w5,Ext w4 w5→Qq but ps p (ts.drop (j+1)) nb'=Qq but ps p ts false→nb'=nb→I (j+1) w5:=λ nb' w5 e5 h hn=>(hLI (j+1)).ext _ _ ⟨e4,o5,o6,o7,hTA4,nb,x,o8,o9,hn ▸ h⟩ e5
    cases hl:Yy ps t.field with
    | none=>
     rw [hl] at hF
     simp (disch:=try exact DI) only [↓PR,QR,simprocAttr,↓W3,↓W4,↓W5,↓WJ,↓W6,↓W7,(Za o5).1]
     by_cases hbut:t.field=but
     · rw [if_pos hbut] at hF
       simp only [hbut,decide_true]
       refine Qqv ?_
       exact ⟨hrec4.alloc _,next nb _ ee hF rfl⟩
     · rw [if_neg hbut] at hF
       simp only [hbut,decide_false]
       simp (disch:=try exact DI) only [↓PR,QR,simprocAttr,↓W3,↓W4,↓W5,↓WJ,↓W6,↓W7,(Za o9).1,(Za o9).2]
       refine ⟨(hrec4.setCell _ _).alloc _,ee,by simp (disch:=try exact DI) only [↓PR,QR,simprocAttr,o5],by simp (disch:=try exact DI) only [↓PR,QR,simprocAttr,o6],by simp (disch:=try exact DI) only [↓PR,QR,simprocAttr,o7],(hTA4.set C1 _).ext ((Ext.refl _).alloc _),true,x,by simp (disch:=try exact DI) only [↓PR,QR,simprocAttr,o8],?_,hF⟩
       have:=((Ext.refl _).alloc (.cells #[.int .i64 0,.int .i64 0] 300)).obj (Zy (o:=0) o9 (.bool true))
       simpa using this
    | some v=>
     obtain ⟨lo,hi,rfl⟩:=hr _ _ hl
     rw [hl] at hF
     simp (disch:=try exact DI) only [↓PR,QR,simprocAttr,↓W3,↓W4,↓W5,↓WJ,↓W6,↓W7,(Za o5).1,YB]
     by_cases hbut:t.field=but
     · rw [if_pos hbut] at hF
       simp only [hbut,decide_true]
       refine Qqv ?_
       exact ⟨hrec4.alloc _,next nb _ ee hF rfl⟩
     · rw [if_neg hbut] at hF
       simp only [hbut,decide_false]
       simp (disch:=try exact DI) only [↓PR,QR,simprocAttr,↓W3,↓W4,↓W5,↓WJ,↓W6,↓W7,(Za o7).1]
       rw [Y3 hg]
       refine zcr (hc _ lo hi ee) λ w6 e6=>?_
       have s6:=e6.size
       simp only [World.size_alloc] at s6
       cases hp:p (YB lo hi) with
       | true=>
        simp only [hp,if_true] at hF
        simp (disch:=try exact DI) only [↓PR,QR,simprocAttr,↓W3,↓W4,↓W5,↓WJ,↓W6,↓W7]
        exact ⟨(hrec4.alloc _).ext e6,next nb _ ee hF rfl⟩
       | false=>
        simp only [hp,Bool.false_eq_true,if_false] at hF
        simp (disch:=try exact DI) only [↓PR,QR,simprocAttr,↓W3,↓W4,↓W5,↓WJ,↓W6,↓W7,e6.cellQ,e6.frozenQ,(Za o8).1,(Za o8).2]
        refine ⟨((hrec4.alloc _).ext e6).setCell _ _,rfl,ee,?_,hF.symm⟩
        have:=Zy (o:=0) ((((Ext.refl w4).alloc (.cells #[.int .i64 lo,.int .i64 hi] 300)).trans e6).obj o8) (.int .i64 2)
        simpa using this
  · rintro w3 ⟨e3,o5,o6,o7,hTA3,nb,x,o8,o9,hF⟩ hmk
    rw [List.drop_length] at hF
    simp only [Qq] at hF
    have l2:w2.heap.size < w3.heap.size:=(Qqj hmk).1
    cases nb with
    | true=>
     simp (disch:=try exact DI) only [↓PR,QR,simprocAttr,↓W3,↓W4,↓W5,↓WJ,↓W6,↓W7,(Za o8).1,(Za o8).2,(Za o9).1]
     refine WA (hmk.setCell _ _) ?_
     simp (disch:=try exact DI) only [↓PR,QR,simprocAttr,WM,y1,XV,Kd (hmk.setCell _ _),(Za o8).1]
     exact ⟨by rw [← hF];rfl,ee⟩
    | false=>
     simp (disch:=try exact DI) only [↓PR,QR,simprocAttr,↓W3,↓W4,↓W5,↓WJ,↓W6,↓W7,(Za o8).1,(Za o8).2,(Za o9).1]
     refine WA (hmk.setCell _ _) ?_
     simp (disch:=try exact DI) only [↓PR,QR,simprocAttr,WM,y1,XV,Kd (hmk.setCell _ _),(Za o8).1]
     exact ⟨by rw [← hF];rfl,ee⟩
  · rintro c w3 ⟨rfl,e3,o8,hF⟩ hmk
    have l2:w2.heap.size < w3.heap.size:=(Qqj hmk).1
    show Ul _ _ _ _ _
    refine WA hmk ?_
    simp (disch:=try exact DI) only [↓PR,QR,simprocAttr,WM,y1,XV,Kd hmk,(Za o8).1]
    exact ⟨by rw [hF],ee⟩
  · rintro _ _ h
    exact h.elim
def Oq (base:Int) (vf:Xc→Int) (ts:List Xc):Int:=ts.foldl (λ n t=>IntKind.i64.wrap (n+IntKind.i64.wrap (t.factor*vf t))) base
def LN (w0:Wd) (v:Vl) (base:Int) (ts:List Xc) (g:FuncId) (caps:AVl) (vf:Xc→Int) (hs:zP w0 v base ts) (hg:Callable Pg g)
 (hc:∀ w t,Ext w0 w→Ret Pg g (#[UB t]++caps) w λ r w'=>r = .int .i64 (vf t)∧Ext w w') :
 Ret Pg 261 #[v,.func (.func g) #[] caps] w0 λ r w'=>r = .int .i64 (Oq base vf ts)∧Ext w0 w':=by
 obtain ⟨tv,rfl,hT⟩:=hs
 obtain ⟨A,c,rfl,hlc,hcm,hlm,Xj⟩:=Zd.open hT
 refine Zg9 (R:=ZE _) ?_;unfold Zg8
 simp (disch:=try exact DI) only [↓PR,QR,simprocAttr,↓xJ,↓xK,↓xL]
 refine Xu (λ a0 a1 w=>∃ (k:Nat) (n:Int),a0 = .int .i64 n∧a1 = .int .i64 (k:Int)∧k≤ts.length∧Ext w0 w∧Oq n vf (ts.drop k)=Oq base vf ts) (λ a0 a1 _=>ts.length - (intOf a1).toNat) ⟨0,base,rfl,rfl,Nat.zero_le _,ee,rfl⟩ ?_
 rintro _ _ w ⟨k,n,rfl,rfl,hk,e,hI⟩
 have se:=e.size
 rcases ZY hk with ⟨x,hx,hd,Yo,ZT⟩ | ⟨hk,hd,ZT⟩
 · obtain ⟨b,o,cs,rfl,hl,hA,rfl⟩:=Xj k x hx
   rw [hd] at hI
   simp (disch:=try exact DI) only [↓PR,QR,simprocAttr,↓xJ,↓xK,↓xL,ZT,hA.c2]
   refine ZB ?_
   simp (disch:=try exact DI) only [↓PR,QR,simprocAttr,↓xJ,↓xK,↓xL]
   rw [Y3 hg]
   refine zcr (hc _ x ee) λ w1 e1=>?_
   refine ⟨e1,?_⟩
   simp (disch:=try exact DI) only [↓PR,QR,simprocAttr,↓xJ,↓xK,↓xL]
   exact ⟨⟨k+1,_,rfl,rfl,by omega,ee,hI⟩,Yh (kd := .i64) Yo⟩
 · subst hk
   simp (disch:=try exact DI) only [↓PR,QR,simprocAttr,↓xJ,↓xK,↓xL,ZT]
   rw [hd] at hI
   exact ⟨by rw [← hI];rfl,e⟩
def RP (rp:List (BAr×Int×Int)):List (BAr×Vl):=rp.map λ p=>(p.1,YB p.2.1 p.2.2)
def Wx (rp:List (BAr×Int×Int)) (s:BAr):Option (Int×Int):=(rp.reverse.find? (λ p=>decide (p.1=s))).map (·.2)
def VJ (rp:List (BAr×Int×Int)) (s:BAr):Yy (RP rp) s=(Wx rp s).map λ q=>YB q.1 q.2:=by
 unfold Yy RP Wx
 rw [← List.map_reverse,List.find?_map]
 simp only [Option.map_map]
 rfl
def X2 (l:List Zv):List (BAr×Int×Int):=(l.filter VI).map λ f=>(f.name,f.low,UF f)
def Ut (l:List Zv):Qa l=RP (X2 l):=by
 unfold Qa RP X2
 rw [List.map_map]
 rfl
def N5 (rp:List (BAr×Int×Int)) (least:Bool) (t:Xc):Int:=match Wx rp t.field with
 | some (lo,hi)=>if least == decide (t.factor > 0) then lo else hi
 | none=>0
def ZaM (w0:Wd) (t:Xc) (pm pl m:Nat) (rp:List (BAr×Int×Int)) (least:Bool) (h1:w0.cell? ⟨pm,0,none⟩=some (.map (some m))) (h2:w0.cell? ⟨pl,0,none⟩=some (.bool least)) (hm:Y6 w0 m (RP rp)) :
 Ret Pg 262 #[UB t,Qq5 pm,Qq5 pl] w0 λ r w'=>r = .int .i64 (N5 rp least t)∧Ext w0 w':=by
 have hb1:=World.block_lt_of_cell? w0 _ h1
 have hb2:=World.block_lt_of_cell? w0 _ h2
 simp only at hb1 hb2
 unfold UB
 refine ZgO (R:=ZE _) ?_;unfold ZgN
 refine Qqb h1 h2 ?_
 rw [Vk underlying296 underlying9 UC (hm.ext ee),VJ]
 unfold N5
 cases hl:Wx rp t.field with
 | none=>
  simp (disch:=try exact DI) only [↓PR,QR,simprocAttr,↓Kh,h1,h2,Option.map_none]
  cases (least == decide (0 < t.factor)) with
  | true=>simp (disch:=try exact DI) only [↓PR,QR,simprocAttr,↓Kh,h1,h2];exact ⟨by first | trivial | rfl,ee⟩
  | false=>
   simp (disch:=try exact DI) only [↓PR,QR,simprocAttr,↓Kh,h1,h2]
   rw [Vk underlying296 underlying9 UC (hm.ext ee),VJ,hl]
   simp (disch:=try exact DI) only [↓PR,QR,simprocAttr,↓Kh,Option.map_none]
   exact ⟨by first | trivial | rfl,ee⟩
 | some q=>
  obtain ⟨lo,hi⟩:=q
  simp (disch:=try exact DI) only [↓PR,QR,simprocAttr,↓Kh,h1,h2,YB]
  cases (least == decide (0 < t.factor)) with
  | true=>simp (disch:=try exact DI) only [↓PR,QR,simprocAttr,↓Kh,h1,h2];exact ⟨by first | trivial | rfl,ee⟩
  | false=>
   simp (disch:=try exact DI) only [↓PR,QR,simprocAttr,↓Kh,h1,h2]
   rw [Vk underlying296 underlying9 UC (hm.ext ee),VJ,hl]
   simp (disch:=try exact DI) only [↓PR,QR,simprocAttr,↓Kh,YB]
   exact ⟨by first | trivial | rfl,ee⟩
def Zi4 (lo hi:Int):Bool:=decide (0≤lo)&&decide (lo≤hi)&&decide (hi < 34359738368)
def Zai:Vl→Bool
 | .agg a=>match a.toList with
  | [.int _ lo,.int _ hi]=>Zi4 lo hi
  | _=>false
 | _=>false
def PC (w0:Wd) (lo hi:Int):Ret Pg 258 #[YB lo hi] w0 λ r w'=>r = .bool (Zai (YB lo hi))∧Ext w0 w':=by
 unfold YB
 refine ZgK (R:=ZE _) ?_;unfold ZgJ
 refine Qqw ?_
 refine zcr (FH (by simp only [World.size_alloc]) _ _ _ _) λ w1 e1=>?_
 have s1:=e1.size
 try simp only [World.size_alloc,World.size_setCell,World.size_drew,World.putObj_size,Sw.putW_size] at s1
 refine Qqw ?_
 exact ⟨rfl,ee⟩
def FU (w0:Wd) (pm ps m:Nat) (rp:List (BAr×Int×Int)) (least:Bool) (base:Int) (tv:Vl) (ts:List Xc) (h0:w0.cell? ⟨ps,0,none⟩=some (.int .i64 base)) (h0':w0.cell? ⟨ps,1,none⟩=some tv) (hT:Z6 w0 tv ts)
 (h1:w0.cell? ⟨pm,0,none⟩=some (.map (some m))) (hm:Y6 w0 m (RP rp)) :
 Ret Pg 260 #[.bool least,Qq5 ps,Qq5 pm] w0 λ r w'=>r = .int .i64 (Oq base (N5 rp least) ts)∧Ext w0 w':=by
 have hb1:=World.block_lt_of_cell? w0 _ h0
 have hb2:=World.block_lt_of_cell? w0 _ h1
 simp only at hb1 hb2
 refine ZgM (R:=ZE _) ?_;unfold ZgL
 refine Qqb h0 h0' ?_
 refine Zi (LN _ _ base ts _ _ (N5 rp least) ⟨tv,rfl,Z6.ext hT ee⟩ Zkp ?_) ?_
 · intro w t e
   exact ZaM w t pm w0.heap.size m rp least (((Ext.refl w0).alloc _).trans e |>.cell h1) (e.cell (by simp (disch:=try exact DI) only [↓PR,QR,simprocAttr])) (hm.ext (((Ext.refl w0).alloc _).trans e))
 rintro _ w1 ⟨rfl,e1⟩
 refine Qqw ?_
 exact ⟨by first | trivial | rfl,ee⟩
def WZ (base:Int) (ts:List Xc) (rp:List (BAr×Int×Int)):Int:=if J2 base ts then Qq ByteArray.empty (RP rp) Zai ts false else 2
def Gg (base:Int) (ts:List Xc) (rp:List (BAr×Int×Int)):Int:=if WZ base ts rp=0 then Oq base (N5 rp true) ts else 0
def Gf (base:Int) (ts:List Xc) (rp:List (BAr×Int×Int)):Int:=if WZ base ts rp=0 then Oq base (N5 rp false) ts else 0
def DX (w0:Wd) (v:Vl) (base:Int) (ts:List Xc) (m:Nat) (rp:List (BAr×Int×Int)) (hs:zP w0 v base ts) (hb:ts.length≤1048576) (hm:Y6 w0 m (RP rp)) :
 Ret Pg 249 #[v,.map (some m)] w0 λ r w'=>r = .tuple #[YB (Gg base ts rp) (Gf base ts rp),.int .i64 (WZ base ts rp)]∧Ext w0 w':=by
 obtain ⟨tv,rfl,hT⟩:=hs
 have hT1:=Zd.oneCell hT
 have hmlt:=hm.lt
 refine ZgI (R:=ZE _) ?_;unfold ZgH
 simp (disch:=try exact DI) only [↓PR,QR,simprocAttr,↓AJ,↓AK,↓xD]
 refine Zi (zU _ _ base ts ByteArray.empty m (RP rp) _ _ Zai ⟨tv,rfl,Z6.ext hT ee⟩ hb (hm.ext ee) (λ k v hv=>?_) Zkm (λ w lo hi e=>by simpa using PC w lo hi)) ?_
 · rw [VJ] at hv
   obtain ⟨q,_,rfl⟩:=Option.map_eq_some_iff.1 hv
   exact ⟨q.1,q.2,rfl⟩
 rintro _ w1 ⟨rfl,e1⟩
 have s1:=e1.size
 simp only [World.size_alloc] at s1
 show xD _ _ _ (.int .i64 (WZ base ts rp)) _ w1
 unfold Gg Gf
 by_cases hE:WZ base ts rp=0
 · rw [hE]
   simp (disch:=try exact DI) only [↓PR,QR,simprocAttr,↓AJ,↓AK,↓xD]
   have c0:w1.cell? ⟨w0.heap.size,0,none⟩=some (.int .i64 base):=by simp (disch:=try exact DI) only [↓PR,QR,simprocAttr,e1.cellQ]
   have c1:w1.cell? ⟨w0.heap.size,1,none⟩=some tv:=by simp (disch:=try exact DI) only [↓PR,QR,simprocAttr,e1.cellQ]
   have c2:w1.cell? ⟨w0.heap.size+1,0,none⟩=some (.map (some m)):=by simp (disch:=try exact DI) only [↓PR,QR,simprocAttr,e1.cellQ]
   have eW:Ext w0 w1:=ee
   rw [Y3 ZfK]
   refine zcr (FU w1 _ _ m rp true base tv ts c0 c1 (hT.ext eW) c2 (hm.ext eW)) λ w2 e2=>?_
   have s2:=e2.size
   simp only [World.size_alloc]
   rw [Y3 ZfK]
   refine zcr (FU w2 _ _ m rp false base tv ts (e2.cell c0) (e2.cell c1) ((Z6.ext hT eW).ext e2) (e2.cell c2) ((hm.ext eW).ext e2)) λ w3 e3=>?_
   have s3:=e3.size
   simp (disch:=try exact DI) only [↓PR,QR,simprocAttr,↓AJ,↓AK,↓xD,e1.cellQ,e1.frozenQ,e2.cellQ,e2.frozenQ,e3.cellQ,e3.frozenQ]
   exact ⟨by first | trivial | rfl,ee⟩
 · have Y7:(WZ base ts rp != 0)=true:=by simpa using hE
   simp (disch:=try exact DI) only [↓PR,QR,simprocAttr,↓AJ,↓AK,↓xD,Y7,e1.cellQ,e1.frozenQ]
   simp only [hE,if_false]
   exact ⟨by first | trivial | rfl,ee⟩
def ZeL R w:=
 opV Pg (makeInterface 9 (.string { data := #[99,97,110,110,111,116,32,98,101,32,108,101,115,115,32,116,104,97,110,32,49] })) (Zc R) w λ a w=>
 opV Pg (Instr.panic a) (Zc R) w λ _ w=>
 False
def Zhd b c R w:=
 opV Pg (box 40 b) (Zc R) w λ d w=>
 opV Pg (box 3 c) (Zc R) w λ a w=>
 L0 3 a R w λ e w=>
 B0 .lss 3 true e (QqQ 1) R w λ f w=>
 Zr f (
 ZeL R w) (
 opV Pg (makeFunc (.func 154) #[] #[d,a]) (Zc R) w λ g w=>
 R (.returned g) w)
def Zhe:QqX2 126 Zhd:=λ h=>by
 refine yD func126 ?_
 refine zs<|zr<|yv h λ h=>yv h λ h=>zm<|zn<|zk<|zs<|zs<|zr<|yv h λ h=>yb h λ h=>zn<|zk<|yC h (λ h=>zr<|yv h λ h=>yv h λ h=>zn<|h.elim) λ h=>?_
 exact Zk<|zk<|zs<|zr<|yF h λ h=>zm<|zn<|zk<|Zg<|Zj rfl rfl h
def Rs b c a (Zz:KV) R w:=
 X0 94 b a R w λ d w=>
 L0 9 d R w λ e w=>
 X9 Pg c #[e] (Zc R) w λ f w=>
 Zr f (
 R (.returned a) w) (
 B0 .add 3 true a (QqQ 1) R w λ g w=>
 Zz g w)
def ZhS a c R w:=
 G0 94 3 a R w λ d w=>
 YW (λ b w Zz=>
 B0 .lss 3 false b d R w λ e w=>
 Zr e (
 Rs a c b Zz R w) (
 R (.returned (.int .i64 (-1))) w)) (QqQ 0) w
def ZhT:QqX2 129 ZhS:=λ h=>by
 refine yD func129 ?_
 refine zs<|zr<|zm<|zn<|zk<|zs<|zs<|zr<|zm<|yx h λ h=>zm<|zn<|zk<|Zl<|yl1 [4,5,8,9,10,11,12,13,14,15,16,17,18] 8 h λ σ w next h=>?_
 refine zs<|zr<|yb h λ h=>zn<|zk<|zs<|yC h (λ h=>?_) λ h=>?_
 · refine Zk<|zk<|zs<|Zl<|zs<|zr<|zm<|zm<|zn<|zk<|zs<|zr<|zm<|zm<|zm ?_
   refine yv h λ h=>yv h λ h=>yV h λ h=>zn<|zk<|yC h (λ h=>zs<|zr<|zm<|zm<|zn<|zk<|Zg<|Zh<|Zb<|Zb<|Zh<|Zb<|Zj rfl rfl h) λ h=>Zk<|Zf<|zk<|zr<|yb h λ h=>zm<|zn<|zk ?_
   exact ⟨rfl,h⟩
 exact ZN<|Ze<|Ze<|Zs<|zk<|zs<|zr<|zm<|zn<|zk<|Zg<|Zj rfl rfl h
def Zd5 d a b (e:WPr) R w:=
 opV Pg (Instr.typeAssert b 20 131 true) (Zc R) w λ c w=>
 E0q c 0 R w λ f w=>
 E0q c 1 R w λ g w=>
 S0 131 d f R w λ w=>
 S0 4 a g R w λ w=>
 L0 4 a R w λ h w=>
 N0 h R w λ i w=>
 Zr i (
 opV Pg (Instr.panic b) (Zc R) w λ _ w=>
 False) (
 e w)
def n93 c d a R w:=
 opV Pg (ZA .neq 20 true a .nilIface) (Zc R) w λ e w=>
 Zp (λ (w:Wd)=>
 R (.returned (.tuple #[])) w) λ b=>
 Zr e (
 Zd5 c d a b R w) (
 b w)
def Zil {t0 t1:Vl} {u:FrameMode} {R:Ending→FrameMode→Wd→Prop} {w:Wd} (h:n93 t0 t1 (Sw.recM u).1 (λ e w=>R e (Sw.recM u).2 w) w):CallsDIn Fence.wide 0 Pg 134 #[t0,t1] u w R:=by
 refine GB (args:=[t0,t1]) (d:=3) func134 rfl (Nat.le_of_ble_eq_true rfl) rfl rfl rfl rfl ?_
 generalize (recM u).1=t3 at h ⊢
 generalize hR:(λ e w=>R e (recM u).2 w)=R' at h ⊢
 clear hR
 revert h
 generalize R'=R
 intro h
 unfold n93 at h
 refine zm<|zn<|zs<|zr<|zm<|yb h λ h=>zn<|zk<|yJ0 [6,7,8,9,10,11,12,13] h (λ _ _ hkK1 h=>?_) λ σ w h=>?_
 · refine yC h (λ h=>?_) λ h=>?_
   · refine zs<|zr<|zm<|yv h λ h=>zm<|yv h λ h=>yv h λ h=>yu h λ h=>yu h λ h=>zn<|zk<|zs<|zr<|yv h λ h=>yv h λ h=>?_
     refine zn<|zk<|yC h (λ h=>zr<|zm<|yv h λ h=>zn<|h.elim) λ h=>Zk<|zk ?_
     exact zt hkK1 h
   refine Zk<|zk ?_
   exact zt hkK1 h
 exact ZJ<|ZR rfl h
def Ni b c (a:WPr) R w:=
 qN Pg a (Y0 b) λ d=>
 J0 201 d 3 a λ e=>
 I0 3 e a λ f=>
 qN Pg a (Y0 b) λ g=>
 J0 201 g 4 a λ h=>
 I0 3 h a λ i=>
 qV Pg a (build 131 #[(0,f),(1,i),(2,c)]) λ j=>
 qV Pg a (makeInterface 131 j) λ k=>
 opV Pg (Instr.panic k) (Zc R) w λ _ w=>
 False
def n87 a b c R w:=
 N0 b R w λ d w=>
 Zr d (
 Z4 w λ e w=>
 Ni a c e R w) (
 R (.returned (.tuple #[])) w)
def ZlH:QqX3 135 n87:=λ h=>by
 refine yD func135 ?_
 refine zs<|zr<|zm<|yv h λ h=>zn<|zk<|yC h (λ h=>?_) λ h=>?_
 · refine yh [8,9,10,11,12,13,14,15,16,17,18] h λ C hC h=>yw 0 hC ?_
   refine yn 1 hC h λ h=>?_
   refine ye 2 hC h λ h=>?_
   refine ye 3 hC h λ h=>?_
   refine yw 4 hC ?_
   refine yn 5 hC h λ h=>?_
   refine ye 6 hC h λ h=>?_
   refine ye 7 hC h λ h=>?_
   refine yw 8 hC ?_
   refine ye 9 hC h λ h=>?_
   refine ye 10 hC h λ h=>?_
   refine yo 11 ?_
   exact yv h λ h=>zn<|h.elim
 exact Zk<|ZJ<|ZR rfl h
def ZdQ b (a:WPr) (R:RT) w:=
 qN Pg a (Y0 b) λ c=>
 J0 201 c 5 a λ d=>
 J0 74 d 1 a λ e=>
 I0 72 e a λ f=>
 qN Pg a (Y0 b) λ g=>
 J0 201 g 4 a λ h=>
 I0 3 h a λ i=>
 qV Pg a (sliceAt 72 f none (some i) none) λ j=>
 R (.returned j) w
def n82 a R w:=
 Z4 w λ b w=>
 ZdQ a b R w
def ZlC:QqX1 195 n82:=λ h=>by
 refine yD func195 ?_
 refine zs<|zr<|zm<|zn<|zk<|zs<|yh [2,3,4,5,6,7,8,9,10,11,12] h λ C hC h=>yw 0 hC ?_
 refine yn 1 hC h λ h=>?_
 refine ye 2 hC h λ h=>?_
 refine ye 3 hC h λ h=>?_
 refine ye 4 hC h λ h=>?_
 refine yw 5 hC ?_
 refine yn 6 hC h λ h=>?_
 refine ye 7 hC h λ h=>?_
 refine ye 8 hC h λ h=>?_
 refine ye 9 hC h λ h=>?_
 refine yw 10 hC ?_
 exact yz<|zk<|Zg<|Zj rfl rfl h
def n96 R w:=
 opV Pg (Instr.makeMap 257 none) (Zc R) w λ a w=>
 opV Pg (build 255 #[(0,(.func (.func 212) #[] #[])),(1,(.func (.func 213) #[] #[]))]) (Zc R) w λ b w=>
 opU Pg (mapUpdate 257 a (QqQ 1) b) (Zc R) w λ w=>
 opV Pg (build 255 #[(0,(.func (.func 216) #[] #[])),(1,(.func (.func 217) #[] #[]))]) (Zc R) w λ c w=>
 opU Pg (mapUpdate 257 a (QqQ 2) c) (Zc R) w λ w=>
 opV Pg (build 255 #[(0,(.func (.func 218) #[] #[])),(1,(.func (.func 219) #[] #[]))]) (Zc R) w λ d w=>
 opU Pg (mapUpdate 257 a (QqQ 3) d) (Zc R) w λ w=>
 opV Pg (build 255 #[(0,(.func (.func 220) #[] #[])),(1,(.func (.func 221) #[] #[]))]) (Zc R) w λ e w=>
 opU Pg (mapUpdate 257 a (QqQ 4) e) (Zc R) w λ w=>
 opV Pg (build 255 #[(0,(.func (.func 222) #[] #[])),(1,(.func (.func 223) #[] #[]))]) (Zc R) w λ f w=>
 opU Pg (mapUpdate 257 a (QqQ 5) f) (Zc R) w λ w=>
 opV Pg (build 255 #[(0,(.func (.func 224) #[] #[])),(1,(.func (.func 225) #[] #[]))]) (Zc R) w λ g w=>
 opU Pg (mapUpdate 257 a (QqQ 6) g) (Zc R) w λ w=>
 opV Pg (build 255 #[(0,(.func (.func 226) #[] #[])),(1,(.func (.func 227) #[] #[]))]) (Zc R) w λ h w=>
 opU Pg (mapUpdate 257 a (QqQ 7) h) (Zc R) w λ w=>
 opV Pg (build 255 #[(0,(.func (.func 229) #[] #[])),(1,(.func (.func 230) #[] #[]))]) (Zc R) w λ i w=>
 opU Pg (mapUpdate 257 a (QqQ 8) i) (Zc R) w λ w=>
 opV Pg (build 255 #[(0,(.func (.func 231) #[] #[])),(1,(.func (.func 232) #[] #[]))]) (Zc R) w λ j w=>
 opU Pg (mapUpdate 257 a (QqQ 9) j) (Zc R) w λ w=>
 opV Pg (build 255 #[(0,(.func (.func 233) #[] #[])),(1,(.func (.func 234) #[] #[]))]) (Zc R) w λ k w=>
 opU Pg (mapUpdate 257 a (QqQ 10) k) (Zc R) w λ w=>
 opV Pg (build 255 #[(0,(.func (.func 235) #[] #[])),(1,(.func (.func 236) #[] #[]))]) (Zc R) w λ l w=>
 opU Pg (mapUpdate 257 a (QqQ 11) l) (Zc R) w λ w=>
 opV Pg (build 255 #[(0,(.func (.func 237) #[] #[])),(1,(.func (.func 238) #[] #[]))]) (Zc R) w λ m w=>
 opU Pg (mapUpdate 257 a (QqQ 12) m) (Zc R) w λ w=>
 R (.returned a) w
def ZlP:QqX0 196 n96:=λ h=>by
 refine yD func196 ?_
 refine zs<|zr<|zm<|zn<|zk<|zs<|zr<|yv h λ h=>yB h λ h=>yu h λ h=>yB h λ h=>yu h λ h=>yB h λ h=>yu h λ h=>yB h λ h=>?_
 refine yu h λ h=>yB h λ h=>yu h λ h=>yB h λ h=>yu h λ h=>yB h λ h=>yu h λ h=>yB h λ h=>yu h λ h=>yB h λ h=>yu h λ h=>yB h λ h=>yu h λ h=>yB h λ h=>yu h λ h=>?_
 exact yB h λ h=>yu h λ h=>zm<|zm<|zn<|zk<|Zg<|Zj rfl rfl h
def Jl e f g h (a:WPr) (R:RT) w:=
 Zx g h (.bool false) λ c=>
 Zp (λ (b:Vl) (w:Wd)=>
 Zx c b (.bool false) λ i=>
 R (.returned i) w) λ d=>
 Zm c true (
 J0 123 e 11 a λ j=>
 I0 121 j a λ k=>
 J0 123 f 11 a λ l=>
 I0 121 l a λ m=>
 C0 241 #[k,m] R w λ b w=>
 a w∧(
 d b w)) (
 d undef w)
def Jm c d g h (a:WPr) R w:=
 qV Pg a (ZA .eql 287 false g h) λ e=>
 Zp (λ (b:Vl) (w:Wd)=>
 Jl c d e b a R w) λ f=>
 Zm e true (
 J0 123 c 7 a λ i=>
 J0 120 i 1 a λ j=>
 I0 118 j a λ k=>
 J0 123 d 7 a λ l=>
 J0 120 l 1 a λ m=>
 I0 118 m a λ n=>
 C0 240 #[k,n] R w λ b w=>
 a w∧(
 f b w)) (
 f undef w)
def Jn b c (a:WPr) (R:RT) w:=
 I0 123 b a λ d=>
 I0 123 c a λ e=>
 C0 239 #[d] R w λ f w=>
 a w∧(
 C0 239 #[e] R w λ g w=>
 a w∧(
 Jm b c f g a R w))
def ZgF a b R w:=
 opV Pg (box 123 a) (Zc R) w λ c w=>
 opV Pg (box 123 b) (Zc R) w λ d w=>
 Z4 w λ e w=>
 Jn c d e R w
def ZgG:QqX2 197 ZgF:=λ h=>by
 refine yD func197 ?_
 refine zs<|zr<|yv h λ h=>yv h λ h=>zm<|zn<|zk<|zs<|yh [4,5,6,7,8,9,10,11,12,13,14,15,16,17,18,19,20,21,22,23,24,25] h λ C hC h=>ye 0 hC h λ h=>?_
 refine ye 2 hC h λ h=>?_
 refine yo 1 ?_
 refine yc h ZfG λ h=>zn ?_
 obtain ⟨hC,h⟩:=h
 refine ⟨hC,?_⟩
 refine yo 3 ?_
 refine yc h ZfG λ h=>zn ?_
 obtain ⟨hC,h⟩:=h
 refine ⟨hC,?_⟩
 refine ye 4 hC h λ h=>?_
 refine yw 5 hC ?_
 refine yj1 9 [12,11,10,9,8,7,6,5,4,3,1,2,0] [11,12,13,14,15,16,17] 17 h (λ _ hT hb h=>?_) (λ _ hT hb h=>?_) λ σ w hC h=>?_
 · refine ye 6 hC h λ h=>?_
   refine ye 7 hC h λ h=>?_
   refine ye 8 hC h λ h=>?_
   refine ye 9 hC h λ h=>?_
   refine ye 10 hC h λ h=>?_
   refine ye 11 hC h λ h=>?_
   refine yo 12 ?_
   refine yc h Zkb λ h=>zn ?_
   obtain ⟨hC,h⟩:=h
   refine ⟨hC,?_⟩
   exact yt hT hC h
 · refine yi 6 hC ?_
   refine yi 7 hC ?_
   refine yi 8 hC ?_
   refine yi 9 hC ?_
   refine yi 10 hC ?_
   refine yi 11 hC ?_
   refine yi 12 hC ?_
   exact yt hT hC h
 refine yP 13 hC h λ _ h=>?_
 refine yw 14 hC ?_
 refine yj1 2 [19,18,17,16,15,14,13,12,11,10,9,8,7,6,5,4,3,1,2,0] [20,21,22,23,24] 24 h (λ _ hT hb h=>?_) (λ _ hT hb h=>?_) λ σ w hC h=>?_
 · refine ye 15 hC h λ h=>?_
   refine ye 16 hC h λ h=>?_
   refine ye 17 hC h λ h=>?_
   refine ye 18 hC h λ h=>?_
   refine yo 19 ?_
   refine yc h Zkc λ h=>zn ?_
   obtain ⟨hC,h⟩:=h
   refine ⟨hC,?_⟩
   exact yt hT hC h
 · refine yi 15 hC ?_
   refine yi 16 hC ?_
   refine yi 17 hC ?_
   refine yi 18 hC ?_
   refine yi 19 hC ?_
   exact yt hT hC h
 refine yP 20 hC h λ _ h=>?_
 refine yw 21 hC ?_
 exact yz<|zk<|Zg<|Zj rfl rfl h
def n49 a R w:=
 Zr (.bool false) (
 opV Pg (Go.convert 197 273 a) (Zc R) w λ b w=>
 C0 244 #[b] R w λ c w=>
 R (.returned c) w) (
 C0 245 #[a] R w λ d w=>
 R (.returned d) w)
def Zk4:QqX1 211 n49:=λ h=>by
 refine yD func211 ?_
 refine zs<|zr<|zm<|zn<|zk<|zs<|yC h (λ h=>zs<|zr<|zm<|yv h λ h=>yc h Zkd λ h=>zm<|zn<|zk<|Zg<|Zb<|Zj rfl rfl h) λ h=>Zk<|zk<|zs<|zr<|zm<|yc h Zke λ h=>zm ?_
 exact zn<|zk<|Zg<|Zj rfl rfl h
def n97 a R w:=
 opN Pg (Y0 a) (Zc R) w λ b w=>
 F0 123 b 2 R w λ c w=>
 opU Pg (storeAt 3 c (QqQ 0)) (Zc R) w λ w=>
 opN Pg (Y0 a) (Zc R) w λ d w=>
 F0 123 d 3 R w λ e w=>
 opU Pg (storeAt 4 e (.bool false)) (Zc R) w λ w=>
 opN Pg (Y0 a) (Zc R) w λ f w=>
 F0 123 f 5 R w λ g w=>
 opU Pg (storeAt 3 g (QqQ 0)) (Zc R) w λ w=>
 opN Pg (Y0 a) (Zc R) w λ h w=>
 F0 123 h 6 R w λ i w=>
 opU Pg (storeAt 3 i (QqQ 0)) (Zc R) w λ w=>
 R (.returned (.tuple #[])) w
def ZlQ:QqX1 212 n97:=λ h=>by
 refine yD func212 ?_
 refine zr<|zm<|zm<|zm<|zm<|yN h λ h=>yv h λ h=>yu h λ h=>yN h λ h=>yv h λ h=>yu h λ h=>yN h λ h=>yv h λ h=>yu h λ h=>yN h λ h=>?_
 exact yv h λ h=>yu h λ h=>zn<|ZJ<|ZR rfl h
def Rd c b (a:WPr) R w:=
 J0 123 b 2 a λ d=>
 I0 3 d a λ e=>
 qV Pg a (ZA .shl 3 true (QqQ 1) e) λ f=>
 qV Pg a (ZA .sub 3 true f (QqQ 1)) λ g=>
 J0 123 b 5 a λ h=>
 I0 3 h a λ i=>
 J0 123 b 6 a λ j=>
 I0 3 j a λ k=>
 opV Pg (buildSlice 61 2 #[(0,i),(1,k)]) (Zc R) w λ l w=>
 a w∧(
 C0 215 #[c,(QqQ 0),g,l] R w λ m w=>
 a w∧(
 R (.returned (.tuple #[])) w))
def Zgf a c R w:=
 opV Pg (box 123 c) (Zc R) w λ b w=>
 L0 123 b R w λ d w=>
 C0 214 #[a,d] R w λ f w=>
 Z4 w λ e w=>
 Rd a b e R w
def Zgg:QqX2 213 Zgf:=λ h=>by
 refine yD func213 ?_
 refine zs<|zr<|yv h λ h=>zn<|zk<|zs<|zr<|zm<|yv h λ h=>yc h ZfF λ h=>zn<|zk<|yh [7,8,9,10,11,12,13,14,15,16,17] h λ C hC h=>yw 0 hC ?_
 refine ye 1 hC h λ h=>?_
 refine ye 2 hC h λ h=>?_
 refine ye 3 hC h λ h=>?_
 refine ye 4 hC h λ h=>?_
 refine ye 5 hC h λ h=>?_
 refine ye 6 hC h λ h=>?_
 refine ye 7 hC h λ h=>?_
 refine ye 8 hC h λ h=>?_
 refine yo 9 ?_
 refine yS h λ h=>zn ?_
 obtain ⟨hC,h⟩:=h
 refine ⟨hC,?_⟩
 refine yo 10 ?_
 refine yc h D6 λ h=>zn ?_
 obtain ⟨hC,h⟩:=h
 refine ⟨hC,?_⟩
 exact yz<|ZJ<|ZR rfl h
def SY d b e f (R:RT) w:=
 Zp (λ (a:Vl) (w:Wd)=>
 Zx b a (.bool false) λ g=>
 C0 135 #[d,g,(QqQ 6)] R w λ h w=>
 R (.returned (.tuple #[])) w) λ c=>
 Zm b true (
 Zx e (.bool true) f λ a=>
 c a w) (
 c undef w)
def S1 g h i c d R w:=
 Zp (λ (a:Vl) (w:Wd)=>
 Zp (λ (b:Vl) (w:Wd)=>
 SY g i c b R w) λ e=>
 Zm c false (
 Zx d a (.bool false) λ b=>
 e b w) (
 e undef w)) λ f=>
 Zm d true (
 F0 123 h 2 R w λ j w=>
 L0 3 j R w λ k w=>
 B0 .rem 3 true k (QqQ 8) R w λ l w=>
 B0 .eql 3 true l (QqQ 0) R w λ a w=>
 f a w) (
 f undef w)
def S2 d a e b R w:=
 Zp (λ (f:Vl) (w:Wd)=>
 S1 d a e b f R w) λ c=>
 Zm b false (
 F0 123 a 2 R w λ g w=>
 L0 3 g R w λ h w=>
 B0 .gtr 3 true h (QqQ 8) R w λ i w=>
 c i w) (
 c undef w)
def S3 d a e f R w:=
 Zx e f (.bool false) λ b=>
 Zp (λ (g:Vl) (w:Wd)=>
 S2 d a b g R w) λ c=>
 Zm b true (
 F0 123 a 3 R w λ h w=>
 L0 4 h R w λ i w=>
 N0 i R w λ j w=>
 c j w) (
 c undef w)
def n83 e f R w:=
 opV Pg (box 123 f) (Zc R) w λ a w=>
 F0 123 a 2 R w λ g w=>
 L0 3 g R w λ h w=>
 B0 .geq 3 true h (QqQ 1) R w λ c w=>
 Zp (λ (b:Vl) (w:Wd)=>
 S3 e a c b R w) λ d=>
 Zm c true (
 F0 123 a 2 R w λ i w=>
 L0 3 i R w λ j w=>
 B0 .leq 3 true j (QqQ 32) R w λ b w=>
 d b w) (
 d undef w)
def ZlD:QqX2 214 n83:=λ h=>by
 refine yD func214 ?_
 refine zs<|zr<|yv h λ h=>zn<|zk<|Zq<|yG 5<|zm<|yv h λ h=>yv h λ h=>yb h λ h=>zm<|zn<|yg1 3 4 true [9,10,11] 11 h (λ _ T hT h=>?_) λ σ w h=>?_
 · refine yv h λ h=>yv h λ h=>yb h λ h=>zn ?_
   exact zt hT h
 refine yG 2<|yp h λ h=>zm<|zn<|yg1 4 9 true [14,15,16,17] 17 h (λ _ T hT h=>?_) λ σ w h=>?_
 · refine yv h λ h=>yv h λ h=>yv h λ h=>zm<|zn ?_
   exact zt hT h
 refine yg1 4 13 false [18,19,20,21] 21 h (λ _ T hT h=>?_) λ σ w h=>?_
 · refine yv h λ h=>yv h λ h=>yb h λ h=>zm<|zn ?_
   exact zt hT h
 refine yg1 4 17 true [22,23,24,25] 25 h (λ _ T hT h=>?_) λ σ w h=>?_
 · refine yv h λ h=>yv h λ h=>yb h λ h=>yb h λ h=>zn ?_
   exact zt hT h
 refine yg1 1 13 false [26] 26 h (λ _ T hT h=>?_) λ σ w h=>?_
 · refine yp h λ h=>zn ?_
   exact zt hT h
 refine yg1 1 9 true [27] 27 h (λ _ T hT h=>?_) λ σ w h=>?_
 · refine yp h λ h=>zn ?_
   exact zt hT h
 exact yG 2<|yp h λ h=>yc h Uk λ h=>zn<|ZG<|ZJ<|ZR rfl h
def Nk a b c d e (Zz:KW) (R:RT) w:=
 Zx d e (.bool false) λ f=>
 C0 135 #[a,f,(QqQ 7)] R w λ h w=>
 B0 .add 3 true b (QqQ 1) R w λ g w=>
 Zz c g w
def Nl f g h i c (Zz:KW) R w:=
 X0 61 i c R w λ j w=>
 L0 3 j R w λ a w=>
 B0 .geq 3 false a g R w λ d w=>
 Zp (λ (b:Vl) (w:Wd)=>
 Nk f c a d b Zz R w) λ e=>
 Zm d true (
 B0 .leq 3 false a h R w λ b w=>
 e b w) (
 e undef w)
def n91 d a e b R w:=
 G0 61 3 b R w λ f w=>
 Wy (λ a c w Zz=>
 B0 .lss 3 false c f R w λ g w=>
 Zr g (
 Nl d a e b c Zz R w) (
 R (.returned (.tuple #[])) w)) a (QqQ 0) w
def ZlL:QqX4 215 n91:=λ h=>by
 refine yD func215 ?_
 refine zs<|zr<|zm<|yx h λ h=>zm<|zn<|zk<|Zl<|yl2 [1,9,12,13,14,15,16,17,18,19,20,21,22,23,24,25,26,27] 1 12 h λ σ w next h=>zs<|zr<|yb h λ h=>zn<|zk<|zs ?_
 refine yC h (λ h=>?_) λ h=>?_
 · refine Zk<|zk<|zs<|Zl<|zs<|zr<|yv h λ h=>yv h λ h=>zm<|zn<|zk<|zs<|Zq<|yG 5<|zm ?_
   refine zm<|zm<|yb h λ h=>zm<|zn<|yg1 3 4 true [21,22,23] 23 h (λ _ T hT h=>?_) λ σ w h=>?_
   · refine zm<|zm<|yb h λ h=>zn ?_
     exact zt hT h
   refine yG 2<|yp h λ h=>yc h Uk λ h=>zn<|ZG<|zk<|zr<|zm<|zm<|zn<|Zf<|zk<|zr<|yb h λ h=>zm ?_
   exact zn<|zk<|⟨rfl,h⟩
 exact ZN<|Ze<|Ze<|Zs<|ZJ<|ZR rfl h
def Zgn a R w:=
 opN Pg (Y0 a) (Zc R) w λ b w=>
 F0 123 b 2 R w λ c w=>
 opU Pg (storeAt 3 c (QqQ 0)) (Zc R) w λ w=>
 opN Pg (Y0 a) (Zc R) w λ d w=>
 F0 123 d 3 R w λ e w=>
 opU Pg (storeAt 4 e (.bool false)) (Zc R) w λ w=>
 opN Pg (Y0 a) (Zc R) w λ f w=>
 F0 123 f 5 R w λ g w=>
 opU Pg (storeAt 3 g (QqQ 0)) (Zc R) w λ w=>
 R (.returned (.tuple #[])) w
def Zgo:QqX1 216 Zgn:=λ h=>by
 refine yD func216 ?_
 refine zr<|zm<|zm<|zm<|yN h λ h=>yv h λ h=>yu h λ h=>yN h λ h=>yv h λ h=>yu h λ h=>yN h λ h=>yv h λ h=>yu h λ h=>zn<|ZJ ?_
 exact ZR rfl h
def Rf c b (a:WPr) R w:=
 J0 123 b 2 a λ d=>
 I0 3 d a λ e=>
 qV Pg a (ZA .shl 3 true (QqQ 1) e) λ f=>
 qV Pg a (ZA .sub 3 true f (QqQ 1)) λ g=>
 J0 123 b 5 a λ h=>
 I0 3 h a λ i=>
 opV Pg (buildSlice 61 1 #[(0,i)]) (Zc R) w λ j w=>
 a w∧(
 C0 215 #[c,(QqQ 0),g,j] R w λ k w=>
 a w∧(
 R (.returned (.tuple #[])) w))
def Zgp a c R w:=
 opV Pg (box 123 c) (Zc R) w λ b w=>
 L0 123 b R w λ d w=>
 C0 214 #[a,d] R w λ f w=>
 Z4 w λ e w=>
 Rf a b e R w
def Zgq:QqX2 217 Zgp:=λ h=>by
 refine yD func217 ?_
 refine zs<|zr<|yv h λ h=>zn<|zk<|zs<|zr<|zm<|yv h λ h=>yc h ZfF λ h=>zn<|zk<|yh [7,8,9,10,11,12,13,14,15] h λ C hC h=>yw 0 hC ?_
 refine ye 1 hC h λ h=>?_
 refine ye 2 hC h λ h=>?_
 refine ye 3 hC h λ h=>?_
 refine ye 4 hC h λ h=>?_
 refine ye 5 hC h λ h=>?_
 refine ye 6 hC h λ h=>?_
 refine yo 7 ?_
 refine yS h λ h=>zn ?_
 obtain ⟨hC,h⟩:=h
 refine ⟨hC,?_⟩
 refine yo 8 ?_
 refine yc h D6 λ h=>zn ?_
 obtain ⟨hC,h⟩:=h
 refine ⟨hC,?_⟩
 exact yz<|ZJ<|ZR rfl h
def Zgr a R w:=
 opN Pg (Y0 a) (Zc R) w λ b w=>
 F0 123 b 4 R w λ c w=>
 opU Pg (storeAt 4 c (.bool false)) (Zc R) w λ w=>
 opN Pg (Y0 a) (Zc R) w λ d w=>
 F0 123 d 5 R w λ e w=>
 opU Pg (storeAt 3 e (QqQ 0)) (Zc R) w λ w=>
 opN Pg (Y0 a) (Zc R) w λ f w=>
 F0 123 f 6 R w λ g w=>
 opU Pg (storeAt 3 g (QqQ 0)) (Zc R) w λ w=>
 R (.returned (.tuple #[])) w
def Zgs:QqX1 218 Zgr:=λ h=>by
 refine yD func218 ?_
 refine zr<|zm<|zm<|zm<|yN h λ h=>yv h λ h=>yu h λ h=>yN h λ h=>yv h λ h=>yu h λ h=>yN h λ h=>yv h λ h=>yu h λ h=>zn<|ZJ ?_
 exact ZR rfl h
def Zgt b c R w:=
 opV Pg (box 123 c) (Zc R) w λ a w=>
 F0 123 a 5 R w λ d w=>
 L0 3 d R w λ e w=>
 F0 123 a 6 R w λ f w=>
 L0 3 f R w λ g w=>
 opV Pg (buildSlice 61 2 #[(0,e),(1,g)]) (Zc R) w λ h w=>
 C0 215 #[b,(QqQ 0),(QqQ 34359738367),h] R w λ i w=>
 R (.returned (.tuple #[])) w
def Zgu:QqX2 219 Zgt:=λ h=>by
 refine yD func219 ?_
 refine zs<|zr<|yv h λ h=>zn<|zk<|zr<|zm<|yv h λ h=>yv h λ h=>yv h λ h=>yv h λ h=>yS h λ h=>yc h D6 λ h=>zn<|ZJ ?_
 exact ZR rfl h
def Zgv a R w:=
 opV Pg (build 120 #[]) (Zc R) w λ b w=>
 opN Pg (Y0 a) (Zc R) w λ c w=>
 F0 123 c 7 R w λ d w=>
 S0 120 d b R w λ w=>
 R (.returned (.tuple #[])) w
def Zgw:QqX1 220 Zgv:=λ h=>by
 refine yD func220 ?_
 exact zr<|zm<|yB h λ h=>yN h λ h=>yv h λ h=>yu h λ h=>zn<|ZJ<|ZR rfl h
def JG c d e (f:WPr) (a:PEn) (R:RT) w:=
 opV Pg (loadAt 296 d) a w λ g w=>
 opV Pg (lookup 296 g e true) a w λ b w=>
 opV Pg (extract b 0) a w λ h w=>
 opV Pg (extract b 1) a w λ i w=>
 opV Pg (alloc 300 true (.tuple #[])) a w λ j w=>
 opU Pg (storeAt 300 j h) a w λ w=>
 opV Pg (loadAt 167 c) a w λ k w=>
 ZU Pg 135 #[k,i,(QqQ 8)] a w λ l w=>
 f w
def JH d e f g (ds:LDf) (R:RT) w:=
 Zx f g (.bool false) λ b=>
 Zp (λ (a:Vl) (w:Wd)=>
 Zx b a (.bool false) λ h=>
 ZU Pg 135 #[e,h,(QqQ 9)] (ZD Pg ds [] R) w λ k w=>
 Ul Pg ds [] R w) λ c=>
 Zm b true (
 opV Pg (fieldAt 300 d 1) (ZD Pg ds [] R) w λ i w=>
 opV Pg (loadAt 3 i) (ZD Pg ds [] R) w λ j w=>
 opV Pg (ZA .leq 3 true j (QqQ 1048576)) (ZD Pg ds [] R) w λ a w=>
 c a w) (
 c undef w)
def JI f c (ds:LDf) (R:RT) w:=
 opV Pg (extract c 0) (ZD Pg ds [] R) w λ g w=>
 opV Pg (extract c 1) (ZD Pg ds [] R) w λ h w=>
 opV Pg (alloc 300 true (.tuple #[])) (ZD Pg ds [] R) w λ a w=>
 opU Pg (storeAt 300 a g) (ZD Pg ds [] R) w λ w=>
 opV Pg (loadAt 167 f) (ZD Pg ds [] R) w λ i w=>
 opV Pg (ZA .eql 49 true h (QqQ 0)) (ZD Pg ds [] R) w λ d w=>
 Zp (λ (b:Vl) (w:Wd)=>
 JH a i d b ds R w) λ e=>
 Zm d true (
 opV Pg (fieldAt 300 a 0) (ZD Pg ds [] R) w λ j w=>
 opV Pg (loadAt 3 j) (ZD Pg ds [] R) w λ k w=>
 opV Pg (ZA .geq 3 true k (QqQ 0)) (ZD Pg ds [] R) w λ b w=>
 e b w) (
 e undef w)
def Ky a b c (ds:LDf) (R:RT) w:=
 opV Pg (fieldAt 123 b 7) (ZD Pg ds [] R) w λ d w=>
 opV Pg (loadAt 120 d) (ZD Pg ds [] R) w λ e w=>
 opV Pg (loadAt 296 c) (ZD Pg ds [] R) w λ f w=>
 ZU Pg 249 #[e,f] (ZD Pg ds [] R) w λ g w=>
 JI a g ds R w
def Kz a c b d (ds:LDf) R w:=
 BF Pg d ds (λ l2 e w f h g=>
 Ad l2 w λ w=>
 JG a b e f g R w) (λ ch ds w=>ZD Pg ds [] R ch w) w (λ ds w=>
 Ky a c b ds R w) []
def JJ c a d (ds:LDf) (R:RT) w:=
 opV Pg (alloc 296 true (.tuple #[])) (ZD Pg ds [] R) w λ b w=>
 opU Pg (storeAt 296 b d) (ZD Pg ds [] R) w λ w=>
 opV Pg (fieldAt 123 a 7) (ZD Pg ds [] R) w λ e w=>
 opV Pg (loadAt 120 e) (ZD Pg ds [] R) w λ f w=>
 ZU Pg 248 #[f] (ZD Pg ds [] R) w λ g w=>
 Kz c a b g ds R w
def JK a b (ds:LDf) (R:RT) w:=
 opV Pg (loadAt 167 a) (ZD Pg ds [] R) w λ c w=>
 ZU Pg 195 #[c] (ZD Pg ds [] R) w λ d w=>
 ZU Pg 247 #[d] (ZD Pg ds [] R) w λ e w=>
 JJ a b e ds R w
def JL b c (a:WPr) (ds:LDf) (R:RT) w:=
 I0 167 b a λ d=>
 J0 123 c 7 a λ e=>
 I0 120 e a λ f=>
 ZU Pg 246 #[f] (ZD Pg ds [] R) w λ g w=>
 a w∧(
 ZU Pg 135 #[d,g,(QqQ 9)] (ZD Pg ds [] R) w λ h w=>
 a w∧(
 JK b c ds R w))
def n90 a b (R:RT) w:=
 (λ (ds:LDf)=>
 opV Pg (box 167 a) (ZD Pg ds [] R) w λ c w=>
 opV Pg (box 123 b) (ZD Pg ds [] R) w λ d w=>
 Z4 w λ e w=>
 JL c d e ds R w) []
def ZlK:QqX2 221 n90:=λ h=>by
 refine yE func221 ?_
 unfold n90 at h
 dsimp only at h
 refine zs<|zr<|yv h λ h=>yv h λ h=>zn<|zk<|zs<|yh [10,11,12,13,14] h λ C hC h=>ye 0 hC h λ h=>?_
 refine ye 1 hC h λ h=>?_
 refine ye 2 hC h λ h=>?_
 refine yo 3 ?_
 refine yc h Zen λ h=>zn ?_
 obtain ⟨hC,h⟩:=h
 refine ⟨hC,?_⟩
 refine yo 4 ?_
 refine yc h Uk λ h=>zn ?_
 obtain ⟨hC,h⟩:=h
 refine ⟨hC,?_⟩
 refine yz<|zk<|zs<|zr<|yv h λ h=>yc h NQ λ h=>yc h ZaA λ h=>yv h λ h=>yu h λ h=>zn<|zk<|zs<|zs<|zr<|yv h λ h=>?_
 refine yv h λ h=>yc h ZfH λ h=>zn<|zk<|Zl<|Gr [] h rfl (λ l2 t21 w Kr2 Xr2 Qr2 h=>?_) (λ ds w h=>?_) (λ c ds w h=>?_) (λ ch ds w h=>X7 rfl h)
 · refine zr<|zm<|zn<|zk ?_
   obtain ⟨hr,h⟩:=h
   refine ⟨rfl,hr,λ w hb=>?_⟩
   have h:=h w hb
   refine Zl<|zs<|zr<|yv h λ h=>zm<|yv h λ h=>zm<|yv h λ h=>yv h λ h=>yv h λ h=>yu h λ h=>zm<|zn<|zk<|zr ?_
   exact yv h λ h=>zm<|yc h Uk λ h=>zn<|Zf<|⟨rfl,h⟩
 · refine Zf<|zk<|zs<|zr<|yv h λ h=>yv h λ h=>yv h λ h=>yc h Zkf λ h=>zm<|yv h λ h=>yv h λ h=>yv h λ h=>yu h λ h=>zm<|zn ?_
   refine zk<|Zq<|yG 4<|yv h λ h=>zm<|yb h λ h=>zm<|zn<|yg1 3 3 true [42,43,44] 44 h (λ _ T hT h=>?_) λ σ w h=>?_
   · refine yv h λ h=>yv h λ h=>yb h λ h=>zn ?_
     exact zt hT h
   refine yG 2<|yp h λ h=>zm<|zn<|yg1 3 8 true [47,48,49] 49 h (λ _ T hT h=>?_) λ σ w h=>?_
   · refine yv h λ h=>yv h λ h=>yb h λ h=>zn ?_
     exact zt hT h
   exact yG 2<|yp h λ h=>yc h Uk λ h=>zn<|ZG<|zQ<|X8 rfl h
 exact h.elim
def Zgx a R w:=
 opN Pg (Y0 a) (Zc R) w λ b w=>
 F0 123 b 5 R w λ c w=>
 opU Pg (storeAt 3 c (QqQ 0)) (Zc R) w λ w=>
 opN Pg (Y0 a) (Zc R) w λ d w=>
 F0 123 d 6 R w λ e w=>
 opU Pg (storeAt 3 e (QqQ 0)) (Zc R) w λ w=>
 R (.returned (.tuple #[])) w
def Zgy:QqX1 222 Zgx:=λ h=>by
 refine yD func222 ?_
 exact zr<|zm<|zm<|yN h λ h=>yv h λ h=>yu h λ h=>yN h λ h=>yv h λ h=>yu h λ h=>zn<|ZJ<|ZR rfl h
def Rg a b R w:=
 F0 123 b 6 R w λ c w=>
 L0 3 c R w λ d w=>
 opV Pg (buildSlice 61 1 #[(0,d)]) (Zc R) w λ e w=>
 C0 215 #[a,(QqQ 0),(QqQ 1048576),e] R w λ f w=>
 R (.returned (.tuple #[])) w
def Zgz a c R w:=
 opV Pg (box 123 c) (Zc R) w λ b w=>
 F0 123 b 5 R w λ d w=>
 L0 3 d R w λ e w=>
 opV Pg (buildSlice 61 1 #[(0,e)]) (Zc R) w λ f w=>
 C0 215 #[a,(QqQ 0),(QqQ 255),f] R w λ g w=>
 Rg a b R w
def ZgA:QqX2 223 Zgz:=λ h=>by
 refine yD func223 ?_
 refine zs<|zr<|yv h λ h=>zn<|zk<|zs<|zr<|zm<|yv h λ h=>yv h λ h=>yS h λ h=>yc h D6 λ h=>zn<|zk<|zr ?_
 exact zm<|yv h λ h=>yv h λ h=>yS h λ h=>yc h D6 λ h=>zn<|ZJ<|ZR rfl h
def n98 a R w:=
 opN Pg (Y0 a) (Zc R) w λ b w=>
 F0 123 b 4 R w λ c w=>
 opU Pg (storeAt 4 c (.bool false)) (Zc R) w λ w=>
 opN Pg (Y0 a) (Zc R) w λ d w=>
 F0 123 d 6 R w λ e w=>
 opU Pg (storeAt 3 e (QqQ 0)) (Zc R) w λ w=>
 R (.returned (.tuple #[])) w
def ZlR:QqX1 224 n98:=λ h=>by
 refine yD func224 ?_
 exact zr<|zm<|zm<|yN h λ h=>yv h λ h=>yu h λ h=>yN h λ h=>yv h λ h=>yu h λ h=>zn<|ZJ<|ZR rfl h
def n99 a b R w:=
 opV Pg (box 123 b) (Zc R) w λ c w=>
 F0 123 c 6 R w λ d w=>
 L0 3 d R w λ e w=>
 opV Pg (buildSlice 61 1 #[(0,e)]) (Zc R) w λ f w=>
 C0 215 #[a,(QqQ 2),(QqQ 1048576),f] R w λ g w=>
 R (.returned (.tuple #[])) w
def ZlS:QqX2 225 n99:=λ h=>by
 refine yD func225 ?_
 exact zs<|zr<|yv h λ h=>zn<|zk<|zr<|zm<|yv h λ h=>yv h λ h=>yS h λ h=>yc h D6 λ h=>zn<|ZJ<|ZR rfl h
def ZfZ a R w:=
 opV Pg (build 120 #[]) (Zc R) w λ b w=>
 opN Pg (Y0 a) (Zc R) w λ c w=>
 F0 123 c 8 R w λ d w=>
 opU Pg (storeAt 9 d (.string { data := #[] })) (Zc R) w λ w=>
 opN Pg (Y0 a) (Zc R) w λ e w=>
 F0 123 e 7 R w λ f w=>
 S0 120 f b R w λ w=>
 R (.returned (.tuple #[])) w
def Zf0:QqX1 226 ZfZ:=λ h=>by
 refine yD func226 ?_
 exact zr<|zm<|zm<|yB h λ h=>yN h λ h=>yv h λ h=>yu h λ h=>yN h λ h=>yv h λ h=>yu h λ h=>zn<|ZJ<|ZR rfl h
def Zf1 a c R w:=
 opV Pg (box 123 c) (Zc R) w λ b w=>
 F0 123 b 8 R w λ d w=>
 L0 9 d R w λ e w=>
 C0 228 #[a,e] R w λ g w=>
 L0 123 b R w λ f w=>
 C0 221 #[a,f] R w λ h w=>
 R (.returned (.tuple #[])) w
def Zf2:QqX2 227 Zf1:=λ h=>by
 refine yD func227 ?_
 refine zs<|zr<|yv h λ h=>zn<|zk<|zs<|zr<|zm<|yv h λ h=>yv h λ h=>yc h Zem λ h=>zn<|zk<|zr<|zm ?_
 exact yv h λ h=>yc h Zel λ h=>zn<|ZJ<|ZR rfl h
def n89 a c R w:=
 opN Pg (Y0 a) (Zc R) w λ d w=>
 F0 201 d 1 R w λ e w=>
 L0 198 e R w λ f w=>
 opV Pg (lookup 198 f c true) (Zc R) w λ b w=>
 E0q b 0 R w λ h w=>
 E0q b 1 R w λ g w=>
 C0 135 #[a,g,(QqQ 8)] R w λ i w=>
 R (.returned (.tuple #[])) w
def ZlJ:QqX2 228 n89:=λ h=>by
 refine yD func228 ?_
 refine zs<|zr<|zm<|yN h λ h=>yv h λ h=>yv h λ h=>zm<|yv h λ h=>zm<|yv h λ h=>yv h λ h=>zm<|zm<|zn<|zk ?_
 exact zr<|zm<|zm<|yc h Uk λ h=>zn<|ZJ<|ZR rfl h
def Zf3 a R w:=
 opN Pg (Y0 a) (Zc R) w λ b w=>
 F0 123 b 8 R w λ c w=>
 opU Pg (storeAt 9 c (.string { data := #[] })) (Zc R) w λ w=>
 R (.returned (.tuple #[])) w
def Zf4:QqX1 229 Zf3:=λ h=>by
 refine yD func229 ?_
 exact zr<|zm<|yN h λ h=>yv h λ h=>yu h λ h=>zn<|ZJ<|ZR rfl h
def Zf5 a b R w:=
 opV Pg (box 123 b) (Zc R) w λ c w=>
 F0 123 c 8 R w λ d w=>
 L0 9 d R w λ e w=>
 C0 228 #[a,e] R w λ f w=>
 R (.returned (.tuple #[])) w
def Zf6:QqX2 230 Zf5:=λ h=>by
 refine yD func230 ?_
 exact zs<|zr<|yv h λ h=>zn<|zk<|zr<|zm<|yv h λ h=>yv h λ h=>yc h Zem λ h=>zn<|ZJ<|ZR rfl h
def Zf7 a R w:=
 opN Pg (Y0 a) (Zc R) w λ b w=>
 F0 123 b 9 R w λ c w=>
 opU Pg (storeAt 9 c (.string { data := #[] })) (Zc R) w λ w=>
 opN Pg (Y0 a) (Zc R) w λ d w=>
 F0 123 d 11 R w λ e w=>
 opU Pg (storeAt 121 e (Value.slice none 0 0)) (Zc R) w λ w=>
 R (.returned (.tuple #[])) w
def Zf8:QqX1 231 Zf7:=λ h=>by
 refine yD func231 ?_
 exact zr<|zm<|zm<|yN h λ h=>yv h λ h=>yu h λ h=>yN h λ h=>yv h λ h=>yu h λ h=>zn<|ZJ<|ZR rfl h
def DA a b (U2:KW) R w:=
 F0 213 a 1 R w λ c w=>
 L0 3 c R w λ d w=>
 B0 .add 3 true d (QqQ 1) R w λ e w=>
 B0 .add 3 true b (QqQ 1) R w λ f w=>
 U2 e f w
def DB b a c (U2:KW) R w:=
 F0 213 a 2 R w λ d w=>
 L0 9 d R w λ e w=>
 C0 228 #[b,e] R w λ f w=>
 DA a c U2 R w
def DC b d e f c (U2:KW) R w:=
 X0 121 f c R w λ g w=>
 L0 213 g R w λ h w=>
 opV Pg (alloc 213 true (.tuple #[])) (Zc R) w λ a w=>
 S0 213 a h R w λ w=>
 F0 300 d 1 R w λ i w=>
 L0 3 i R w λ j w=>
 F0 213 a 0 R w λ k w=>
 L0 3 k R w λ l w=>
 F0 213 a 1 R w λ m w=>
 L0 3 m R w λ n w=>
 opV Pg (buildSlice 61 2 #[(0,l),(1,n)]) (Zc R) w λ o w=>
 C0 215 #[b,e,j,o] R w λ p w=>
 DB b a c U2 R w
def Bp d e a R w:=
 F0 300 a 0 R w λ f w=>
 L0 3 f R w λ g w=>
 F0 123 e 11 R w λ h w=>
 L0 121 h R w λ b w=>
 G0 121 3 b R w λ i w=>
 Wy (λ j c w U2=>
 B0 .lss 3 false c i R w λ k w=>
 Zr k (
 DC d a j b c U2 R w) (
 R (.returned (.tuple #[])) w)) g (QqQ 0) w
def Bq c a f R w:=
 F0 123 a 11 R w λ g w=>
 L0 121 g R w λ h w=>
 G0 121 3 h R w λ i w=>
 B0 .geq 3 true i (QqQ 1) R w λ d w=>
 Zp (λ (b:Vl) (w:Wd)=>
 Zx d b (.bool false) λ j=>
 C0 135 #[c,j,(QqQ 3)] R w λ n w=>
 Bp c a f R w) λ e=>
 Zm d true (
 F0 123 a 11 R w λ k w=>
 L0 121 k R w λ l w=>
 G0 121 3 l R w λ m w=>
 B0 .leq 3 true m (QqQ 40) R w λ b w=>
 e b w) (
 e undef w)
def Br b e f c g (R:RT) w:=
 Zp (λ (a:Vl) (w:Wd)=>
 Zx c a (.bool false) λ h=>
 C0 135 #[b,h,(QqQ 8)] R w λ i w=>
 Bq b e f R w) λ d=>
 Zm c true (
 N0 g R w λ a w=>
 d a w) (
 d undef w)
def JF a b c d (R:RT) w:=
 C0 195 #[a] R w λ e w=>
 opV Pg (makeFunc (.func 251) #[] #[b]) (Zc R) w λ f w=>
 C0 250 #[e,f] R w λ g w=>
 Br a b c d g R w
def Bs d e (a:WPr) (f:KW) R w:=
 qV Pg a (lookup 296 d e true) λ b=>
 qV Pg a (extract b 0) λ g=>
 qV Pg a (extract b 1) λ h=>
 opV Pg (alloc 300 true (.tuple #[])) (Zc R) w λ c w=>
 a w∧(
 S0 300 c g R w λ w=>
 a w∧(
 f c h w))
def yI b d e (a:WPr) (f:KW) R w:=
 qV Pg a (lookup 296 d e true) λ c=>
 qV Pg a (extract c 0) λ g=>
 qV Pg a (extract c 1) λ h=>
 S0 300 b g R w λ w=>
 a w∧(
 f b h w)
def zu c d (a:WPr) (e:KW) (R:RT) w:=
 (
 C0 247 #[c] R w λ b w=>
 XS a w λ f w=>
 Bs b d f e R w)∧(
 opV Pg (alloc 300 true (.tuple #[])) (Zc R) w λ g w=>
 a w∧(
 C0 247 #[c] R w λ b w=>
 XS a w λ h w=>
 yI g b d h e R w))
def xY b d e (a:WPr) (f:KW) R w:=
 qV Pg a (lookup 296 d e true) λ c=>
 qV Pg a (extract c 0) λ g=>
 qV Pg a (extract c 1) λ h=>
 S0 300 b g R w λ w=>
 a w∧(
 f b h w)
def zv a b c (d:WPr) (e:KW) (R:RT) w:=
 C0 195 #[a] R w λ f w=>
 XS d w λ g w=>
 C0 247 #[f] R w λ h w=>
 XS g w λ i w=>
 xY b h c i e R w
def zw b d (a:WPr) R w:=
 J0 123 d 9 a λ g=>
 I0 9 g a λ e=>
 Zp (λ (c:Vl) (h:Vl) (w:Wd)=>
 JF b d c h R w) λ f=>
 (
 C0 195 #[b] R w λ i w=>
 XS a w λ j w=>
 zu i e j f R w)∧(
 opV Pg (alloc 300 true (.tuple #[])) (Zc R) w λ c w=>
 a w∧(
 zv b c e a f R w))
def n84 a b R w:=
 opV Pg (box 123 b) (Zc R) w λ c w=>
 Z4 w λ d w=>
 zw a c d R w
def ZlE:QqX2 232 n84:=λ h=>by
 refine yD func232 ?_
 refine zs<|zr<|yv h λ h=>zn<|zk<|zs<|yh [4,5,10,11,12,13,14,15,16,17,18] h λ C hC h=>yw 0 hC ?_
 refine ye 3 hC h λ h=>?_
 refine ye 4 hC h λ h=>?_
 refine X1 h (λ K2 hK h=>?_)
 refine Qx [4,5,10,12,13,16,17,18] (λ ρ w=>K2 (ρ 4) (ρ 5) w) (λ T hT=>?_) (λ σ w h=>?_)
 · obtain ⟨h0,h1⟩:=h
   refine Y5 1 9 rfl rfl K5 (λ _ _=>rfl) (λ _ _=>rfl) ?_ ?_
   · have h:=h0
     refine yc h NQ λ h=>zn ?_
     obtain ⟨C6,hs,hC,h⟩:=h
     refine ⟨C6,hs,hC,?_⟩
     obtain ⟨h0,h1⟩:=h
     refine Y5 2 9 rfl rfl K5 (λ _ _=>rfl) (λ _ _=>rfl) ?_ ?_
     · have h:=h0
       refine yc h ZaA λ h=>zn ?_
       obtain ⟨C7,hs,hC,h⟩:=h
       refine ⟨C7,hs,hC,?_⟩
       refine ye 5 hC h λ h=>?_
       refine yw 6 hC ?_
       refine ye 7 hC h λ h=>?_
       refine ye 8 hC h λ h=>?_
       refine yo 9 ?_
       refine yv h λ h=>zn ?_
       obtain ⟨hC,h⟩:=h
       refine ⟨hC,?_⟩
       refine yo 10 ?_
       refine yu h λ h=>zn ?_
       obtain ⟨hC,h⟩:=h
       refine ⟨hC,?_⟩
       refine yw 11 hC ?_
       refine yz ?_
       exact zt hT h
     have h:=h1
     refine yv h λ h=>zn ?_
     obtain ⟨hC,h⟩:=h
     refine ⟨_,λ _ h=>h,hC,?_⟩
     refine yr 2 ?_
     refine yc h ZaA λ h=>zn ?_
     obtain ⟨C8,hs,hC,h⟩:=h
     refine ⟨C8,hs,hC,?_⟩
     refine ye 5 hC h λ h=>?_
     refine yw 6 hC ?_
     refine ye 7 hC h λ h=>?_
     refine ye 8 hC h λ h=>?_
     refine yo 10 ?_
     refine yu h λ h=>zn ?_
     obtain ⟨hC,h⟩:=h
     refine ⟨hC,?_⟩
     refine yw 11 hC ?_
     refine yz ?_
     exact zt hT h
   have h:=h1
   refine yv h λ h=>zn ?_
   obtain ⟨hC,h⟩:=h
   refine ⟨_,λ _ h=>h,hC,?_⟩
   refine yr 1 ?_
   refine yc h NQ λ h=>zn ?_
   obtain ⟨C9,hs,hC,h⟩:=h
   refine ⟨C9,hs,hC,?_⟩
   refine yr 2 ?_
   refine yc h ZaA λ h=>zn ?_
   obtain ⟨C10,hs,hC,h⟩:=h
   refine ⟨C10,hs,hC,?_⟩
   refine ye 5 hC h λ h=>?_
   refine yw 6 hC ?_
   refine ye 7 hC h λ h=>?_
   refine ye 8 hC h λ h=>?_
   refine yo 10 ?_
   refine yu h λ h=>zn ?_
   obtain ⟨hC,h⟩:=h
   refine ⟨hC,?_⟩
   refine yw 11 hC ?_
   refine yz ?_
   exact zt hT h
 subst hK
 refine zk<|zs<|zr<|zm<|yc h NQ λ h=>yF h λ h=>yc h Zkg λ h=>zm<|zn<|zk<|zs<|Zq<|yG 3<|zm<|zm ?_
 refine zm<|zn<|yg1 2 2 true [26,27] 27 h (λ _ T hT h=>?_) λ σ w h=>?_
 · refine zm<|yv h λ h=>zn ?_
   exact zt hT h
 refine yG 2<|yp h λ h=>yc h Uk λ h=>zn<|ZG<|zk<|zs<|Zq<|yG 6<|zm<|yv h λ h=>yv h λ h=>yx h λ h=>yb h λ h=>zm ?_
 refine zn<|yg1 4 5 true [36,37,38,39] 39 h (λ _ T hT h=>?_) λ σ w h=>?_
 · refine yv h λ h=>yv h λ h=>yx h λ h=>yb h λ h=>zn ?_
   exact zt hT h
 refine yG 2<|yp h λ h=>yc h Uk λ h=>zn<|ZG<|zk<|zs<|zr<|yv h λ h=>yv h λ h=>zm<|zn<|zk<|zs<|zr ?_
 refine yv h λ h=>yv h λ h=>yx h λ h=>zm<|zn<|zk<|Zl<|yl2 [7,9,47,48,49,50,51,52,53,54,55,56,57,58,59,60,61,62,63,64,65,66,67,68] 7 47 h λ σ w next h=>zs<|zr<|yb h λ h=>zn<|zk<|zs<|yC h (λ h=>?_) λ h=>?_
 · refine Zk<|zk<|zs<|Zl<|zs<|zr<|yv h λ h=>yv h λ h=>yv h λ h=>yu h λ h=>zn<|zk<|zs<|zr<|zm ?_
   refine zm<|yv h λ h=>yv h λ h=>yv h λ h=>yv h λ h=>yv h λ h=>yv h λ h=>yS h λ h=>yc h D6 λ h=>zn<|zk<|zs<|zr<|zm<|yv h λ h=>?_
   refine yv h λ h=>yc h Zem λ h=>zn<|zk<|zr<|yv h λ h=>yv h λ h=>yb h λ h=>zm<|zn<|Zf<|zk<|zr<|yb h λ h=>zm ?_
   exact zn<|zk<|⟨rfl,h⟩
 exact ZN<|Ze<|Ze<|Zs<|ZJ<|ZR rfl h
abbrev VF (a f c:Int):Vl := .agg #[.int .i64 a,.int .i64 f,.int .i64 c]
def XH (a f c:Int):PanicEntry:={ v := .iface 131 (VF a f c),recovered:=false }
def Ql (w:Wd) (a f c:Int):Ending→Wd→Prop:=λ e w'=>Ext w w'∧(c=0∧e = .returned (.tuple #[])∨c≠0∧e = .panicked [XH a f c])
def ZS {f:FuncId} {args:AVl} {QP:PEn} {w:Wd} {k:KV} {a fl c:Int} (h:Calls Pg f args w (Ql w a fl c)) (hk:∀ w',Ext w w'→c=0→k (.tuple #[]) w') (hp:∀ w',Ext w w'→c≠0→QP [XH a fl c] w'):ZU Pg f args QP w k:=
 Uo h (λ v w' h=>by rcases h with ⟨e,⟨h1,h2⟩ | ⟨_,h2⟩⟩<;>cases h2;exact hk w' e h1) (λ ch w' h=>by rcases h with ⟨e,⟨_,h2⟩ | ⟨h1,h2⟩⟩<;>cases h2;exact hp w' e h1) (λ w' h=>by rcases h with ⟨_,⟨_,h2⟩ | ⟨_,h2⟩⟩<;>cases h2)
def Xs {w w':Wd} {a f c:Int} (e:Ext w w') (h:c=0):Ql w a f c (.returned (.tuple #[])) w':=⟨e,.inl ⟨h,rfl⟩⟩
def Yi {w w':Wd} {a f c c':Int} (e:Ext w w') (h:c=c') (h0:c'≠0):Zc (Ql w a f c) [XH a f c'] w':=⟨e,.inr ⟨by rw [h];exact h0,by rw [h]⟩⟩
def orC (a b:Int):Int:=if a=0 then b else a
def Xf (b:Int):orC 0 b=b:=rfl
def QB {a b:Int} (h:a≠0):orC a b=a:=by unfold orC;rw [if_neg h]
def Yw (b:Bool) (c:Int):Int:=if b then 0 else c
structure Chk (w:Wd) (cb md ms:Nat) (Zu:List (BAr×Vl)) (ZH:List (BAr×Vl)) (at_ fld:Int) (fs:List Zv):Prop where
 obj:∃ dn mv ds mn fv,w.heap[cb]?=some (.cells #[.string dn,mv,.string ds,.map (some md),.map (some ms),.int .i64 at_,.int .i64 fld,.string mn,fv] 201 (0,0))∧YR w fv fs
 mdeps:Y6 w md Zu
 mstrs:Y6 w ms ZH
 dint:∀ k v,Yy Zu k=some v→∃ n,v = .int .i64 n
 sbool:∀ k v,Yy ZH k=some v→∃ b,v = .bool b
def T7 (ZH:List (BAr×Vl)) (s:BAr):Bool:=match Yy ZH s with
 | some (.bool b)=>b
 | _=>false
def Chk.strV {w:Wd} {cb md ms:Nat} {Zu ZH:List (BAr×Vl)} {at_ fld:Int} {fs:List Zv} (h:Chk w cb md ms Zu ZH at_ fld fs) (s:BAr):(Yy ZH s).getD (.bool false) = .bool (T7 ZH s):=by
 unfold T7
 cases hl:Yy ZH s with
 | none=>rfl
 | some v=>obtain ⟨b,rfl⟩:=h.sbool s v hl;rfl
def Chk.ext {w w':Wd} {cb md ms:Nat} {Zu ZH:List (BAr×Vl)} {at_ fld:Int} {fs:List Zv} (h:Chk w cb md ms Zu ZH at_ fld fs) (e:Ext w w'):Chk w' cb md ms Zu ZH at_ fld fs:=by
 obtain ⟨⟨dn,mv,ds,mn,fv,h1,h2⟩,h3,h4,h5,h6⟩:=h
 exact ⟨⟨dn,mv,ds,mn,fv,e.obj h1,h2.ext e⟩,h3.ext e,h4.ext e,h5,h6⟩
section
variable {w0:Wd} {cb md ms:Nat} {Zu ZH:List (BAr×Vl)} {at_ fld:Int} {fs:List Zv}
def YK (h:Chk w0 cb md ms Zu ZH at_ fld fs) (b:Bool) (c:Int) (hc:c≠0):Calls Pg 135 #[Qq5 cb,.bool b,.int .i64 c] w0 (Ql w0 at_ fld (Yw b c)):=by
 obtain ⟨⟨dn,mv,ds,mn,fv,h1,h2⟩,h3,h4,h5,h6⟩:=h
 refine ZlH ?_;unfold n87
 cases b with
 | true=>
  simp (disch:=try exact DI) only [↓PR,QR,simprocAttr,↓Ni]
  exact Xs (Ext.refl _) rfl
 | false=>
  simp (disch:=try exact DI) only [↓PR,QR,simprocAttr,↓Ni]
  refine ZB ?_
  simp (disch:=try exact DI) only [↓PR,QR,simprocAttr,↓Ni,(Za h1).1]
  rw [HT]
  exact Yi (Ext.refl _).drew rfl hc
def WW (h:Chk w0 cb md ms Zu ZH at_ fld fs) (i:Nat) (hi:fld=i) (Yo:i < fs.length):Ret Pg 195 #[Qq5 cb] w0 λ r w'=>YR w' r (fs.take i)∧Ext w0 w':=by
 obtain ⟨⟨dn,mv,ds,mn,fv,h1,h2⟩,h3,h4,h5,h6⟩:=h
 obtain ⟨A,c,rfl,hlc,hcm,hlm,Xj⟩:=Zd.open h2
 obtain ⟨x,hx⟩:=getElem?_lt Yo
 obtain ⟨b,o,_,rfl,_⟩:=Xj i x hx
 subst hi
 refine ZlC (R:=ZE _) ?_;unfold n82
 refine ZB ?_
 simp (disch:=try exact DI) only [↓PR,QR,simprocAttr,↓ZdQ,(Za h1).1]
 rw [Yc λ QP w' k=>Uf underlying72 Vq b o fs.length c .i64 i C1]
 refine Qqv ?_
 refine ⟨?_,ee⟩
 have YJ:(fs.take i).length=i:=by rw [List.length_take];omega
 refine ⟨_,c,by rw [YJ],by rw [YJ];omega,hcm,λ _=>⟨b,o,rfl,λ k y hy=>?_⟩⟩
 rw [List.getElem?_take] at hy
 split at hy
 · obtain ⟨b',o',cs,hA,hl,hA2,hE⟩:=Xj k y hy
   injection hA with hA
   injection hA with h5 h6
   subst h5 h6
   have e:Ext w0 (drew w0):=(Ext.refl w0).drew
   exact ⟨cs,hl,hA2.ext e,xq _ _ _ _ e hE⟩
 · cases hy
def qh (h:Chk w0 cb md ms Zu ZH at_ fld fs) (s:BAr):Calls Pg 228 #[Qq5 cb,.string s] w0 (Ql w0 at_ fld (Yw (Yy Zu s).isSome 8)):=by
 have h':=h
 obtain ⟨⟨dn,mv,ds,mn,fv,h1,h2⟩,h3,h4,h5,h6⟩:=h
 refine ZlJ ?_;unfold n89
 simp (disch:=try exact DI) only [↓PR,QR,simprocAttr,joinK_eq,(Za h1).1]
 rw [Uc underlying198 underlying9 ty3 h3]
 refine Qqv ?_
 refine ZS (YK h' _ 8 K7) (λ w' e h0=>?_) (λ w' e h0=>?_)
 · exact Xs e h0
 · exact Yi e rfl h0
def YC (high:Int):Int→List Int→Int
 | _,[]=>0
 | low,n::l=>orC (Yw (decide (low≤n)&&decide (n≤high)) 7) (YC high n l)
def VL (w:Wd) (v:Vl) (l:List Int):Prop:=Zd w 1 Zeh v l
def Dc {w:Wd} {p:Nat} (hp:p=w.heap.size) (a:Int) (T:TypeId):VL (w.alloc (.cells #[.int .i64 a] T)) (.slice (some ⟨p,0,none⟩) 1 1) [a]:=by
 subst hp;exact Zd.new1 (E:=Zeh) (λ n:Int => .int .i64 n) (λ _ _=>rfl) w [a] T (by simp)
def PU {w:Wd} {p:Nat} (hp:p=w.heap.size) (a b:Int) (T:TypeId):VL (w.alloc (.cells #[.int .i64 a,.int .i64 b] T)) (.slice (some ⟨p,0,none⟩) 2 2) [a,b]:=by
 subst hp;exact Zd.new1 (E:=Zeh) (λ n:Int => .int .i64 n) (λ _ _=>rfl) w [a,b] T (by simp)
def Qo (h:Chk w0 cb md ms Zu ZH at_ fld fs) (low high:Int) (v:Vl) (l:List Int) (hs:VL w0 v l):Calls Pg 215 #[Qq5 cb,.int .i64 low,.int .i64 high,v] w0 (Ql w0 at_ fld (YC high low l)):=by
 obtain ⟨A,c,rfl,hlc,hcm,hlm,Xj⟩:=Zd.open hs
 refine ZlL ?_;unfold n91
 refine Qqv ?_
 refine Xu (λ a0 a1 w=>∃ (k:Nat) (n:Int),a0 = .int .i64 n∧a1 = .int .i64 (k:Int)∧k≤l.length∧Ext w0 w∧YC high n (l.drop k)=YC high low l) (λ a0 a1 _=>l.length - (intOf a1).toNat) ⟨0,low,rfl,rfl,Nat.zero_le _,ee,rfl⟩ ?_
 rintro _ _ w ⟨k,n,rfl,rfl,hk,e,hI⟩
 have se:=e.size
 rcases ZY hk with ⟨x,hx,hd,Yo,ZT⟩ | ⟨hk,hd,ZT⟩
 · obtain ⟨b,o,cs,rfl,hl,hA,rfl⟩:=Xj k x hx
   rw [hd] at hI
   simp only [YC] at hI
   simp (disch:=try exact DI) only [↓PR,QR,simprocAttr,↓Nk,↓Nl,ZT,hA.c1]
   refine ZS (YK (h.ext e) _ 7 K7) (λ w' e1 h0=>?_) (λ w' e1 h0=>?_)
   · rw [h0,Xf] at hI
     simp (disch:=try exact DI) only [↓PR,QR,simprocAttr,↓Nk,↓Nl]
     exact ⟨⟨k+1,_,rfl,rfl,by omega,ee,hI⟩,Yh (kd := .i64) Yo⟩
   · rw [QB h0] at hI
     exact Yi (e.trans e1) hI.symm h0
 · subst hk
   simp (disch:=try exact DI) only [↓PR,QR,simprocAttr,↓Nk,↓Nl,ZT]
   rw [hd] at hI
   exact Xs e hI.symm
def UU (f:Zv):Bool:=decide (1≤f.bits)&&decide (f.bits≤32)&&(!f.little||(decide (8 < f.bits)&&(f.bits.tmod 8 == 0)))
def FL (h:Chk w0 cb md ms Zu ZH at_ fld fs) (v:Vl) (f:Zv) (hf:Z8 w0 v f):Calls Pg 214 #[Qq5 cb,v] w0 (Ql w0 at_ fld (Yw (UU f) 6)):=by
 obtain ⟨tv,cv,rfl,hT,hC,ht1,hc1⟩:=hf.op
 refine ZlD ?_;unfold n83
 simp (disch:=try exact DI) only [↓PR,QR,simprocAttr,↓SY,↓S1,↓S2,↓S3]
 have e0:Ext w0 (w0.alloc (Obj.cells (Zw f tv cv).toArray 123)):=ee
 have fin:∀ b,b=UU f→ZU Pg 135 #[Qq5 cb,.bool b,.int .i64 6] (Zc (Ql w0 at_ fld (Yw (UU f) 6))) (w0.alloc (Obj.cells (Zw f tv cv).toArray 123)) (λ _ w=>Ql w0 at_ fld (Yw (UU f) 6) (.returned (.tuple #[])) w):=by
  rintro b rfl
  exact ZS (YK (h.ext e0) _ 6 K7) (λ w' e1 h0=>Xs (e0.trans e1) h0) (λ w' e1 h0=>Yi (e0.trans e1) rfl h0)
 unfold UU at fin ⊢
 generalize decide (1≤f.bits)=b1 at fin ⊢
 generalize decide (f.bits≤32)=b2 at fin ⊢
 generalize f.little=b3 at fin ⊢
 generalize decide (8 < f.bits)=b4 at fin ⊢
 generalize (f.bits.tmod 8 == 0)=b5 at fin ⊢
 cases b1<;>cases b2<;>cases b3<;>cases b4<;>cases b5<;>simp (disch:=try exact DI) only [↓PR,QR,simprocAttr,↓SY,↓S1,↓S2,↓S3]<;>exact fin _ rfl
def V5 (rp:List (BAr×Int×Int)):List Xc→Int
 | []=>0
 | t::ts=>orC (Yw (Wx rp t.field).isSome 8) (V5 rp ts)
def ZfY (base:Int) (ts:List Xc) (rp:List (BAr×Int×Int)):Bool:=(WZ base ts rp == 0)&&decide (0≤Gg base ts rp)&&decide (Gf base ts rp≤1048576)
def UK (rp:List (BAr×Int×Int)) (f:Zv):Int:=orC (Yw (J2 f.base f.terms) 9) (orC (V5 rp f.terms) (Yw (ZfY f.base f.terms rp) 9))
def qn (h:Chk w0 cb md ms Zu ZH at_ fld fs) (i:Nat) (hi:fld=i) (Yo:i < fs.length) (v:Vl) (f:Zv) (hf:Z8 w0 v f) :
 Calls Pg 221 #[Qq5 cb,v] w0 (Ql w0 at_ fld (UK (X2 (fs.take i)) f)):=by
 obtain ⟨tv,cv,rfl,hT,hC,ht1,hc1⟩:=hf.op
 refine ZlK ?_;unfold n90
 simp (disch:=try exact DI) only [↓PR,QR,simprocAttr,↓JG,↓JH,↓JI,↓Ky,↓Kz,↓JJ,↓JK,↓JL]
 generalize hW:World.alloc (World.alloc w0 _) _=W
 have e0:Ext w0 W:=by rw [← hW];exact ee
 have o2:W.heap[w0.heap.size]?=some (.cells #[Qq5 cb] 167 (0,0)):=by rw [← hW];exact Qqf
 have o3:W.heap[w0.heap.size+1]?=some (.cells (Zw f tv cv).toArray 123 (0,0)):=by rw [← hW];exact Qqf
 clear hW
 simp only [World.size_alloc]
 refine ZB ?_
 simp (disch:=try exact DI) only [↓PR,QR,simprocAttr,↓JG,↓JH,↓JI,↓Ky,↓Kz,↓JJ,↓JK,↓JL,(Za o2).1,(Za o3).1]
 refine zcr (xg _ _ f.base f.terms ⟨tv,rfl,Z6.ext hT ee⟩) λ w1 e1=>?_
 refine ⟨e1,?_⟩
 unfold UK
 refine ZS (YK (h.ext (e0.wdrew.trans e1)) _ 9 K7) (λ w2 e2 h0=>?_) (λ w2 e2 h0=>?_)
 · rw [h0,Xf]
   refine ⟨e1.trans e2,?_⟩
   have e3:Ext W w2:=(Ext.refl W).wdrew.trans (e1.trans e2)
   have hv:J2 f.base f.terms=true:=by
    cases hb:J2 f.base f.terms with
    | true=>rfl
    | false=>rw [hb] at h0;exact absurd h0 K7
   have ht:f.terms.length≤1048576:=by
    have hs:=hv
    unfold J2 at hs
    simp only [Bool.and_eq_true,decide_eq_true_eq] at hs
    omega
   simp (disch:=try exact DI) only [↓PR,QR,simprocAttr,↓JG,↓JH,↓JI,↓Ky,↓Kz,↓JJ,↓JK,↓JL,(Za (e3.obj o2)).1]
   refine Zi (WW (h.ext (e0.trans e3)) i hi Yo) ?_
   rintro bv w4 ⟨hB,e4⟩
   simp (disch:=try exact DI) only [↓PR,QR,simprocAttr,↓JG,↓JH,↓JI,↓Ky,↓Kz,↓JJ,↓JK,↓JL]
   refine Zi (Kr _ _ _ hB) ?_
   rintro _ w5 ⟨m,rfl,hmlo,hM,e5⟩
   rw [Ut] at hM
   have e6:Ext W w5:=e3.trans (e4.trans e5)
   have l3:w0.heap.size+1 < w5.heap.size:=(Qqj (e6.obj o3)).1
   simp (disch:=try exact DI) only [↓PR,QR,simprocAttr,↓JG,↓JH,↓JI,↓Ky,↓Kz,↓JJ,↓JK,↓JL,(Za (e6.obj o3)).1]
   have e6':Ext w0 w5:=e0.trans e6
   refine Zi (CI _ _ f.base f.terms ⟨tv,rfl,Z6.ext hT ee⟩ ht) ?_
   rintro _ w7 ⟨pb,tv2,rfl,hTA,_,e7⟩
   rw [hv,if_pos rfl] at hTA
   have s7:=e7.size
   simp only [World.size_alloc] at s7
   have e8:Ext W w7:=ee
   have p4:w7.heap[w5.heap.size]?=some (.cells #[.map (some m)] 296 (0,0)):=by simp (disch:=try exact DI) only [↓PR,QR,simprocAttr,e7.heapQ]
   have hM7:Y6 w7 m (RP (X2 (fs.take i))):=hM.ext (((Ext.refl _).alloc _).trans e7)
   have h7:Chk w7 cb md ms Zu ZH at_ fld fs:=h.ext (e0.trans e8)
   have o2':=e8.obj o2
   have o3':=e8.obj o3
   have e07:Ext w0 w7:=e0.trans e8
   clear e7 e6 e5 e4 e3 e2 e1 hM hB hmlo s7 l3 o2 o3 e8 e6'
   unfold Kz
   have hLI:∀ k,ZQ w7.heap.size (λ w=>Ext w7 w∧V5 (X2 (fs.take i)) (f.terms.drop k)=V5 (X2 (fs.take i)) f.terms):=λ k=>ZQ.and (ZQ.from (Nat.le_refl _)) (ZQ.const _ _)
   refine ⟨_,_,f.terms.length,Km f.terms,λ w=>QD w pb tv2 f.terms,λ k w=>Ext w7 w∧V5 (X2 (fs.take i)) (f.terms.drop k)=V5 (X2 (fs.take i)) f.terms,λ _ _=>False,
    λ ch w=>Ext w7 w∧∃ c,c≠0∧ch=[XH at_ fld c]∧V5 (X2 (fs.take i)) f.terms=c,rfl,ZfJ,CJ pb tv2 f.terms,⟨Ext.refl _,rfl⟩,λ k w h=>hTA.ext h.1,hLI,λ _=>ZQ.const _ _,?_,?_,?_,?_⟩
   · intro rec j w3 hj hI3 hrec hready
     refine ⟨hready,λ w4 hbz=>?_⟩
     have hrec4:=hrec.busied hbz
     obtain ⟨e4,hF⟩:=(hLI j).busied hbz (Nat.le_succ _) hI3
     clear hI3 hrec hready hbz
     obtain ⟨t,hx⟩:=getElem?_lt hj
     rw [show Km f.terms j = .string t.field by unfold Km;rw [hx]]
     have hd:f.terms.drop j=t::f.terms.drop (j+1):=by
      rw [List.drop_eq_getElem_cons hj]
      congr 1
      exact (Qqx hx).2
     rw [hd] at hF
     simp only [V5] at hF
     have o2:=e4.obj o2'
     have l2:w0.heap.size < w4.heap.size:=(Qqj o2).1
     simp (disch:=try exact DI) only [↓PR,QR,simprocAttr,↓JG,↓JH,↓JI,↓Ky,↓Kz,↓JJ,↓JK,↓JL,(Za (e4.obj p4)).1]
     rw [Uc underlying296 underlying9 UC (hM7.ext e4),VJ]
     have fin:∀ w5 b,Ext w4 w5→b=(Wx (X2 (fs.take i)) t.field).isSome→ZU Pg 135 #[Qq5 cb,.bool b,.int .i64 8] (λ ch w''=>Xk rec w7.heap.size w''∧Ext w7 w''∧∃ c,c≠0∧ch=[XH at_ fld c]∧V5 (X2 (fs.take i)) f.terms=c) w5 (λ _ w''=>Xk rec w7.heap.size w''∧Ext w7 w''∧V5 (X2 (fs.take i)) (f.terms.drop (j+1))=V5 (X2 (fs.take i)) f.terms):=by
      rintro w5 b e5 rfl
      refine ZS (YK (h7.ext (e4.trans e5)) _ 8 K7) (λ w6 e6 h0=>?_) (λ w6 e6 h0=>?_)
      · rw [h0,Xf] at hF
        exact ⟨hrec4.ext (e5.trans e6),e4.trans (e5.trans e6),hF⟩
      · rw [QB h0] at hF
        exact ⟨hrec4.ext (e5.trans e6),e4.trans (e5.trans e6),_,h0,rfl,hF.symm⟩
     cases hl:Wx (X2 (fs.take i)) t.field with
     | none=>
      rw [hl] at fin
      simp (disch:=try exact DI) only [↓PR,QR,simprocAttr,↓JG,↓JH,↓JI,↓Ky,↓Kz,↓JJ,↓JK,↓JL,(Za o2).1,Option.map_none]
      exact fin _ _ ee rfl
     | some q=>
      obtain ⟨lo,hi⟩:=q
      rw [hl] at fin
      simp (disch:=try exact DI) only [↓PR,QR,simprocAttr,↓JG,↓JH,↓JI,↓Ky,↓Kz,↓JJ,↓JK,↓JL,(Za o2).1,YB]
      exact fin _ _ ee rfl
   · rintro w3 ⟨e3,hF⟩ hmk
     rw [List.drop_length] at hF
     have l7:w7.heap.size < w3.heap.size:=(Qqj hmk).1
     rw [← hF]
     show Ky _ _ _ _ (Ql w0 at_ fld (orC 0 _)) w3
     rw [Xf]
     simp (disch:=try exact DI) only [↓PR,QR,simprocAttr,↓JG,↓JH,↓JI,↓Ky,↓Kz,↓JJ,↓JK,↓JL,(Za (e3.obj o3')).1,(Za (e3.obj p4)).1]
     refine zcr (DX _ _ f.base f.terms m _ ⟨tv,rfl,Z6.ext hT (e07.trans e3)⟩ ht (hM7.ext e3)) λ w4 e4=>?_
     have s4:=e4.size
     have o2:=(e3.trans e4).obj o2'
     have l2:w0.heap.size < w4.heap.size:=(Qqj o2).1
     simp (disch:=try exact DI) only [↓PR,QR,simprocAttr,↓JG,↓JH,↓JI,↓Ky,↓Kz,↓JJ,↓JK,↓JL,(Za o2).1,YB]
     have e5:Ext w3 (w4.alloc (Obj.cells #[.int .i64 (Gg f.base f.terms (X2 (fs.take i))),.int .i64 (Gf f.base f.terms (X2 (fs.take i)))] 300)):=e4.alloc _
     have s07:=e07.size
     refine ZS (YK (h7.ext (e3.trans e5)) (ZfY f.base f.terms (X2 (fs.take i))) 9 K7) (λ w6 e6 h0=>?_) (λ w6 e6 h0=>?_)
     · refine WA (hmk.ext (e5.trans e6)) ?_
       rw [WM]
       exact Xs (((e07.trans e3).trans (e5.trans e6)).putObj C1 _) h0
     · refine qe (hmk.ext (e5.trans e6)) ?_
       rw [Ug]
       exact Yi (((e07.trans e3).trans (e5.trans e6)).putObj C1 _) rfl h0
   · rintro c w3 h
     exact h.elim
   · rintro ch w3 ⟨e3,c,hc,rfl,hF⟩ hmk
     have l7:w7.heap.size < w3.heap.size:=(Qqj hmk).1
     rw [hF,QB hc]
     refine qe hmk ?_
     rw [Ug]
     exact Yi (by have:=e07.size;exact ee) rfl hc
 · rw [QB h0]
   exact Yi (e0.wdrew.trans (e1.trans e2)) rfl h0
end
def U9 (w0:Wd) (v:Vl) (l:List Zv) (g:FuncId) (caps:AVl) (p:Zv→Bool) (hs:YR w0 v l) (hg:Callable Pg g) (hc:US w0 Z8 g caps p l) :
 Ret Pg 250 #[v,.func (.func g) #[] caps] w0 λ r w'=>r = .bool (l.any p)∧Ext w0 w':=by
 refine Zhm (R:=ZE _) ?_;unfold Zhl
 refine Zi (VA _ _ l g caps p hs hg hc) ?_
 rintro r w' ⟨rfl,e⟩
 refine Qqw ?_
 exact ⟨by rw [VG],e⟩
def Fu (tag:BAr) (o:Zv):Bool:=o.kind == 9&&decide (o.tag=tag)
def FN (w0:Wd) (v:Vl) (o f:Zv) (pb:Nat) (tv cv:Vl) (hv:Z8 w0 v o) (hp:w0.heap[pb]?=some (.cells (Zw f tv cv).toArray 123 (0,0))) :
 Ret Pg 251 #[v,Qq5 pb] w0 λ r w'=>r = .bool (Fu f.tag o)∧Ext w0 w':=by
 obtain ⟨tv',cv',rfl,hT,hC,ht1,hc1⟩:=hv.op
 have Yo:=(Qqj hp).1
 refine ZlF (R:=ZE _) ?_;unfold n85
 simp (disch:=try exact DI) only [↓PR,QR,simprocAttr,joinK_eq,(Za hp).1]
 exact ⟨by first | trivial | rfl,ee⟩
def xm (hi:Int) (Zu:List (BAr×Vl)):Int→List qv→Int
 | _,[]=>0
 | low,x::xs=>orC (YC hi low [x.low,x.high]) (orC (Yw (Yy Zu x.of).isSome 8) (xm hi Zu (IntKind.i64.wrap (x.high+1)) xs))
def UD (bef:List Zv) (Zu:List (BAr×Vl)) (f:Zv):Int:=
 orC (Yw ((Wx (X2 bef) f.tag).isSome&&!bef.any (Fu f.tag)) 8) (orC (Yw (decide (1≤(f.cases.length:Int))&&decide ((f.cases.length:Int)≤40)) 3) (xm (((Wx (X2 bef) f.tag).getD (0,0)).2) Zu (((Wx (X2 bef) f.tag).getD (0,0)).1) f.cases))
section
variable {w0:Wd} {cb md ms:Nat} {Zu ZH:List (BAr×Vl)} {at_ fld:Int} {fs:List Zv}
def ID {a0:Wd} (e00:Ext a0 w0) (h:Chk w0 cb md ms Zu ZH at_ fld fs) (pf p4:Nat) (f:Zv) (tv cv:Vl) (lo hi:Int) (hC:Yu w0 cv f.cases) (o3:w0.heap[pf]?=some (.cells (Zw f tv cv).toArray 123 (0,0))) (o4:w0.heap[p4]?=some (.cells #[.int .i64 lo,.int .i64 hi] 300 (0,0))) :
 Bp (Qq5 cb) (Qq5 pf) (Qq5 p4) (Ql a0 at_ fld (xm hi Zu lo f.cases)) w0:=by
 obtain ⟨A,c,rfl,hlc,hcm,hlm,Xj⟩:=Zd.open hC
 simp (disch:=try exact DI) only [↓PR,QR,simprocAttr,↓DA,↓DB,↓DC,↓Bp,↓Bq,↓Br,↓JF,↓Bs,↓yI,↓zu,↓xY,↓zv,↓zw,(Za o3).1,(Za o4).1]
 refine Xu (λ a0 a1 w=>∃ (k:Nat) (n:Int),a0 = .int .i64 n∧a1 = .int .i64 (k:Int)∧k≤f.cases.length∧Ext w0 w∧xm hi Zu n (f.cases.drop k)=xm hi Zu lo f.cases) (λ a0 a1 _=>f.cases.length - (intOf a1).toNat) ⟨0,lo,rfl,rfl,Nat.zero_le _,ee,rfl⟩ ?_
 rintro _ _ w ⟨k,n,rfl,rfl,hk,e,hI⟩
 have se:=e.size
 rcases ZY hk with ⟨x,hx,hd,Yo,ZT⟩ | ⟨hk,hd,ZT⟩
 · obtain ⟨b,o,cs,rfl,hl,hA,rfl⟩:=Xj k x hx
   have l4:p4 < w.heap.size:=(Qqj (e.obj o4)).1
   rw [hd] at hI
   simp only [xm] at hI
   simp (disch:=try exact DI) only [↓PR,QR,simprocAttr,↓DA,↓DB,↓DC,↓Bp,↓Bq,↓Br,↓JF,↓Bs,↓yI,↓zu,↓xY,↓zv,↓zw,ZT,hA.c3,(Za (e.obj o4)).1]
   generalize hW:World.alloc (World.alloc w _) _=W
   have eW:Ext w W:=by rw [← hW];exact ee
   have o9:W.heap[w.heap.size]?=some (.cells #[.int .i64 x.low,.int .i64 x.high,.string x.of] 213 (0,0)):=by rw [← hW];exact Qqf
   have hIn:VL W (.slice (some ⟨w.heap.size+1,0,none⟩) 2 2) [x.low,x.high]:=by rw [← hW];exact PU (by simp only [World.size_alloc]) _ _ _
   clear hW
   refine ZS (Qo (h.ext (e.trans eW)) n hi _ _ hIn) (λ w1 e1 h0=>?_) (λ w1 e1 h0=>?_)
   · rw [h0,Xf] at hI
     have er1:=eW.trans e1
     simp (disch:=try exact DI) only [↓PR,QR,simprocAttr,↓DA,↓DB,↓DC,↓Bp,↓Bq,↓Br,↓JF,↓Bs,↓yI,↓zu,↓xY,↓zv,↓zw,(Za (e1.obj o9)).1]
     refine ZS (qh (h.ext (e.trans er1)) x.of) (λ w2 e2 h0=>?_) (λ w2 e2 h0=>?_)
     · rw [h0,Xf] at hI
       simp (disch:=try exact DI) only [↓PR,QR,simprocAttr,↓DA,↓DB,↓DC,↓Bp,↓Bq,↓Br,↓JF,↓Bs,↓yI,↓zu,↓xY,↓zv,↓zw,(Za ((e1.trans e2).obj o9)).1]
       exact ⟨⟨k+1,_,rfl,rfl,by omega,ee,hI⟩,Yh (kd := .i64) Yo⟩
     · rw [QB h0] at hI
       exact Yi (e00.trans (e.trans (er1.trans e2))) hI.symm h0
   · rw [QB h0] at hI
     exact Yi (e00.trans (e.trans (eW.trans e1))) hI.symm h0
 · subst hk
   simp (disch:=try exact DI) only [↓PR,QR,simprocAttr,↓DA,↓DB,↓DC,↓Bp,↓Bq,↓Br,↓JF,↓Bs,↓yI,↓zu,↓xY,↓zv,↓zw,ZT]
   rw [hd] at hI
   exact Xs (e00.trans e) hI.symm
def NV {a0:Wd} (e00:Ext a0 w0) (h:Chk w0 cb md ms Zu ZH at_ fld fs) (i:Nat) (hi:fld=i) (Yo:i < fs.length) (pf p4:Nat) (f:Zv) (tv cv:Vl) (lo hi':Int) (b:Bool) (hC:Yu w0 cv f.cases) (o3:w0.heap[pf]?=some (.cells (Zw f tv cv).toArray 123 (0,0))) (o4:w0.heap[p4]?=some (.cells #[.int .i64 lo,.int .i64 hi'] 300 (0,0)))
 (hb:b=(Wx (X2 (fs.take i)) f.tag).isSome) (hlo:b=true→lo=((Wx (X2 (fs.take i)) f.tag).getD (0,0)).1∧hi'=((Wx (X2 (fs.take i)) f.tag).getD (0,0)).2) :
 JF (Qq5 cb) (Qq5 pf) (Qq5 p4) (.bool b) (Ql a0 at_ fld (UD (fs.take i) Zu f)) w0:=by
 unfold JF
 refine Zi (WW h i hi Yo) ?_
 rintro bv w1 ⟨hB,e1⟩
 refine Qqv ?_
 refine Zi (U9 _ _ _ _ _ (Fu f.tag) hB Zkh ?_) ?_
 · intro w v o _ e hv
   exact FN w v o f pf tv cv hv ((e1.trans e).obj o3)
 rintro _ w2 ⟨rfl,e2⟩
 have e12:=e1.trans e2
 simp (disch:=try exact DI) only [↓PR,QR,simprocAttr,↓Br]
 unfold UD
 refine ZS (YK (h.ext e12) _ 8 K7) (λ w3 e3 h0=>?_) (λ w3 e3 h0=>?_)
 · rw [← hb,h0,Xf]
   have hbt:b=true:=by
    cases b with
    | true=>rfl
    | false=>exact absurd h0 (by simp [Yw])
   obtain ⟨h1,h2⟩:=hlo hbt
   rw [← h1,← h2]
   have e13:=e12.trans e3
   obtain ⟨A,c,rfl,_⟩:=Zd.open hC
   simp (disch:=try exact DI) only [↓PR,QR,simprocAttr,↓Bq,(Za (e13.obj o3)).1]
   refine ZS (YK (h.ext e13) _ 3 K7) (λ w4 e4 h0=>?_) (λ w4 e4 h0=>?_)
   · rw [h0,Xf]
     have e14:=e13.trans e4
     exact ID (e00.trans e14) (h.ext e14) pf p4 f tv _ lo hi' (Yu.ext hC e14) (e14.obj o3) (e14.obj o4)
   · rw [QB h0]
     exact Yi (e00.trans (e13.trans e4)) rfl h0
 · rw [← hb,QB h0]
   exact Yi (e00.trans (e12.trans e3)) rfl h0
def NU (h:Chk w0 cb md ms Zu ZH at_ fld fs) (i:Nat) (hi:fld=i) (Yo:i < fs.length) (v:Vl) (f:Zv) (hf:Z8 w0 v f):Calls Pg 232 #[Qq5 cb,v] w0 (Ql w0 at_ fld (UD (fs.take i) Zu f)):=by
 obtain ⟨tv,cv,rfl,hT,hC,ht1,hc1⟩:=hf.op
 refine ZlE ?_;unfold n84
 refine Qqv ?_
 generalize hW:World.alloc w0 _=W
 have e0:Ext w0 W:=by rw [← hW];exact ee
 have o3:W.heap[w0.heap.size]?=some (.cells (Zw f tv cv).toArray 123 (0,0)):=by rw [← hW];exact Qqf
 clear hW
 refine ZB ?_
 simp (disch:=try exact DI) only [↓PR,QR,simprocAttr,↓zw,(Za o3).1]
 have key:∀ w' p4 b lo hi',Ext W w'→w'.heap[p4]?=some (.cells #[.int .i64 lo,.int .i64 hi'] 300 (0,0))→b=(Wx (X2 (fs.take i)) f.tag).isSome→(b=true→lo=((Wx (X2 (fs.take i)) f.tag).getD (0,0)).1∧hi'=((Wx (X2 (fs.take i)) f.tag).getD (0,0)).2) →
  JF (Qq5 cb) (Qq5 w0.heap.size) (Qq5 p4) (.bool b) (Ql w0 at_ fld (UD (fs.take i) Zu f)) w':=by
  intro w' p4 b lo hi' e o4 hb hlo
  exact NV (e0.trans e) (h.ext (e0.trans e)) i hi Yo _ p4 f tv cv lo hi' b (Yu.ext hC (e0.trans e)) (e.obj o3) o4 hb hlo
 have eD:Ext W W.drew:=(Ext.refl W).wdrew
 have fin9:∀ (w2:Wd) (m p4:Nat) (u0 u1:Vl),Ext W.drew w2→Y6 w2 m (RP (X2 (fs.take i)))→w2.heap[p4]?=some (.cells #[u0,u1] 300 (0,0))→W.heap.size≤p4 →
  yI (Qq5 p4) (.map (some m)) (.string f.tag) (KL W.drew m (RP (X2 (fs.take i)))) (λ t4 t5 w=>JF (Qq5 cb) (Qq5 w0.heap.size) t4 t5 (Ql w0 at_ fld (UD (fs.take i) Zu f)) w) (Ql w0 at_ fld (UD (fs.take i) Zu f)) w2:=by
  intro w2 m p4 u0 u1 e2 hM o4 hp4
  haveI:Yk (KL W.drew m (RP (X2 (fs.take i)))):=⟨⟨w2,e2,hM⟩⟩
  unfold yI
  rw [JS underlying296 underlying9 UC ⟨w2,e2,hM⟩,VJ]
  have hfin:∀ lo hi' b,b=(Wx (X2 (fs.take i)) f.tag).isSome→(b=true→lo=((Wx (X2 (fs.take i)) f.tag).getD (0,0)).1∧hi'=((Wx (X2 (fs.take i)) f.tag).getD (0,0)).2) →
   KL W.drew m (RP (X2 (fs.take i))) ((w2.setCell ⟨p4,0,none⟩ (.int .i64 lo)).setCell ⟨p4,1,none⟩ (.int .i64 hi'))∧JF (Qq5 cb) (Qq5 w0.heap.size) (Qq5 p4) (.bool b) (Ql w0 at_ fld (UD (fs.take i) Zu f)) ((w2.setCell ⟨p4,0,none⟩ (.int .i64 lo)).setCell ⟨p4,1,none⟩ (.int .i64 hi')):=by
   intro lo hi' b hb hlo
   have e3:Ext W.drew ((w2.setCell ⟨p4,0,none⟩ (.int .i64 lo)).setCell ⟨p4,1,none⟩ (.int .i64 hi')):=(e2.setCell (show W.drew.heap.size≤(⟨p4,0,none⟩:Addr).block from hp4) _).setCell (show W.drew.heap.size≤(⟨p4,1,none⟩:Addr).block from hp4) _
   refine ⟨⟨e3,(hM.setCell _ _).setCell _ _⟩,key _ p4 b lo hi' (eD.trans e3) ?_ hb hlo⟩
   have:=Zy (o:=1) (Zy (o:=0) o4 (.int .i64 lo)) (.int .i64 hi')
   simpa using this
  cases hl:Wx (X2 (fs.take i)) f.tag with
  | none=>
   rw [hl] at hfin
   simp (disch:=try exact DI) only [↓PR,QR,simprocAttr,Option.map_none,(Za o4).1,(Za o4).2]
   exact hfin 0 0 false rfl (by simp)
  | some q=>
   obtain ⟨lo,hi'⟩:=q
   rw [hl] at hfin
   simp (disch:=try exact DI) only [↓PR,QR,simprocAttr,(Za o4).1,(Za o4).2,YB]
   exact hfin lo hi' true rfl (λ _=>⟨rfl,rfl⟩)
 refine ⟨?_,?_⟩
 · refine Zi (WW (h.ext (e0.trans eD)) i hi Yo) ?_
   rintro bv w1 ⟨hB,e1⟩
   refine yK e1 ?_
   unfold zu
   refine ⟨?_,?_⟩
   · refine Zi (Kr _ _ _ hB) ?_
     rintro _ w2 ⟨m,rfl,_,hM,e2⟩
     rw [Ut] at hM
     refine zx (e1.trans e2) hM ?_
     unfold Bs
     simp only [Ke]
     haveI:Yk (KL W.drew m (RP (X2 (fs.take i)))):=⟨⟨w2,e1.trans e2,hM⟩⟩
     rw [JS underlying296 underlying9 UC ⟨w2,e1.trans e2,hM⟩]
     have h9:=fin9 (w2.alloc (.cells #[.int .i64 0,.int .i64 0] 300)) m w2.heap.size _ _ ((e1.trans e2).alloc _) (hM.ext ((Ext.refl _).alloc _)) (Zt _ _ _) (by have:=(e1.trans e2).size;simpa using this)
     unfold yI at h9
     rw [JS underlying296 underlying9 UC ⟨w2,e1.trans e2,hM⟩] at h9
     refine Qqv ?_
     refine ⟨⟨(e1.trans e2).alloc _,hM.ext ((Ext.refl _).alloc _)⟩,?_⟩
     simp only [↓Sw.GENQ] at h9
     exact h9
   · refine Qqv ?_
     refine ⟨e1.alloc _,?_⟩
     refine Zi (Kr _ _ _ (YR.ext hB ((Ext.refl _).alloc _))) ?_
     rintro _ w2 ⟨m,rfl,_,hM,e2⟩
     rw [Ut] at hM
     have s1:=e1.size
     simp only [World.size_drew] at s1
     refine zx ((e1.alloc _).trans e2) hM ?_
     exact fin9 w2 m w1.heap.size _ _ ((e1.alloc _).trans e2) hM (e2.obj (Zt _ _ _)) s1
 · refine ⟨(Ext.refl _).alloc _,?_⟩
   unfold zv
   refine Zi (WW (h.ext ((e0.trans eD).alloc _)) i hi Yo) ?_
   rintro bv w1 ⟨hB,e1⟩
   refine yK (((Ext.refl _).alloc _).trans e1) ?_
   refine Zi (Kr _ _ _ hB) ?_
   rintro _ w2 ⟨m,rfl,_,hM,e2⟩
   rw [Ut] at hM
   refine zx (((Ext.refl _).alloc _).trans (e1.trans e2)) hM ?_
   exact fin9 w2 m W.heap.size _ _ (((Ext.refl _).alloc _).trans (e1.trans e2)) hM ((e1.trans e2).obj (Zt W.drew _ _)) (Nat.le_refl _)
end
section
variable {w0:Wd} {cb md ms:Nat} {Zu ZH:List (BAr×Vl)} {at_ fld:Int} {fs:List Zv}
def CB (f:Zv):Int:=2 ^ f.bits.toNat - 1
def Il {f:Zv} (h:UU f=true):0≤f.bits∧f.bits≤64∧IntKind.i64.wrap (IntKind.i64.wrap (1*2 ^ f.bits.toNat) - 1)=CB f:=by
 unfold UU at h
 simp only [Bool.and_eq_true,decide_eq_true_eq] at h
 obtain ⟨⟨h1,h2⟩,_⟩:=h
 have hc:(2:Int) ^ f.bits.toNat=((2 ^ f.bits.toNat:Nat):Int):=by simp
 have hp1:2 ^ f.bits.toNat≤2 ^ 32:=Nat.pow_le_pow_right K7 C1
 have hp:(2:Int) ^ f.bits.toNat≤4294967296:=by rw [hc];omega
 have hp0:(0:Int) < 2 ^ f.bits.toNat:=Int.pow_pos K7
 refine ⟨by omega,by omega,?_⟩
 unfold CB
 rw [Int.one_mul,show IntKind.i64.wrap (2 ^ f.bits.toNat)=2 ^ f.bits.toNat from Z0 C1 C1,Z0 C1 C1]
def Qn {b:Bool} {c:Int} (hc:c≠0) (h:Yw b c=0):b=true:=by
 cases b with
 | true=>rfl
 | false=>exact absurd h hc
def Zaf (h:Chk w0 cb md ms Zu ZH at_ fld fs) (v:Vl) (f:Zv) (hf:Z8 w0 v f):Calls Pg 213 #[Qq5 cb,v] w0 (Ql w0 at_ fld (orC (Yw (UU f) 6) (YC (CB f) 0 [f.low,f.high]))):=by
 obtain ⟨tv,cv,rfl,hT,hC,ht1,hc1⟩:=hf.op
 refine Zgg ?_;unfold Zgf
 refine Qqv ?_
 generalize hW:World.alloc w0 _=W
 have e0:Ext w0 W:=by rw [← hW];exact ee
 have o3:W.heap[w0.heap.size]?=some (.cells (Zw f tv cv).toArray 123 (0,0)):=by rw [← hW];exact Qqf
 clear hW
 refine Qqh (Za o3).1 ?_
 refine ZS (FL (h.ext e0) _ f ⟨tv,cv,rfl,Z6.ext hT e0,Yu.ext hC e0⟩) (λ w1 e1 h0=>?_) (λ w1 e1 h0=>?_)
 · rw [h0,Xf]
   obtain ⟨ha,hb,hw⟩:=Il (Qn K7 h0)
   have e01:=e0.trans e1
   have l1:w0.heap.size < w1.heap.size:=(Qqj (e1.obj o3)).1
   refine ZB ?_
   simp (disch:=try exact DI) only [↓PR,QR,simprocAttr,↓Rd,(Za (e1.obj o3)).1,hw]
   generalize hW:World.alloc (World.drew w1) _=W2
   have eD:Ext w1.drew W2:=by rw [← hW];exact ee
   have hIn:VL W2 (.slice (some ⟨w1.heap.size,0,none⟩) 2 2) [f.low,f.high]:=by rw [← hW];exact PU rfl _ _ _
   clear hW
   have eE:Ext w0 W2:=(e01.wdrew).trans eD
   refine ⟨eD,?_⟩
   refine ZS (Qo (h.ext eE) 0 (CB f) _ _ hIn) (λ w2 e2 h0=>?_) (λ w2 e2 h0=>?_)
   · exact ⟨eD.trans e2,Xs (eE.trans e2) h0⟩
   · exact Yi (eE.trans e2) rfl h0
 · rw [QB h0]
   exact Yi (e0.trans e1) rfl h0
def N2 (h:Chk w0 cb md ms Zu ZH at_ fld fs) (v:Vl) (f:Zv) (hf:Z8 w0 v f):Calls Pg 217 #[Qq5 cb,v] w0 (Ql w0 at_ fld (orC (Yw (UU f) 6) (YC (CB f) 0 [f.low]))):=by
 obtain ⟨tv,cv,rfl,hT,hC,ht1,hc1⟩:=hf.op
 refine Zgq ?_;unfold Zgp
 refine Qqv ?_
 generalize hW:World.alloc w0 _=W
 have e0:Ext w0 W:=by rw [← hW];exact ee
 have o3:W.heap[w0.heap.size]?=some (.cells (Zw f tv cv).toArray 123 (0,0)):=by rw [← hW];exact Qqf
 clear hW
 refine Qqh (Za o3).1 ?_
 refine ZS (FL (h.ext e0) _ f ⟨tv,cv,rfl,Z6.ext hT e0,Yu.ext hC e0⟩) (λ w1 e1 h0=>?_) (λ w1 e1 h0=>?_)
 · rw [h0,Xf]
   obtain ⟨ha,hb,hw⟩:=Il (Qn K7 h0)
   have e01:=e0.trans e1
   have l1:w0.heap.size < w1.heap.size:=(Qqj (e1.obj o3)).1
   refine ZB ?_
   simp (disch:=try exact DI) only [↓PR,QR,simprocAttr,↓Rf,(Za (e1.obj o3)).1,hw]
   generalize hW:World.alloc (World.drew w1) _=W2
   have eD:Ext w1.drew W2:=by rw [← hW];exact ee
   have hIn:VL W2 (.slice (some ⟨w1.heap.size,0,none⟩) 1 1) [f.low]:=by rw [← hW];exact Dc rfl _ _
   clear hW
   have eE:Ext w0 W2:=(e01.wdrew).trans eD
   refine ⟨eD,?_⟩
   refine ZS (Qo (h.ext eE) 0 (CB f) _ _ hIn) (λ w2 e2 h0=>?_) (λ w2 e2 h0=>?_)
   · exact ⟨eD.trans e2,Xs (eE.trans e2) h0⟩
   · exact Yi (eE.trans e2) rfl h0
 · rw [QB h0]
   exact Yi (e0.trans e1) rfl h0
def ML (h:Chk w0 cb md ms Zu ZH at_ fld fs) (v:Vl) (f:Zv) (hf:Z8 w0 v f):Calls Pg 219 #[Qq5 cb,v] w0 (Ql w0 at_ fld (YC 34359738367 0 [f.low,f.high])):=by
 obtain ⟨tv,cv,rfl,hT,hC,ht1,hc1⟩:=hf.op
 refine Zgu ?_;unfold Zgt
 refine Qqv ?_
 generalize hW:World.alloc (World.alloc w0 _) _=W
 have e0:Ext w0 W:=by rw [← hW];exact ee
 have o3:W.heap[w0.heap.size]?=some (.cells (Zw f tv cv).toArray 123 (0,0)):=by rw [← hW];exact Qqf
 have hIn:VL W (.slice (some ⟨w0.heap.size+1,0,none⟩) 2 2) [f.low,f.high]:=by rw [← hW];exact PU (by simp only [World.size_alloc]) _ _ _
 clear hW
 refine ZS (Qo (h.ext e0) 0 34359738367 _ _ hIn) (λ w1 e1 h0=>?_) (λ w1 e1 h0=>?_)
 · exact Xs (e0.trans e1) h0
 · exact Yi (e0.trans e1) rfl h0
def F5 (h:Chk w0 cb md ms Zu ZH at_ fld fs) (v:Vl) (f:Zv) (hf:Z8 w0 v f):Calls Pg 225 #[Qq5 cb,v] w0 (Ql w0 at_ fld (YC 1048576 2 [f.high])):=by
 obtain ⟨tv,cv,rfl,hT,hC,ht1,hc1⟩:=hf.op
 refine ZlS ?_;unfold n99
 refine Qqv ?_
 generalize hW:World.alloc (World.alloc w0 _) _=W
 have e0:Ext w0 W:=by rw [← hW];exact ee
 have o3:W.heap[w0.heap.size]?=some (.cells (Zw f tv cv).toArray 123 (0,0)):=by rw [← hW];exact Qqf
 have hIn:VL W (.slice (some ⟨w0.heap.size+1,0,none⟩) 1 1) [f.high]:=by rw [← hW];exact Dc (by simp only [World.size_alloc]) _ _
 clear hW
 refine ZS (Qo (h.ext e0) 2 1048576 _ _ hIn) (λ w1 e1 h0=>?_) (λ w1 e1 h0=>?_)
 · exact Xs (e0.trans e1) h0
 · exact Yi (e0.trans e1) rfl h0
def O5 (h:Chk w0 cb md ms Zu ZH at_ fld fs) (v:Vl) (f:Zv) (hf:Z8 w0 v f):Calls Pg 223 #[Qq5 cb,v] w0 (Ql w0 at_ fld (orC (YC 255 0 [f.low]) (YC 1048576 0 [f.high]))):=by
 obtain ⟨tv,cv,rfl,hT,hC,ht1,hc1⟩:=hf.op
 refine ZgA ?_;unfold Zgz
 refine Qqv ?_
 generalize hW:World.alloc (World.alloc w0 _) _=W
 have e0:Ext w0 W:=by rw [← hW];exact ee
 have o3:W.heap[w0.heap.size]?=some (.cells (Zw f tv cv).toArray 123 (0,0)):=by rw [← hW];exact Qqf
 have hIn:VL W (.slice (some ⟨w0.heap.size+1,0,none⟩) 1 1) [f.low]:=by rw [← hW];exact Dc (by simp only [World.size_alloc]) _ _
 clear hW
 refine ZS (Qo (h.ext e0) 0 255 _ _ hIn) (λ w1 e1 h0=>?_) (λ w1 e1 h0=>?_)
 · rw [h0,Xf]
   have e01:=e0.trans e1
   simp (disch:=try exact DI) only [↓PR,QR,simprocAttr,↓Rg,(Za (e1.obj o3)).1]
   refine ZS (Qo ((h.ext e01).ext ((Ext.refl _).alloc _)) 0 1048576 _ _ (Dc rfl _ _)) (λ w2 e2 h0=>?_) (λ w2 e2 h0=>?_)
   · exact Xs ((e01.alloc _).trans e2) h0
   · exact Yi ((e01.alloc _).trans e2) rfl h0
 · rw [QB h0]
   exact Yi (e0.trans e1) rfl h0
def Hm (h:Chk w0 cb md ms Zu ZH at_ fld fs) (v:Vl) (f:Zv) (hf:Z8 w0 v f):Calls Pg 230 #[Qq5 cb,v] w0 (Ql w0 at_ fld (Yw (Yy Zu f.of).isSome 8)):=by
 obtain ⟨tv,cv,rfl,hT,hC,ht1,hc1⟩:=hf.op
 refine Zf6 ?_;unfold Zf5
 refine Qqv ?_
 generalize hW:World.alloc w0 _=W
 have e0:Ext w0 W:=by rw [← hW];exact ee
 have o3:W.heap[w0.heap.size]?=some (.cells (Zw f tv cv).toArray 123 (0,0)):=by rw [← hW];exact Qqf
 clear hW
 refine Qqh (Za o3).1 ?_
 refine ZS (qh (h.ext e0) f.of) (λ w1 e1 h0=>?_) (λ w1 e1 h0=>?_)
 · exact Xs (e0.trans e1) h0
 · exact Yi (e0.trans e1) rfl h0
def P5 (h:Chk w0 cb md ms Zu ZH at_ fld fs) (i:Nat) (hi:fld=i) (Yo:i < fs.length) (v:Vl) (f:Zv) (hf:Z8 w0 v f):Calls Pg 227 #[Qq5 cb,v] w0 (Ql w0 at_ fld (orC (Yw (Yy Zu f.of).isSome 8) (UK (X2 (fs.take i)) f))):=by
 obtain ⟨tv,cv,rfl,hT,hC,ht1,hc1⟩:=hf.op
 refine Zf2 ?_;unfold Zf1
 refine Qqv ?_
 generalize hW:World.alloc w0 _=W
 have e0:Ext w0 W:=by rw [← hW];exact ee
 have o3:W.heap[w0.heap.size]?=some (.cells (Zw f tv cv).toArray 123 (0,0)):=by rw [← hW];exact Qqf
 clear hW
 refine Qqh (Za o3).1 ?_
 refine ZS (qh (h.ext e0) f.of) (λ w1 e1 h0=>?_) (λ w1 e1 h0=>?_)
 · rw [h0,Xf]
   have e01:=e0.trans e1
   refine Qqh (Za (e1.obj o3)).1 ?_
   refine ZS (qn (h.ext e01) i hi Yo _ f ⟨tv,cv,rfl,Z6.ext hT e01,Yu.ext hC e01⟩) (λ w2 e2 h0=>?_) (λ w2 e2 h0=>?_)
   · exact Xs (e01.trans e2) h0
   · exact Yi (e01.trans e2) rfl h0
 · rw [QB h0]
   exact Yi (e0.trans e1) rfl h0
def Zah (h:Chk w0 cb md ms Zu ZH at_ fld fs) (i:Nat) (hi:fld=i) (Yo:i < fs.length) (v:Vl) (f:Zv) (hf:Z8 w0 v f):Calls Pg 238 #[Qq5 cb,v] w0 (Ql w0 at_ fld (orC (YC 4294967295 0 [f.key]) (orC (Yw (T7 ZH f.of) 8) (UK (X2 (fs.take i)) f)))):=by
 obtain ⟨tv,cv,rfl,hT,hC,ht1,hc1⟩:=hf.op
 refine Zgm ?_;unfold Zgl
 refine Qqv ?_
 generalize hW:World.alloc (World.alloc w0 _) _=W
 have e0:Ext w0 W:=by rw [← hW];exact ee
 have o3:W.heap[w0.heap.size]?=some (.cells (Zw f tv cv).toArray 123 (0,0)):=by rw [← hW];exact Qqf
 have hIn:VL W (.slice (some ⟨w0.heap.size+1,0,none⟩) 1 1) [f.key]:=by rw [← hW];exact Dc (by simp only [World.size_alloc]) _ _
 clear hW
 refine ZS (Qo (h.ext e0) 0 4294967295 _ _ hIn) (λ w1 e1 h0=>?_) (λ w1 e1 h0=>?_)
 · rw [h0,Xf]
   have e01:=e0.trans e1
   have h1:=h.ext e01.wdrew
   obtain ⟨⟨dn,mv,ds,mn,fv,k1,k2⟩,k3,k4,k5,k6⟩:=id h1
   refine ZB ?_
   simp (disch:=try exact DI) only [↓PR,QR,simprocAttr,↓Re,(Za (e1.obj o3)).1,(Za k1).1]
   have k1':=(Za k1).1
   simp only [World.cell?] at k1'
   rw [jk underlying199 underlying9 ty4 k4]
   rw [h1.strV f.of]
   refine ZS (YK h1 _ 8 K7) (λ w2 e2 h0=>?_) (λ w2 e2 h0=>?_)
   · rw [h0,Xf]
     refine ⟨e2,?_⟩
     have e02:=(e01.wdrew).trans e2
     have e12:Ext W w2:=(e1.wdrew).trans e2
     refine Qqh (Za (e12.obj o3)).1 ?_
     refine ZS (qn (h.ext e02) i hi Yo _ f ⟨tv,cv,rfl,Z6.ext hT e02,Yu.ext hC e02⟩) (λ w3 e3 h0=>?_) (λ w3 e3 h0=>?_)
     · exact Xs (e02.trans e3) h0
     · exact Yi (e02.trans e3) rfl h0
   · rw [QB h0]
     exact Yi (e01.wdrew.trans e2) rfl h0
 · rw [QB h0]
   exact Yi (e0.trans e1) rfl h0
def N1 (h:Chk w0 cb md ms Zu ZH at_ fld fs) (i:Nat) (hi:fld=i) (Yo:i < fs.length) (v:Vl) (f:Zv) (hf:Z8 w0 v f):Calls Pg 236 #[Qq5 cb,v] w0 (Ql w0 at_ fld (orC (YC 3 1 [f.check]) (Yw ((fs.take i).any λ o=>decide (o.name=f.fr)) 8))):=by
 obtain ⟨tv,cv,rfl,hT,hC,ht1,hc1⟩:=hf.op
 refine Zgi ?_;unfold Zgh
 refine Qqv ?_
 generalize hW:World.alloc (World.alloc w0 _) _=W
 have e0:Ext w0 W:=by rw [← hW];exact ee
 have o3:W.heap[w0.heap.size]?=some (.cells (Zw f tv cv).toArray 123 (0,0)):=by rw [← hW];exact Qqf
 have hIn:VL W (.slice (some ⟨w0.heap.size+1,0,none⟩) 1 1) [f.check]:=by rw [← hW];exact Dc (by simp only [World.size_alloc]) _ _
 clear hW
 refine ZS (Qo (h.ext e0) 1 3 _ _ hIn) (λ w1 e1 h0=>?_) (λ w1 e1 h0=>?_)
 · rw [h0,Xf]
   have e01:=e0.trans e1
   refine ZB ?_
   simp (disch:=try exact DI) only [↓PR,QR,simprocAttr,↓EF,↓EG,(Za (e1.obj o3)).1]
   refine Zi (WW (h.ext e01.wdrew) i hi Yo) ?_
   rintro bv w2 ⟨hB,e2⟩
   refine ⟨e2,?_⟩
   have hb1:=Zd.oneCell hB
   simp (disch:=try exact DI) only [↓PR,QR,simprocAttr,↓EF,↓EG]
   refine zcr (xc w2 _ ⟨ByteArray.empty,fs.take i⟩ f.fr ⟨bv,rfl,hB⟩) λ w3 e3=>?_
   refine ⟨e2.trans e3,?_⟩
   simp (disch:=try exact DI) only [↓PR,QR,simprocAttr,↓EF,↓EG]
   have e03:=(e01.wdrew).trans (e2.trans e3)
   refine ZS (YK (h.ext e03) _ 8 K7) (λ w4 e4 h0=>?_) (λ w4 e4 h0=>?_)
   · exact Xs (e03.trans e4) h0
   · exact Yi (e03.trans e4) rfl h0
 · rw [QB h0]
   exact Yi (e0.trans e1) rfl h0
def Mc (f:Zv):Bool:=(f.bits == 2)||(f.bits == 4)||(decide (8≤f.bits)&&decide (f.bits≤512)&&(f.bits.tmod 8 == 0))
def Zbj (h:Chk w0 cb md ms Zu ZH at_ fld fs) (v:Vl) (f:Zv) (hf:Z8 w0 v f):Calls Pg 234 #[Qq5 cb,v] w0 (Ql w0 at_ fld (Yw (Mc f) 6)):=by
 obtain ⟨tv,cv,rfl,hT,hC,ht1,hc1⟩:=hf.op
 refine Zgc ?_;unfold Zgb
 simp (disch:=try exact DI) only [↓PR,QR,simprocAttr,↓I4,↓I5,↓I6,↓I7]
 have e0:Ext w0 (w0.alloc (Obj.cells (Zw f tv cv).toArray 123)):=ee
 have fin:∀ b,b=Mc f→ZU Pg 135 #[Qq5 cb,.bool b,.int .i64 6] (Zc (Ql w0 at_ fld (Yw (Mc f) 6))) (w0.alloc (Obj.cells (Zw f tv cv).toArray 123)) (λ _ w=>Ql w0 at_ fld (Yw (Mc f) 6) (.returned (.tuple #[])) w):=by
  rintro b rfl
  exact ZS (YK (h.ext e0) _ 6 K7) (λ w' e1 h0=>Xs (e0.trans e1) h0) (λ w' e1 h0=>Yi (e0.trans e1) rfl h0)
 unfold Mc at fin ⊢
 generalize (f.bits == 2)=b1 at fin ⊢
 generalize (f.bits == 4)=b2 at fin ⊢
 generalize decide (8≤f.bits)=b3 at fin ⊢
 generalize decide (f.bits≤512)=b4 at fin ⊢
 cases b1<;>cases b2<;>cases b3<;>cases b4<;>simp (disch:=try exact DI) only [↓PR,QR,simprocAttr,↓I4,↓I5,↓I6,↓I7]<;>first | exact fin _ rfl | exact fin _ (by simp)
end
def ZaP (x y:Xc):(decide (x.field=y.field)&&decide (x.factor=y.factor))=decide (x=y):=by
 cases x;cases y
 rw [Bool.eq_iff_iff]
 simp
def jU (w0:Wd) (v u:Vl) (l m:List Xc) (hl:Z6 w0 v l) (hm:Z6 w0 u m) :
 Ret Pg 240 #[v,u] w0 λ r w'=>r = .bool (decide (l=m))∧Ext w0 w':=by
 obtain ⟨A,c,rfl,hlc,hcm,hlm,Xj⟩:=Zd.open hl
 obtain ⟨A',c',rfl,hlc',hcm',hlm',hel'⟩:=Zd.open hm
 refine ZhC (R:=ZE _) ?_;unfold ZhB
 refine Qqv ?_
 by_cases YJ:l.length=m.length
 · have Y7:((l.length:Int) != (m.length:Int))=false:=by simp [YJ]
   simp (disch:=try exact DI) only [↓PR,QR,simprocAttr,↓Jt,↓Ju,Y7]
   refine ZL (λ a0 w=>∃ (k:Nat) , a0 = .int .i64 (k:Int)∧k≤l.length∧Ext w0 w∧l.take k=m.take k) (λ a0 _=>l.length - (intOf a0).toNat) ⟨0,rfl,Nat.zero_le _,ee,rfl⟩ ?_
   rintro _ w ⟨k,rfl,hk,e,hI⟩
   have se:=e.size
   rcases ZY hk with ⟨x,hx,hd,Yo,ZT⟩ | ⟨hk,hd,ZT⟩
   · obtain ⟨b,o,cs,rfl,_,hA,rfl⟩:=Xj k x hx
     obtain ⟨y,hy⟩:=getElem?_lt (l:=m) (k:=k) C1
     obtain ⟨b',o',cs',rfl,_,hA',rfl⟩:=hel' k y hy
     have hlt':k < m.length:=C1
     have eD:Ext w0 w.drew:=e.wdrew
     simp (disch:=try exact DI) only [↓PR,QR,simprocAttr,↓Jt,↓Ju,ZT]
     refine ZB ?_
     simp (disch:=try exact DI) only [↓PR,QR,simprocAttr,↓Jt,↓Ju,hA.c2,hA'.c2]
     rw [ZaP]
     by_cases hxy:x=y
     · subst hxy
       simp only [decide_true,Bool.not_true]
       simp (disch:=try exact DI) only [↓PR,QR,simprocAttr,↓Jt,↓Ju]
       exact ⟨⟨k+1,rfl,by omega,ee,by rw [List.take_add_one,List.take_add_one,hx,hy,hI]⟩,Yh (kd := .i64) Yo⟩
     · simp only [hxy,decide_false,Bool.not_false]
       simp (disch:=try exact DI) only [↓PR,QR,simprocAttr,↓Jt,↓Ju]
       refine ⟨?_,eD⟩
       have hne':¬ l=m:=by
        rintro rfl
        rw [hx] at hy
        injection hy with hy
        exact hxy hy
       simp [hne']
   · subst hk
     simp (disch:=try exact DI) only [↓PR,QR,simprocAttr,↓Jt,↓Ju,ZT]
     rw [List.take_length,YJ,List.take_length] at hI
     exact ⟨by simp [hI],e⟩
 · have Y7:((l.length:Int) != (m.length:Int))=true:=by simp;omega
   simp (disch:=try exact DI) only [↓PR,QR,simprocAttr,↓Jt,↓Ju,Y7]
   have hne':¬ l=m:=λ h=>YJ (by rw [h])
   exact ⟨by simp [hne'],Ext.refl _⟩
def ZaO (x y:qv):(decide (x.low=y.low)&&(decide (x.high=y.high)&&decide (x.of=y.of)))=decide (x=y):=by
 cases x;cases y
 rw [Bool.eq_iff_iff]
 simp
def jT (w0:Wd) (v u:Vl) (l m:List qv) (hl:Yu w0 v l) (hm:Yu w0 u m) :
 Ret Pg 241 #[v,u] w0 λ r w'=>r = .bool (decide (l=m))∧Ext w0 w':=by
 obtain ⟨A,c,rfl,hlc,hcm,hlm,Xj⟩:=Zd.open hl
 obtain ⟨A',c',rfl,hlc',hcm',hlm',hel'⟩:=Zd.open hm
 refine ZhA (R:=ZE _) ?_;unfold Zhz
 refine Qqv ?_
 by_cases YJ:l.length=m.length
 · have Y7:((l.length:Int) != (m.length:Int))=false:=by simp [YJ]
   simp (disch:=try exact DI) only [↓PR,QR,simprocAttr,↓Jr,↓Js,Y7]
   refine ZL (λ a0 w=>∃ (k:Nat) , a0 = .int .i64 (k:Int)∧k≤l.length∧Ext w0 w∧l.take k=m.take k) (λ a0 _=>l.length - (intOf a0).toNat) ⟨0,rfl,Nat.zero_le _,ee,rfl⟩ ?_
   rintro _ w ⟨k,rfl,hk,e,hI⟩
   have se:=e.size
   rcases ZY hk with ⟨x,hx,hd,Yo,ZT⟩ | ⟨hk,hd,ZT⟩
   · obtain ⟨b,o,cs,rfl,_,hA,rfl⟩:=Xj k x hx
     obtain ⟨y,hy⟩:=getElem?_lt (l:=m) (k:=k) C1
     obtain ⟨b',o',cs',rfl,_,hA',rfl⟩:=hel' k y hy
     have hlt':k < m.length:=C1
     have eD:Ext w0 w.drew:=e.wdrew
     simp (disch:=try exact DI) only [↓PR,QR,simprocAttr,↓Jr,↓Js,ZT]
     refine ZB ?_
     simp (disch:=try exact DI) only [↓PR,QR,simprocAttr,↓Jr,↓Js,hA.c3,hA'.c3]
     rw [ZaO]
     by_cases hxy:x=y
     · subst hxy
       simp only [decide_true,Bool.not_true]
       simp (disch:=try exact DI) only [↓PR,QR,simprocAttr,↓Jr,↓Js]
       exact ⟨⟨k+1,rfl,by omega,ee,by rw [List.take_add_one,List.take_add_one,hx,hy,hI]⟩,Yh (kd := .i64) Yo⟩
     · simp only [hxy,decide_false,Bool.not_false]
       simp (disch:=try exact DI) only [↓PR,QR,simprocAttr,↓Jr,↓Js]
       refine ⟨?_,eD⟩
       have hne':¬ l=m:=by
        rintro rfl
        rw [hx] at hy
        injection hy with hy
        exact hxy hy
       simp [hne']
   · subst hk
     simp (disch:=try exact DI) only [↓PR,QR,simprocAttr,↓Jr,↓Js,ZT]
     rw [List.take_length,YJ,List.take_length] at hI
     exact ⟨by simp [hI],e⟩
 · have Y7:((l.length:Int) != (m.length:Int))=true:=by simp;omega
   simp (disch:=try exact DI) only [↓PR,QR,simprocAttr,↓Jr,↓Js,Y7]
   have hne':¬ l=m:=λ h=>YJ (by rw [h])
   exact ⟨by simp [hne'],Ext.refl _⟩
abbrev Ty (f:Zv):Vl := .agg #[.string f.name,.string f.of,.string f.tag,.string f.fr,.int .i64 f.kind,.int .i64 f.bits,.int .i64 f.low,.int .i64 f.high,.int .i64 f.base,.int .i64 f.check,.int .i64 f.key,.bool f.little,.bool f.loose]
def DK (w0:Wd) (v:Vl) (f:Zv) (hf:Z8 w0 v f):Ret Pg 239 #[v] w0 λ r w'=>r=Ty f∧Ext w0 w':=by
 obtain ⟨tv,cv,rfl,hT,hC,ht1,hc1⟩:=hf.op
 refine ZgC (R:=ZE _) ?_;unfold ZgB
 refine Qqw ?_
 exact ⟨by first | trivial | rfl,ee⟩
def Cy (w0:Wd) (v u:Vl) (f g:Zv) (hf:Z8 w0 v f) (hg:Z8 w0 u g):Ret Pg 197 #[v,u] w0 λ r w'=>r = .bool (decide (f=g))∧Ext w0 w':=by
 obtain ⟨tv,cv,rfl,hT,hC,ht1,hc1⟩:=hf.op
 obtain ⟨tv',cv',rfl,hT',hC',ht1',hc1'⟩:=hg.op
 refine ZgG (R:=ZE _) ?_;unfold ZgF
 refine Qqv ?_
 generalize hW:World.alloc (World.alloc w0 _) _=W
 have e0:Ext w0 W:=by rw [← hW];exact ee
 have o3:W.heap[w0.heap.size]?=some (.cells (Zw f tv cv).toArray 123 (0,0)):=by rw [← hW];exact Qqf
 have o4:W.heap[w0.heap.size+1]?=some (.cells (Zw g tv' cv').toArray 123 (0,0)):=by rw [← hW];exact Qqf
 clear hW
 simp only [World.size_alloc]
 refine ZB ?_
 have eD:Ext w0 W.drew:=e0.wdrew
 simp (disch:=try exact DI) only [↓PR,QR,simprocAttr,↓Jl,↓Jm,↓Jn,(Za o3).1,(Za o4).1]
 refine zcr (DK _ _ f ⟨tv,cv,rfl,Z6.ext hT eD,Yu.ext hC eD⟩) λ w1 e1=>?_
 refine ⟨e1,?_⟩
 have eD1:=eD.trans e1
 refine zcr (DK _ _ g ⟨tv',cv',rfl,Z6.ext hT' eD1,Yu.ext hC' eD1⟩) λ w2 e2=>?_
 refine ⟨e1.trans e2,?_⟩
 simp (disch:=try exact DI) only [↓PR,QR,simprocAttr,↓Jl,↓Jm,↓Jn,(Za o3).1,(Za o4).1]
 have eW2:Ext W w2:=(Ext.refl W).wdrew.trans (e1.trans e2)
 generalize hb:(_&&_:Bool)=b1
 cases b1 with
 | false=>
  simp (disch:=try exact DI) only [↓PR,QR,simprocAttr,↓Jl,↓Jm,↓Jn]
  refine ⟨?_,e0.trans eW2⟩
  have Y7:¬ f=g:=by
   rintro rfl
   simp at hb
  simp [Y7]
 | true=>
  have hbt:=hb
  simp only [Bool.and_eq_true,decide_eq_true_eq] at hb
  obtain ⟨h1,h2,h3,h4,h5,h6,h7,h8,h9,h10,h11,h12,h13⟩:=hb
  simp (disch:=try exact DI) only [↓PR,QR,simprocAttr,↓Jl,↓Jm,↓Jn,(Za o3).1,(Za o4).1]
  refine zcr (jU _ _ _ _ _ (Z6.ext hT (e0.trans eW2)) (Z6.ext hT' (e0.trans eW2))) λ w3 e3=>?_
  refine ⟨(e1.trans e2).trans e3,?_⟩
  have eW3:=eW2.trans e3
  by_cases ht:f.terms=g.terms
  · simp only [ht,decide_true]
    simp (disch:=try exact DI) only [↓PR,QR,simprocAttr,↓Jl,↓Jm,↓Jn,hbt,(Za o3).1,(Za o4).1]
    refine zcr (jT _ _ _ _ _ (Yu.ext hC (e0.trans eW3)) (Yu.ext hC' (e0.trans eW3))) λ w4 e4=>?_
    refine ⟨((e1.trans e2).trans e3).trans e4,?_⟩
    simp (disch:=try exact DI) only [↓PR,QR,simprocAttr,↓Jl,↓Jm,↓Jn]
    refine ⟨?_,e0.trans (eW3.trans e4)⟩
    congr 1
    rw [Bool.eq_iff_iff]
    simp only [decide_eq_true_eq]
    constructor
    · intro hc;cases f;cases g;simp_all
    · rintro rfl;rfl
  · simp only [ht,decide_false]
    simp (disch:=try exact DI) only [↓PR,QR,simprocAttr,↓Jl,↓Jm,↓Jn,hbt]
    refine ⟨?_,e0.trans eW3⟩
    have Y7:¬ f=g:=by rintro rfl;exact ht rfl
    simp [Y7]
def WV (g:FuncId) (cl:Zv→Zv) (ct cc:Bool):Prop:=∀ (w:Wd) (p:Nat) (f:Zv) (tv cv:Vl),tv.oneCell'=true→cv.oneCell'=true→w.heap[p]?=some (.cells (Zw f tv cv).toArray 123 (0,0)) →
 Ret Pg g #[Qq5 p] w λ _ w'=>w'.heap[p]?=some (.cells (Zw (cl f) (if ct then .slice none 0 0 else tv) (if cc then .slice none 0 0 else cv)).toArray 123 (0,0))∧∀ a,Ext a w→a.heap.size≤p→Ext a w'
def Ea (f:Zv):Zv:={ f with bits:=0,little:=false,low:=0,high:=0 }
def ZaC:WV 212 Ea false false:=by
 intro w p f tv cv ht1 hc1 hp
 have Yo:=(Qqj hp).1
 refine ZlQ (R:=ZE _) ?_;unfold n97
 simp (disch:=try exact DI) only [↓PR,QR,simprocAttr,joinK_eq,(Za hp).1,(Za hp).2]
 refine ⟨?_,λ a e hp'=>?_⟩
 · simp only [YY,hp,Option.map_some,Y2,List.setIfInBounds_toArray,List.set_cons_zero,List.set_cons_succ,Bool.false_eq_true,if_false,if_true]
   try rfl
 · exact ee
def Eb (f:Zv):Zv:={ f with bits:=0,little:=false,low:=0 }
def ZaD:WV 216 Eb false false:=by
 intro w p f tv cv ht1 hc1 hp
 have Yo:=(Qqj hp).1
 refine Zgo (R:=ZE _) ?_;unfold Zgn
 simp (disch:=try exact DI) only [↓PR,QR,simprocAttr,joinK_eq,(Za hp).1,(Za hp).2]
 refine ⟨?_,λ a e hp'=>?_⟩
 · simp only [YY,hp,Option.map_some,Y2,List.setIfInBounds_toArray,List.set_cons_zero,List.set_cons_succ,Bool.false_eq_true,if_false,if_true]
   try rfl
 · exact ee
def Ec (f:Zv):Zv:={ f with loose:=false,low:=0,high:=0 }
def ZaE:WV 218 Ec false false:=by
 intro w p f tv cv ht1 hc1 hp
 have Yo:=(Qqj hp).1
 refine Zgs (R:=ZE _) ?_;unfold Zgr
 simp (disch:=try exact DI) only [↓PR,QR,simprocAttr,joinK_eq,(Za hp).1,(Za hp).2]
 refine ⟨?_,λ a e hp'=>?_⟩
 · simp only [YY,hp,Option.map_some,Y2,List.setIfInBounds_toArray,List.set_cons_zero,List.set_cons_succ,Bool.false_eq_true,if_false,if_true]
   try rfl
 · exact ee
def Ed (f:Zv):Zv:={ f with base:=0,terms:=[] }
def ZaF:WV 220 Ed true false:=by
 intro w p f tv cv ht1 hc1 hp
 have Yo:=(Qqj hp).1
 refine Zgw (R:=ZE _) ?_;unfold Zgv
 simp (disch:=try exact DI) only [↓PR,QR,simprocAttr,joinK_eq,(Za hp).1,(Za hp).2]
 refine ⟨?_,λ a e hp'=>?_⟩
 · simp only [YY,hp,Option.map_some,Y2,List.setIfInBounds_toArray,List.set_cons_zero,List.set_cons_succ,Bool.false_eq_true,if_false,if_true]
   try rfl
 · exact ee
def Ee (f:Zv):Zv:={ f with low:=0,high:=0 }
def ZaG:WV 222 Ee false false:=by
 intro w p f tv cv ht1 hc1 hp
 have Yo:=(Qqj hp).1
 refine Zgy (R:=ZE _) ?_;unfold Zgx
 simp (disch:=try exact DI) only [↓PR,QR,simprocAttr,joinK_eq,(Za hp).1,(Za hp).2]
 refine ⟨?_,λ a e hp'=>?_⟩
 · simp only [YY,hp,Option.map_some,Y2,List.setIfInBounds_toArray,List.set_cons_zero,List.set_cons_succ,Bool.false_eq_true,if_false,if_true]
   try rfl
 · exact ee
def Ef (f:Zv):Zv:={ f with loose:=false,high:=0 }
def ZaH:WV 224 Ef false false:=by
 intro w p f tv cv ht1 hc1 hp
 have Yo:=(Qqj hp).1
 refine ZlR (R:=ZE _) ?_;unfold n98
 simp (disch:=try exact DI) only [↓PR,QR,simprocAttr,joinK_eq,(Za hp).1,(Za hp).2]
 refine ⟨?_,λ a e hp'=>?_⟩
 · simp only [YY,hp,Option.map_some,Y2,List.setIfInBounds_toArray,List.set_cons_zero,List.set_cons_succ,Bool.false_eq_true,if_false,if_true]
   try rfl
 · exact ee
def Eg (f:Zv):Zv:={ f with of:=ByteArray.empty,base:=0,terms:=[] }
def ZaI:WV 226 Eg true false:=by
 intro w p f tv cv ht1 hc1 hp
 have Yo:=(Qqj hp).1
 refine Zf0 (R:=ZE _) ?_;unfold ZfZ
 simp (disch:=try exact DI) only [↓PR,QR,simprocAttr,joinK_eq,(Za hp).1,(Za hp).2]
 refine ⟨?_,λ a e hp'=>?_⟩
 · simp only [YY,hp,Option.map_some,Y2,List.setIfInBounds_toArray,List.set_cons_zero,List.set_cons_succ,Bool.false_eq_true,if_false,if_true]
   try rfl
 · exact ee
def Eh (f:Zv):Zv:={ f with of:=ByteArray.empty }
def ZaJ:WV 229 Eh false false:=by
 intro w p f tv cv ht1 hc1 hp
 have Yo:=(Qqj hp).1
 refine Zf4 (R:=ZE _) ?_;unfold Zf3
 simp (disch:=try exact DI) only [↓PR,QR,simprocAttr,joinK_eq,(Za hp).1,(Za hp).2]
 refine ⟨?_,λ a e hp'=>?_⟩
 · simp only [YY,hp,Option.map_some,Y2,List.setIfInBounds_toArray,List.set_cons_zero,List.set_cons_succ,Bool.false_eq_true,if_false,if_true]
   try rfl
 · exact ee
def Ei (f:Zv):Zv:={ f with tag:=ByteArray.empty,cases:=[] }
def ZaK:WV 231 Ei false true:=by
 intro w p f tv cv ht1 hc1 hp
 have Yo:=(Qqj hp).1
 refine Zf8 (R:=ZE _) ?_;unfold Zf7
 simp (disch:=try exact DI) only [↓PR,QR,simprocAttr,joinK_eq,(Za hp).1,(Za hp).2]
 refine ⟨?_,λ a e hp'=>?_⟩
 · simp only [YY,hp,Option.map_some,Y2,List.setIfInBounds_toArray,List.set_cons_zero,List.set_cons_succ,Bool.false_eq_true,if_false,if_true]
   try rfl
 · exact ee
def jH (f:Zv):Zv:={ f with bits:=0 }
def Pq:WV 233 jH false false:=by
 intro w p f tv cv ht1 hc1 hp
 have Yo:=(Qqj hp).1
 refine Zga (R:=ZE _) ?_;unfold Zf9
 simp (disch:=try exact DI) only [↓PR,QR,simprocAttr,joinK_eq,(Za hp).1,(Za hp).2]
 refine ⟨?_,λ a e hp'=>?_⟩
 · simp only [YY,hp,Option.map_some,Y2,List.setIfInBounds_toArray,List.set_cons_zero,List.set_cons_succ,Bool.false_eq_true,if_false,if_true]
   try rfl
 · exact ee
def jI (f:Zv):Zv:={ f with fr:=ByteArray.empty,check:=0 }
def Pr:WV 235 jI false false:=by
 intro w p f tv cv ht1 hc1 hp
 have Yo:=(Qqj hp).1
 refine Zge (R:=ZE _) ?_;unfold Zgd
 simp (disch:=try exact DI) only [↓PR,QR,simprocAttr,joinK_eq,(Za hp).1,(Za hp).2]
 refine ⟨?_,λ a e hp'=>?_⟩
 · simp only [YY,hp,Option.map_some,Y2,List.setIfInBounds_toArray,List.set_cons_zero,List.set_cons_succ,Bool.false_eq_true,if_false,if_true]
   try rfl
 · exact ee
def jJ (f:Zv):Zv:={ f with of:=ByteArray.empty,base:=0,terms:=[],key:=0 }
def Ps:WV 237 jJ true false:=by
 intro w p f tv cv ht1 hc1 hp
 have Yo:=(Qqj hp).1
 refine Zgk (R:=ZE _) ?_;unfold Zgj
 simp (disch:=try exact DI) only [↓PR,QR,simprocAttr,joinK_eq,(Za hp).1,(Za hp).2]
 refine ⟨?_,λ a e hp'=>?_⟩
 · simp only [YY,hp,Option.map_some,Y2,List.setIfInBounds_toArray,List.set_cons_zero,List.set_cons_succ,Bool.false_eq_true,if_false,if_true]
   try rfl
 · exact ee
abbrev XE:Int→Vl:=λ n => .int .i64 n
def DY (L:List (Int×Vl×Nat)):Prop:=(∀ k,¬ (1≤k∧k≤12)→Sw.look L k=none)∧Sw.look L 1=some (.agg #[.func (.func 212) #[] #[],.func (.func 213) #[] #[]])∧Sw.look L 2=some (.agg #[.func (.func 216) #[] #[],.func (.func 217) #[] #[]])∧Sw.look L 3=some (.agg #[.func (.func 218) #[] #[],.func (.func 219) #[] #[]])∧Sw.look L 4=some (.agg #[.func (.func 220) #[] #[],.func (.func 221) #[] #[]])∧Sw.look L 5=some (.agg #[.func (.func 222) #[] #[],.func (.func 223) #[] #[]])∧Sw.look L 6=some (.agg #[.func (.func 224) #[] #[],.func (.func 225) #[] #[]])∧Sw.look L 7=some (.agg #[.func (.func 226) #[] #[],.func (.func 227) #[] #[]])∧Sw.look L 8=some (.agg #[.func (.func 229) #[] #[],.func (.func 230) #[] #[]])∧Sw.look L 9=some (.agg #[.func (.func 231) #[] #[],.func (.func 232) #[] #[]])∧Sw.look L 10=some (.agg #[.func (.func 233) #[] #[],.func (.func 234) #[] #[]])∧Sw.look L 11=some (.agg #[.func (.func 235) #[] #[],.func (.func 236) #[] #[]])∧Sw.look L 12=some (.agg #[.func (.func 237) #[] #[],.func (.func 238) #[] #[]])
def XW {w0 w:Wd} {m c:Nat} {L:List (Int×Vl×Nat)} {QP:PEn} {ku:WPr} (hM:XA w m XE L c) (e:Ext w0 w) (hm:w0.heap.size≤m) (k:Int) (v:Vl)
 (h:∀ w' L' c',XA w' m XE L' c'→(∀ k',Sw.look L' k'=if k'=k then some v else Sw.look L k')→Ext w0 w'→ku w'):opU Pg (mapUpdate 257 (.map (some m)) (.int .i64 k) v) QP w ku:=by
 rw [Kp underlying257 (QJ.int underlying117) hM k v]
 exact h _ _ _ (hM.put k v) (λ k'=>yj _ _ _ _ _) (e.putObj hm _)
def Dd (w0:Wd):Ret Pg 196 #[] w0 λ r w'=>∃ m L c,r = .map (some m)∧w0.heap.size≤m∧XA w' m XE L c∧DY L∧Ext w0 w':=by
 refine ZlP (R:=ZE _) ?_;unfold n96
 refine Qqv ?_
 have hM0:XA (w0.alloc (.map #[] 0)) w0.heap.size XE [] 0:=XA.new w0 _
 have e0:Ext w0 (w0.alloc (.map #[] 0)):=ee
 refine XW hM0 e0 (Nat.le_refl _) 1 _ (λ w1 L1 c1 hM1 hl1 e1=>?_)
 refine Qqv ?_
 refine XW hM1 e1 (Nat.le_refl _) 2 _ (λ w2 L2 c2 hM2 hl2 e2=>?_)
 refine Qqv ?_
 refine XW hM2 e2 (Nat.le_refl _) 3 _ (λ w3 L3 c3 hM3 hl3 e3=>?_)
 refine Qqv ?_
 refine XW hM3 e3 (Nat.le_refl _) 4 _ (λ w4 L4 c4 hM4 hl4 e4=>?_)
 refine Qqv ?_
 refine XW hM4 e4 (Nat.le_refl _) 5 _ (λ w5 L5 c5 hM5 hl5 e5=>?_)
 refine Qqv ?_
 refine XW hM5 e5 (Nat.le_refl _) 6 _ (λ w6 L6 c6 hM6 hl6 e6=>?_)
 refine Qqv ?_
 refine XW hM6 e6 (Nat.le_refl _) 7 _ (λ w7 L7 c7 hM7 hl7 e7=>?_)
 refine Qqv ?_
 refine XW hM7 e7 (Nat.le_refl _) 8 _ (λ w8 L8 c8 hM8 hl8 e8=>?_)
 refine Qqv ?_
 refine XW hM8 e8 (Nat.le_refl _) 9 _ (λ w9 L9 c9 hM9 hl9 e9=>?_)
 refine Qqv ?_
 refine XW hM9 e9 (Nat.le_refl _) 10 _ (λ w10 L10 c10 hM10 hl10 e10=>?_)
 refine Qqv ?_
 refine XW hM10 e10 (Nat.le_refl _) 11 _ (λ w11 L11 c11 hM11 hl11 e11=>?_)
 refine Qqv ?_
 refine XW hM11 e11 (Nat.le_refl _) 12 _ (λ w12 L12 c12 hM12 hl12 e12=>?_)
 refine Qqv ?_
 have hn:∀ k,Sw.look ([]:List (Int×Vl×Nat)) k=none:=λ _=>rfl
 refine ⟨_,_,_,rfl,Nat.le_refl _,hM12,⟨λ k hk=>?_,?_,?_,?_,?_,?_,?_,?_,?_,?_,?_,?_,?_⟩,e12⟩
 · rw [hl12,if_neg C1,hl11,if_neg C1,hl10,if_neg C1,hl9,if_neg C1,hl8,if_neg C1,hl7,if_neg C1,hl6,if_neg C1,hl5,if_neg C1,hl4,if_neg C1,hl3,if_neg C1,hl2,if_neg C1,hl1,if_neg C1,hn]
 · rw [hl12,if_neg K7,hl11,if_neg K7,hl10,if_neg K7,hl9,if_neg K7,hl8,if_neg K7,hl7,if_neg K7,hl6,if_neg K7,hl5,if_neg K7,hl4,if_neg K7,hl3,if_neg K7,hl2,if_neg K7,hl1,if_pos rfl]
 · rw [hl12,if_neg K7,hl11,if_neg K7,hl10,if_neg K7,hl9,if_neg K7,hl8,if_neg K7,hl7,if_neg K7,hl6,if_neg K7,hl5,if_neg K7,hl4,if_neg K7,hl3,if_neg K7,hl2,if_pos rfl]
 · rw [hl12,if_neg K7,hl11,if_neg K7,hl10,if_neg K7,hl9,if_neg K7,hl8,if_neg K7,hl7,if_neg K7,hl6,if_neg K7,hl5,if_neg K7,hl4,if_neg K7,hl3,if_pos rfl]
 · rw [hl12,if_neg K7,hl11,if_neg K7,hl10,if_neg K7,hl9,if_neg K7,hl8,if_neg K7,hl7,if_neg K7,hl6,if_neg K7,hl5,if_neg K7,hl4,if_pos rfl]
 · rw [hl12,if_neg K7,hl11,if_neg K7,hl10,if_neg K7,hl9,if_neg K7,hl8,if_neg K7,hl7,if_neg K7,hl6,if_neg K7,hl5,if_pos rfl]
 · rw [hl12,if_neg K7,hl11,if_neg K7,hl10,if_neg K7,hl9,if_neg K7,hl8,if_neg K7,hl7,if_neg K7,hl6,if_pos rfl]
 · rw [hl12,if_neg K7,hl11,if_neg K7,hl10,if_neg K7,hl9,if_neg K7,hl8,if_neg K7,hl7,if_pos rfl]
 · rw [hl12,if_neg K7,hl11,if_neg K7,hl10,if_neg K7,hl9,if_neg K7,hl8,if_pos rfl]
 · rw [hl12,if_neg K7,hl11,if_neg K7,hl10,if_neg K7,hl9,if_pos rfl]
 · rw [hl12,if_neg K7,hl11,if_neg K7,hl10,if_pos rfl]
 · rw [hl12,if_neg K7,hl11,if_pos rfl]
 · rw [hl12,if_pos rfl]
def qz (f:Zv):Zv:={ name:=f.name,kind:=f.kind,bits:=0,little:=false,loose:=false,low:=0,high:=0,base:=0,terms:=[],of:=ByteArray.empty,tag:=ByteArray.empty,fr:=ByteArray.empty,cases:=[],check:=0,key:=0 }
section
variable {w0:Wd} {cb md ms:Nat} {Zu ZH:List (BAr×Vl)} {at_ fld:Int} {fs:List Zv}
def Qs {a0:Wd} (e00:Ext a0 w0) (h:Chk w0 cb md ms Zu ZH at_ fld fs) (p3 p6:Nat) (f:Zv) (tv cv:Vl) (hT:Z6 w0 tv f.terms) (hC:Yu w0 cv f.cases) (o3:w0.heap[p3]?=some (.cells (Zw f tv cv).toArray 123 (0,0)))
 (g1 g2:FuncId) (o6:w0.heap[p6]?=some (.cells #[.func (.func g1) #[] #[],.func (.func g2) #[] #[]] 255 (0,0))) (hc1:Callable Pg g1) (hc2:Callable Pg g2) (cl:Zv→Zv) (ct cc:Bool) (hcl:WV g1 cl ct cc)
 (hterms:(cl f).terms=if ct then [] else f.terms) (hcases:(cl f).cases=if cc then [] else f.cases) (code:Int)
 (hchk:∀ w v,Chk w cb md ms Zu ZH at_ fld fs→Z8 w v f→Calls Pg g2 #[Qq5 cb,v] w (Ql w at_ fld code)) :
 HF (Qq5 cb) (Qq5 p3) (Qq5 p6) (Ql a0 at_ fld (orC (Yw (decide (cl f=qz f)) 5) code)) w0:=by
 have ht1:=Zd.oneCell hT
 have hv1:=Zd.oneCell hC
 have l6:p6 < w0.heap.size:=(Qqj o6).1
 unfold HF
 refine Qqb (Za o3).1 (Za o6).1 ?_
 have e1:Ext w0 (w0.alloc (Obj.cells (Zw f tv cv).toArray 123)):=ee
 have o7:=Zt w0 (Zw f tv cv).toArray 123
 rw [Y3 hc1]
 simp only [Array.empty_append,Array.append_empty]
 refine Zi (hcl _ w0.heap.size f tv cv ht1 hv1 o7) ?_
 rintro r w2 ⟨o7',hE⟩
 have e2:=hE w0 e1 (Nat.le_refl _)
 clear hE o7 e1
 have hT2:Z6 w2 (if ct then .slice none 0 0 else tv) (cl f).terms:=by
  rw [hterms]
  cases ct
  · exact Z6.ext hT e2
  · exact Zd.nil _ _ _
 have hC2:Yu w2 (if cc then .slice none 0 0 else cv) (cl f).cases:=by
  rw [hcases]
  cases cc
  · exact Yu.ext hC e2
  · exact Zd.nil _ _ _
 generalize (if ct=true then Value.slice none 0 0 else tv)=tv2 at o7' hT2
 generalize (if cc=true then Value.slice none 0 0 else cv)=cv2 at o7' hC2
 generalize cl f=g at o7' hT2 hC2 ⊢
 have o3':=e2.obj o3
 clear hterms hcases hcl
 unfold ZdS
 have hL:QC Pg w2 123 ⟨w0.heap.size,0,none⟩ (.agg (Zw g tv2 cv2).toArray):=QC.many Vq rfl (λ j v hv=>by rw [Addr.add_lit,(Za o7').1];simpa using hv)
 refine (Gp hL).mpr ?_
 refine Qqh (Za o3').1 ?_
 refine zcr (Cy w2 _ _ g (qz f) ⟨_,_,rfl,hT2,hC2⟩ ⟨.slice none 0 0,.slice none 0 0,rfl,Zd.nil _ _ _,Zd.nil _ _ _⟩) λ w3 e3=>?_
 have e23:=e2.trans e3
 refine ZS (YK (h.ext e23) _ 5 K7) (λ w4 e4 h0=>?_) (λ w4 e4 h0=>?_)
 · rw [h0,Xf]
   have e24:=e23.trans e4
   simp (disch:=try exact DI) only [↓PR,QR,simprocAttr,↓ZdR,(Za (e24.obj o6)).1,(Za (e24.obj o3)).1]
   rw [Y3 hc2]
   simp only [Array.empty_append,Array.append_empty]
   refine ZS (hchk w4 _ (h.ext e24) ⟨tv,cv,rfl,Z6.ext hT e24,Yu.ext hC e24⟩) (λ w5 e5 h0=>?_) (λ w5 e5 h0=>?_)
   · exact Xs (e00.trans (e24.trans e5)) h0
   · exact Yi (e00.trans (e24.trans e5)) rfl h0
 · rw [QB h0]
   exact Yi (e00.trans (e23.trans e4)) rfl h0
end
def YV (bef:List Zv) (Zu ZH:List (BAr×Vl)) (f:Zv):Int:=
 if f.kind=1 then orC (Yw (UU f) 6) (YC (CB f) 0 [f.low,f.high]) else
 if f.kind=2 then orC (Yw (UU f) 6) (YC (CB f) 0 [f.low]) else
 if f.kind=3 then YC 34359738367 0 [f.low,f.high] else
 if f.kind=4 then UK (X2 bef) f else
 if f.kind=5 then orC (YC 255 0 [f.low]) (YC 1048576 0 [f.high]) else
 if f.kind=6 then YC 1048576 2 [f.high] else
 if f.kind=7 then orC (Yw (Yy Zu f.of).isSome 8) (UK (X2 bef) f) else
 if f.kind=8 then Yw (Yy Zu f.of).isSome 8 else
 if f.kind=9 then UD bef Zu f else
 if f.kind=10 then Yw (Mc f) 6 else
 if f.kind=11 then orC (YC 3 1 [f.check]) (Yw (bef.any λ o=>decide (o.name=f.fr)) 8) else
 if f.kind=12 then orC (YC 4294967295 0 [f.key]) (orC (Yw (T7 ZH f.of) 8) (UK (X2 bef) f)) else 0
def Xa (f:Zv):Zv:=
 if f.kind=1 then Ea f else
 if f.kind=2 then Eb f else
 if f.kind=3 then Ec f else
 if f.kind=4 then Ed f else
 if f.kind=5 then Ee f else
 if f.kind=6 then Ef f else
 if f.kind=7 then Eg f else
 if f.kind=8 then Eh f else
 if f.kind=9 then Ei f else
 if f.kind=10 then jH f else
 if f.kind=11 then jI f else
 if f.kind=12 then jJ f else f
def Ja (bef:List Zv) (Zu ZH:List (BAr×Vl)) (f:Zv):Int:=
 orC (Yw (Yq f.name) 1) (orC (Yw (!bef.any λ o=>decide (o.name=f.name)) 2) (orC (Yw (decide (1≤f.kind∧f.kind≤12)) 4) (orC (Yw (decide (Xa f=qz f)) 5) (YV bef Zu ZH f))))
section
variable {w0:Wd} {cb md ms:Nat} {Zu ZH:List (BAr×Vl)} {at_ fld:Int} {fs:List Zv}
def ZaQ {a0:Wd} (e00:Ext a0 w0) (h:Chk w0 cb md ms Zu ZH at_ fld fs) (i:Nat) (hi:fld=i) (Yo:i < fs.length) (p3 p6:Nat) (f:Zv) (tv cv:Vl) (hT:Z6 w0 tv f.terms) (hC:Yu w0 cv f.cases) (o3:w0.heap[p3]?=some (.cells (Zw f tv cv).toArray 123 (0,0)))
 (L:List (Int×Vl×Nat)) (hL:DY L) (a b:Vl) (ok:Bool) (hab:(Sw.look L f.kind).getD (.agg #[.nilFunc,.nilFunc]) = .agg #[a,b]) (hok:ok=(Sw.look L f.kind).isSome) (o6:w0.heap[p6]?=some (.cells #[a,b] 255 (0,0))) :
 ZU Pg 135 #[Qq5 cb,.bool ok,.int .i64 4] (Zc (Ql a0 at_ fld (orC (Yw (decide (1≤f.kind∧f.kind≤12)) 4) (orC (Yw (decide (Xa f=qz f)) 5) (YV (fs.take i) Zu ZH f))))) w0
  (λ _ w=>HF (Qq5 cb) (Qq5 p3) (Qq5 p6) (Ql a0 at_ fld (orC (Yw (decide (1≤f.kind∧f.kind≤12)) 4) (orC (Yw (decide (Xa f=qz f)) 5) (YV (fs.take i) Zu ZH f)))) w):=by
 obtain ⟨hn,k1,k2,k3,k4,k5,k6,k7,k8,k9,k10,k11,k12⟩:=hL
 by_cases hk:1≤f.kind∧f.kind≤12
 · have hd:decide (1≤f.kind∧f.kind≤12)=true:=by simpa using hk
   rw [hd]
   show ZU _ _ _ (Zc (Ql a0 at_ fld (orC 0 _))) _ _
   simp only [show Yw true 4=0 from rfl,Xf]
   have hs:ok=true:=by
    rw [hok]
    have:f.kind=1∨f.kind=2∨f.kind=3∨f.kind=4∨f.kind=5∨f.kind=6∨f.kind=7∨f.kind=8∨f.kind=9∨f.kind=10∨f.kind=11∨f.kind=12:=C1
    rcases this with h | h | h | h | h | h | h | h | h | h | h | h<;>simp only [h,k1,k2,k3,k4,k5,k6,k7,k8,k9,k10,k11,k12,Option.isSome_some]
   subst hs
   refine ZS (YK h true 4 K7) (λ w1 e1 _=>?_) (λ w1 e1 h0=>absurd rfl h0)
   have hw:=h.ext e1
   have hT1:=Z6.ext hT e1
   have hC1:=Yu.ext hC e1
   have o31:=e1.obj o3
   have this:f.kind=1∨f.kind=2∨f.kind=3∨f.kind=4∨f.kind=5∨f.kind=6∨f.kind=7∨f.kind=8∨f.kind=9∨f.kind=10∨f.kind=11∨f.kind=12:=C1
   rcases this with VZ | VZ | VZ | VZ | VZ | VZ | VZ | VZ | VZ | VZ | VZ | VZ
   · rw [VZ,k1,Option.getD_some] at hab
     injection hab with hab
     have hab:=congrArg Array.toList hab
     simp only [List.cons.injEq,and_true] at hab
     obtain ⟨rfl,rfl⟩:=hab
     have hcl:Xa f=Ea f:=by unfold Xa;simp [VZ]
     have hcc:YV (fs.take i) Zu ZH f=orC (Yw (UU f) 6) (YC (CB f) 0 [f.low,f.high]):=by unfold YV;simp [VZ]
     rw [hcl,hcc]
     exact Qs (e00.trans e1) hw p3 p6 f tv cv hT1 hC1 o31 _ _ (e1.obj o6) c212 c213 Ea false false ZaC rfl rfl _ (λ w v hw hf=>Zaf hw v f hf)
   · rw [VZ,k2,Option.getD_some] at hab
     injection hab with hab
     have hab:=congrArg Array.toList hab
     simp only [List.cons.injEq,and_true] at hab
     obtain ⟨rfl,rfl⟩:=hab
     have hcl:Xa f=Eb f:=by unfold Xa;simp [VZ]
     have hcc:YV (fs.take i) Zu ZH f=orC (Yw (UU f) 6) (YC (CB f) 0 [f.low]):=by unfold YV;simp [VZ]
     rw [hcl,hcc]
     exact Qs (e00.trans e1) hw p3 p6 f tv cv hT1 hC1 o31 _ _ (e1.obj o6) ZjS ZjT Eb false false ZaD rfl rfl _ (λ w v hw hf=>N2 hw v f hf)
   · rw [VZ,k3,Option.getD_some] at hab
     injection hab with hab
     have hab:=congrArg Array.toList hab
     simp only [List.cons.injEq,and_true] at hab
     obtain ⟨rfl,rfl⟩:=hab
     have hcl:Xa f=Ec f:=by unfold Xa;simp [VZ]
     have hcc:YV (fs.take i) Zu ZH f=YC 34359738367 0 [f.low,f.high]:=by unfold YV;simp [VZ]
     rw [hcl,hcc]
     exact Qs (e00.trans e1) hw p3 p6 f tv cv hT1 hC1 o31 _ _ (e1.obj o6) ZjU ZjV Ec false false ZaE rfl rfl _ (λ w v hw hf=>ML hw v f hf)
   · rw [VZ,k4,Option.getD_some] at hab
     injection hab with hab
     have hab:=congrArg Array.toList hab
     simp only [List.cons.injEq,and_true] at hab
     obtain ⟨rfl,rfl⟩:=hab
     have hcl:Xa f=Ed f:=by unfold Xa;simp [VZ]
     have hcc:YV (fs.take i) Zu ZH f=UK (X2 (fs.take i)) f:=by unfold YV;simp [VZ]
     rw [hcl,hcc]
     exact Qs (e00.trans e1) hw p3 p6 f tv cv hT1 hC1 o31 _ _ (e1.obj o6) ZjW Zel Ed true false ZaF rfl rfl _ (λ w v hw hf=>qn hw i hi Yo v f hf)
   · rw [VZ,k5,Option.getD_some] at hab
     injection hab with hab
     have hab:=congrArg Array.toList hab
     simp only [List.cons.injEq,and_true] at hab
     obtain ⟨rfl,rfl⟩:=hab
     have hcl:Xa f=Ee f:=by unfold Xa;simp [VZ]
     have hcc:YV (fs.take i) Zu ZH f=orC (YC 255 0 [f.low]) (YC 1048576 0 [f.high]):=by unfold YV;simp [VZ]
     rw [hcl,hcc]
     exact Qs (e00.trans e1) hw p3 p6 f tv cv hT1 hC1 o31 _ _ (e1.obj o6) ZjX ZjY Ee false false ZaG rfl rfl _ (λ w v hw hf=>O5 hw v f hf)
   · rw [VZ,k6,Option.getD_some] at hab
     injection hab with hab
     have hab:=congrArg Array.toList hab
     simp only [List.cons.injEq,and_true] at hab
     obtain ⟨rfl,rfl⟩:=hab
     have hcl:Xa f=Ef f:=by unfold Xa;simp [VZ]
     have hcc:YV (fs.take i) Zu ZH f=YC 1048576 2 [f.high]:=by unfold YV;simp [VZ]
     rw [hcl,hcc]
     exact Qs (e00.trans e1) hw p3 p6 f tv cv hT1 hC1 o31 _ _ (e1.obj o6) ZjZ Zj0 Ef false false ZaH rfl rfl _ (λ w v hw hf=>F5 hw v f hf)
   · rw [VZ,k7,Option.getD_some] at hab
     injection hab with hab
     have hab:=congrArg Array.toList hab
     simp only [List.cons.injEq,and_true] at hab
     obtain ⟨rfl,rfl⟩:=hab
     have hcl:Xa f=Eg f:=by unfold Xa;simp [VZ]
     have hcc:YV (fs.take i) Zu ZH f=orC (Yw (Yy Zu f.of).isSome 8) (UK (X2 (fs.take i)) f):=by unfold YV;simp [VZ]
     rw [hcl,hcc]
     exact Qs (e00.trans e1) hw p3 p6 f tv cv hT1 hC1 o31 _ _ (e1.obj o6) Zj1 Zj2 Eg true false ZaI rfl rfl _ (λ w v hw hf=>P5 hw i hi Yo v f hf)
   · rw [VZ,k8,Option.getD_some] at hab
     injection hab with hab
     have hab:=congrArg Array.toList hab
     simp only [List.cons.injEq,and_true] at hab
     obtain ⟨rfl,rfl⟩:=hab
     have hcl:Xa f=Eh f:=by unfold Xa;simp [VZ]
     have hcc:YV (fs.take i) Zu ZH f=Yw (Yy Zu f.of).isSome 8:=by unfold YV;simp [VZ]
     rw [hcl,hcc]
     exact Qs (e00.trans e1) hw p3 p6 f tv cv hT1 hC1 o31 _ _ (e1.obj o6) Zj3 Zj4 Eh false false ZaJ rfl rfl _ (λ w v hw hf=>Hm hw v f hf)
   · rw [VZ,k9,Option.getD_some] at hab
     injection hab with hab
     have hab:=congrArg Array.toList hab
     simp only [List.cons.injEq,and_true] at hab
     obtain ⟨rfl,rfl⟩:=hab
     have hcl:Xa f=Ei f:=by unfold Xa;simp [VZ]
     have hcc:YV (fs.take i) Zu ZH f=UD (fs.take i) Zu f:=by unfold YV;simp [VZ]
     rw [hcl,hcc]
     exact Qs (e00.trans e1) hw p3 p6 f tv cv hT1 hC1 o31 _ _ (e1.obj o6) Zj5 c232 Ei false true ZaK rfl rfl _ (λ w v hw hf=>NU hw i hi Yo v f hf)
   · rw [VZ,k10,Option.getD_some] at hab
     injection hab with hab
     have hab:=congrArg Array.toList hab
     simp only [List.cons.injEq,and_true] at hab
     obtain ⟨rfl,rfl⟩:=hab
     have hcl:Xa f=jH f:=by unfold Xa;simp [VZ]
     have hcc:YV (fs.take i) Zu ZH f=Yw (Mc f) 6:=by unfold YV;simp [VZ]
     rw [hcl,hcc]
     exact Qs (e00.trans e1) hw p3 p6 f tv cv hT1 hC1 o31 _ _ (e1.obj o6) c233 Zj6 jH false false Pq rfl rfl _ (λ w v hw hf=>Zbj hw v f hf)
   · rw [VZ,k11,Option.getD_some] at hab
     injection hab with hab
     have hab:=congrArg Array.toList hab
     simp only [List.cons.injEq,and_true] at hab
     obtain ⟨rfl,rfl⟩:=hab
     have hcl:Xa f=jI f:=by unfold Xa;simp [VZ]
     have hcc:YV (fs.take i) Zu ZH f=orC (YC 3 1 [f.check]) (Yw ((fs.take i).any λ o=>decide (o.name=f.fr)) 8):=by unfold YV;simp [VZ]
     rw [hcl,hcc]
     exact Qs (e00.trans e1) hw p3 p6 f tv cv hT1 hC1 o31 _ _ (e1.obj o6) Zj7 Zj8 jI false false Pr rfl rfl _ (λ w v hw hf=>N1 hw i hi Yo v f hf)
   · rw [VZ,k12,Option.getD_some] at hab
     injection hab with hab
     have hab:=congrArg Array.toList hab
     simp only [List.cons.injEq,and_true] at hab
     obtain ⟨rfl,rfl⟩:=hab
     have hcl:Xa f=jJ f:=by unfold Xa;simp [VZ]
     have hcc:YV (fs.take i) Zu ZH f=orC (YC 4294967295 0 [f.key]) (orC (Yw (T7 ZH f.of) 8) (UK (X2 (fs.take i)) f)):=by unfold YV;simp [VZ]
     rw [hcl,hcc]
     exact Qs (e00.trans e1) hw p3 p6 f tv cv hT1 hC1 o31 _ _ (e1.obj o6) Zj9 Zka jJ true false Ps rfl rfl _ (λ w v hw hf=>Zah hw i hi Yo v f hf)
 · have hd:decide (1≤f.kind∧f.kind≤12)=false:=by simpa using hk
   rw [hd]
   have hs:ok=false:=by rw [hok,hn _ hk];rfl
   subst hs
   refine ZS (YK h false 4 K7) (λ w1 e1 h0=>absurd h0 K7) (λ w1 e1 h0=>?_)
   exact Yi (e00.trans e1) rfl h0
end
section
variable {w0:Wd} {cb md ms:Nat} {Zu ZH:List (BAr×Vl)} {at_ fld:Int} {fs:List Zv}
def FX (h:Chk w0 cb md ms Zu ZH at_ fld fs) (i:Nat) (hi:fld=i) (Yo:i < fs.length) (v:Vl) (f:Zv) (hf:Z8 w0 v f) :
 Calls Pg 161 #[Qq5 cb,v] w0 (Ql w0 at_ fld (Ja (fs.take i) Zu ZH f)):=by
 obtain ⟨tv,cv,rfl,hT,hC,ht1,hc1⟩:=hf.op
 refine ZlG ?_;unfold n86
 refine Qqv ?_
 generalize hW:World.alloc w0 _=W
 have e0:Ext w0 W:=by rw [← hW];exact ee
 have o3:W.heap[w0.heap.size]?=some (.cells (Zw f tv cv).toArray 123 (0,0)):=by rw [← hW];exact Qqf
 clear hW
 refine zcr (UP _ f.name) λ w1 e1=>?_
 have e01:=e0.trans e1
 unfold Ja
 refine ZS (YK (h.ext e01) _ 1 K7) (λ w2 e2 h0=>?_) (λ w2 e2 h0=>?_)
 · rw [h0,Xf]
   have e02:=e01.trans e2
   have o32:=(e1.trans e2).obj o3
   refine ZB ?_
   simp (disch:=try exact DI) only [↓PR,QR,simprocAttr,↓ZdW,(Za o32).1]
   have eD:Ext w0 w2.drew:=e02.wdrew
   refine Zi (WW (h.ext eD) i hi Yo) ?_
   rintro bv w3 ⟨hB,e3⟩
   refine ⟨e3,?_⟩
   have hb1:=Zd.oneCell hB
   refine Qqv ?_
   refine zcr (xc w3 _ ⟨ByteArray.empty,fs.take i⟩ f.name ⟨bv,rfl,hB⟩) λ w4 e4=>?_
   refine ⟨e3.trans e4,?_⟩
   simp (disch:=try exact DI) only [↓PR,QR,simprocAttr,↓ZdV]
   have e04:=eD.trans (e3.trans e4)
   have e24:Ext w2 w4:=(Ext.refl w2).wdrew.trans (e3.trans e4)
   refine ZS (YK (h.ext e04) _ 2 K7) (λ w5 e5 h0=>?_) (λ w5 e5 h0=>?_)
   · rw [h0,Xf]
     have e05:=e04.trans e5
     have o35:=(e24.trans e5).obj o32
     clear e24 e04 e3 e4 hB eD e02 e01 e1 e2 o32
     refine ZB ?_
     simp (disch:=try exact DI) only [↓PR,QR,simprocAttr,↓ZdU,(Za o35).1]
     have eD:Ext w5 w5.drew:=(Ext.refl _).wdrew
     have fin5:∀ (w':Wd) (m p6 c:Nat) (L:List (Int×Vl×Nat)) (u0 u1:Vl),Ext w5.drew w'→XA w' m XE L c→DY L→w'.heap[p6]?=some (.cells #[u0,u1] 255 (0,0))→w5.heap.size≤p6 →
      Nh (Qq5 p6) (.map (some m)) (.int .i64 f.kind) (KM w5.drew m XE L c) (λ t5 t6 w=>ZU Pg 135 #[Qq5 cb,t5,.int .i64 4] (Zc (Ql w0 at_ fld (orC (Yw (decide (1≤f.kind∧f.kind≤12)) 4) (orC (Yw (decide (Xa f=qz f)) 5) (YV (fs.take i) Zu ZH f))))) w λ _ w=>HF (Qq5 cb) (Qq5 w0.heap.size) t6 (Ql w0 at_ fld (orC (Yw (decide (1≤f.kind∧f.kind≤12)) 4) (orC (Yw (decide (Xa f=qz f)) 5) (YV (fs.take i) Zu ZH f)))) w)
       (Ql w0 at_ fld (orC (Yw (decide (1≤f.kind∧f.kind≤12)) 4) (orC (Yw (decide (Xa f=qz f)) 5) (YV (fs.take i) Zu ZH f)))) w':=by
      intro w' m p6 c L u0 u1 e' hM hL o6 hp6
      haveI:Yk (KM w5.drew m XE L c):=⟨⟨w',e',hM⟩⟩
      unfold Nh
      rw [Vm underlying257 (QJ.int underlying117) Ir ⟨w',e',hM⟩]
      obtain ⟨a,b,hab,ha,hb⟩:∃ a b,(Sw.look L f.kind).getD (.agg #[.nilFunc,.nilFunc]) = .agg #[a,b]∧a.oneCell'=true∧b.oneCell'=true:=by
       obtain ⟨hn,k1,k2,k3,k4,k5,k6,k7,k8,k9,k10,k11,k12⟩:=hL
       by_cases hk:1≤f.kind∧f.kind≤12
       · have this:f.kind=1∨f.kind=2∨f.kind=3∨f.kind=4∨f.kind=5∨f.kind=6∨f.kind=7∨f.kind=8∨f.kind=9∨f.kind=10∨f.kind=11∨f.kind=12:=C1
         rcases this with h | h | h | h | h | h | h | h | h | h | h | h<;>simp only [h,k1,k2,k3,k4,k5,k6,k7,k8,k9,k10,k11,k12,Option.getD_some]<;>exact ⟨_,_,rfl,rfl,rfl⟩
       · rw [hn _ hk];exact ⟨_,_,rfl,rfl,rfl⟩
      rw [hab]
      refine Qqb (Za o6).1 (Za o6).2 ?_
      have e6:Ext w5.drew ((w'.setCell ⟨p6,0,none⟩ a).setCell ⟨p6,1,none⟩ b):=(e'.setCell (show w5.drew.heap.size≤(⟨p6,0,none⟩:Addr).block from hp6) _).setCell (show w5.drew.heap.size≤(⟨p6,1,none⟩:Addr).block from hp6) _
      refine ⟨⟨e6,(hM.setCell _ _).setCell _ _⟩,?_⟩
      have e06:=(e05.trans eD).trans e6
      have o6':=Zy (o:=1) (Zy (o:=0) o6 a) b
      exact ZaQ e06 (h.ext e06) i hi Yo _ p6 f tv cv (Z6.ext hT e06) (Yu.ext hC e06) ((eD.trans e6).obj o35) L hL a b _ hab rfl (by simpa using o6')
     refine ⟨?_,?_⟩
     · refine Zi (Dd _) ?_
       rintro _ w6 ⟨m,L,c,rfl,hm,hM,hL,e6⟩
       refine V6 e6 hM ?_
       have h9:=fin5 (w6.alloc (.cells #[.nilFunc,.nilFunc] 255)) m w6.heap.size c L _ _ (e6.alloc _) (hM.ext ((Ext.refl _).alloc _)) hL (Zt _ _ _) (by have:=e6.size;simpa using this)
       unfold Nh at h9
       unfold ZdT
       simp only [Ke]
       haveI:Yk (KM w5.drew m XE L c):=⟨⟨w6,e6,hM⟩⟩
       rw [Vm underlying257 (QJ.int underlying117) Ir ⟨w6,e6,hM⟩] at h9 ⊢
       refine Qqv ?_
       simp only [↓Sw.GENQ] at h9
       exact ⟨⟨e6.alloc _,hM.ext ((Ext.refl _).alloc _)⟩,h9⟩
     · refine ⟨(Ext.refl _).alloc _,?_⟩
       refine Zi (Dd _) ?_
       rintro _ w6 ⟨m,L,c,rfl,hm,hM,hL,e6⟩
       refine V6 (((Ext.refl _).alloc _).trans e6) hM ?_
       exact fin5 w6 m w5.heap.size c L _ _ (((Ext.refl _).alloc _).trans e6) hM hL (e6.obj (Zt w5.drew _ _)) (Nat.le_refl _)
   · rw [QB h0]
     exact Yi (e04.trans e5) rfl h0
 · rw [QB h0]
   exact Yi (e01.trans e2) rfl h0
end
def YH (f:Zv):List BAr:=if f.kind=7∨f.kind=8∨f.kind=12 then [f.of] else if f.kind=9 then f.cases.map (·.of) else []
def Y9 (l:List Zv):List BAr:=l.flatMap YH
abbrev YQ (s:BAr):List Vl:=[.string s]
def VP {w:Wd} {QP:PEn} {k:KV} {base:Nat} {v:Vl} {l:List BAr} (s:BAr) {b:Nat} (G4:ZM w base 9 1 YQ v l) (hc:w.cell? ⟨b,0,none⟩=some (.string s)) (VX:base≤w.heap.size) (hl:l.length≤1048576)
 (hk:∀ v' w',ZM w' base 9 1 YQ v' (l++[s])→w.grownBy w' v.ownBlock→k v' w') :
 opV Pg (Builtin.append_ #[94,94] 94 #[v,.slice (some ⟨b,0,none⟩) 1 1]) QP w k:=by
 have hby:=by9
 refine W8 (l':=[s]) underlying94 ty9 rfl K7 (λ _=>rfl) (λ x _ u hu=>by simp at hu;subst hu;rfl) G4 (λ j x hx=>?_) VX ?_ (by simp;omega) hk
 · cases j with
   | zero=>
    simp at hx;subst hx
    intro j v hv
    cases j with
    | zero=>simp at hv;subst hv;simpa using hc
    | succ j=>simp at hv
   | succ j=>simp at hx
 · simp only [List.length_cons,List.length_nil]
   exact Nat.le_trans (Nat.mul_le_mul (Nat.add_le_add_right hl 1) hby) K7
def Qh (w:Wd) (pb:Nat) (sv:Vl) (l:List BAr):Prop:=w.cell? ⟨pb,0,none⟩=some sv∧Zd w 1 zL sv l∧∀ A m c,sv = .slice (some A) m c→pb < A.block
def Qh.ext {w w':Wd} {pb:Nat} {sv:Vl} {l:List BAr} (h:Qh w pb sv l) (e:Ext w w'):Qh w' pb sv l:=⟨e.cell h.1,h.2.1.ext Gh e,h.2.2⟩
def qy {w0 w:Wd} {QP:PEn} {ku:WPr} {pb lo p:Nat} {sv:Vl} {l:List BAr} (s:BAr) {T T':TypeId} (hp:p=w.heap.size) (e:Ext w0 w) (h0:w0.heap.size≤pb) (hlo:pb < lo) (o3:w.heap[pb]?=some (.cells #[sv] T (0,0))) (hO:ZM w lo 9 1 YQ sv l) (hs:lo≤w.heap.size) (hl:l.length≤1048576)
 (hk:∀ w' sv',Ext w0 w'→w'.heap[pb]?=some (.cells #[sv'] T (0,0))→ZM w' lo 9 1 YQ sv' (l++[s])→lo≤w'.heap.size→ku w') :
 opV Pg (Builtin.append_ #[94,94] 94 #[sv,.slice (some ⟨p,0,none⟩) 1 1]) QP (w.alloc (.cells #[.string s] T')) (λ t w=>opU Pg (storeAt 94 (Qq5 pb) t) QP w ku):=by
 subst hp
 have l3:pb < w.heap.size:=(Qqj o3).1
 have o3':=((Ext.refl w).alloc (.cells #[.string s] T')).obj o3
 refine VP s (hO.ext ((Ext.refl w).alloc _)) (by rw [QN];rfl) (Nat.le_trans hs (by simp)) hl ?_
 intro v' w' hO' hg
 have Y7:some pb≠sv.ownBlock:=by
  intro h
  have:=hO.lt pb h.symm
  omega
 have o3w:w'.heap[pb]?=some (.cells #[sv] T (0,0)):=by rw [hg.block pb (by simp;omega) Y7];exact o3'
 have eg:Ext w0 w':=(e.alloc _).grown hg (λ k hk=>by have:=hO.lt k hk;omega)
 have hv:=(hO'.slice (E:=zL) (λ _=>rfl) (λ _ _=>rfl)).oneCell
 rw [DH ZbB hv ((Za o3w).1 0) ((Za o3w).2 0)]
 refine hk _ v' (eg.setCell h0 _) ?_ ((hO'.range.only (YA.setCell w' pb 0 v') (.inr (.inl hlo))).1) ?_
 · have:=Zy (o:=0) o3w v'
   simpa using this
 · have:=hg.size
   simp at this ⊢
   omega
def j4 (w0:Wd) (v:Vl) (m:Xr) (hm:Wo w0 v m) (hb:(Y9 m.fields).length≤1048576) :
 Ret Pg 162 #[v] w0 λ r w'=>∃ pb sv,r = .func (.func 198) #[] #[Qq5 pb]∧Qh w' pb sv (Y9 m.fields)∧w0.heap.size≤pb∧Ext w0 w':=by
 obtain ⟨fv,rfl,hF⟩:=hm
 obtain ⟨A,c,rfl,hlc,hcm,hlm,Xj⟩:=Zd.open hF
 refine Zly (R:=ZE _) ?_;unfold n79
 refine Qqv ?_
 generalize hW:World.alloc (World.alloc w0 _) _=W
 have e0:Ext w0 W:=by rw [← hW];exact ee
 have Vs:W.heap.size=w0.heap.size+1+1:=by rw [← hW];simp only [World.size_alloc]
 have o3:W.heap[w0.heap.size+1]?=some (.cells #[.slice none 0 0] 94 (0,0)):=by rw [← hW];exact Qqf
 clear hW
 refine ZL (λ a0 w=>∃ (k:Nat) , a0 = .int .i64 (k:Int)∧k≤m.fields.length∧Ext w0 w∧(∃ sv,w.heap[w0.heap.size+1]?=some (.cells #[sv] 94 (0,0))∧ZM w W.heap.size 9 1 YQ sv (Y9 (m.fields.take k))∧W.heap.size≤w.heap.size)) (λ a0 _=>m.fields.length - (intOf a0).toNat) ⟨0,rfl,Nat.zero_le _,ee,⟨_,o3,ZM.nil _ _ _ _ _,Nat.le_refl _⟩⟩ ?_
 rintro _ w ⟨k,rfl,hk,e,hI⟩
 have se:=e.size
 rcases ZY hk with ⟨x,hx,hd,Yo,ZT⟩ | ⟨hk,hd,ZT⟩
 · obtain ⟨sv,o3,hO,hsW⟩:=hI
   obtain ⟨b,o,cs,rfl,hl,hA,hE⟩:=Xj k x hx
   obtain ⟨tv,cv,rfl,hT,hC,ht1,hc1⟩:=hE.op
   have hpre:(Y9 (m.fields.take (k+1)))=Y9 (m.fields.take k)++YH x:=by unfold Y9;rw [Qy hx,List.flatMap_append];simp
   have hle:(Y9 (m.fields.take (k+1))).length≤1048576:=by
    refine Nat.le_trans ?_ hb
    have:m.fields=m.fields.take (k+1)++m.fields.drop (k+1):=(List.take_append_drop _ _).symm
    conv=>rhs;rw [this]
    unfold Y9
    rw [List.flatMap_append,List.length_append]
    omega
   rw [hpre,List.length_append] at hle
   have hsv:=(hO.slice (E:=zL) (λ _=>rfl) (λ _ _=>rfl)).oneCell
   simp (disch:=try exact DI) only [↓PR,QR,simprocAttr,↓jb,↓jc,↓jd,↓yH,↓GE,↓je,↓jf,ZT,hA.c15]
   generalize hW1:World.alloc w _=w1
   have e1:Ext w w1:=by rw [← hW1];exact ee
   have o5:w1.heap[w.heap.size]?=some (.cells (Zw x tv cv).toArray 123 (0,0)):=by rw [← hW1];exact Qqf
   clear hW1
   have s1:=e1.size
   have e01:=e.trans e1
   have o31:=e1.obj o3
   have hO1:=hO.ext e1
   have l5:w.heap.size < w1.heap.size:=(Qqj o5).1
   have l3:w0.heap.size+1 < w1.heap.size:=(Qqj o31).1
   by_cases hr:x.kind=7∨x.kind=8∨x.kind=12
   · have hrf:YH x=[x.of]:=by unfold YH;rw [if_pos hr]
     rw [hrf] at hpre hle
     have key:∀ b,b=true→yH (.pointer (some ⟨w0.heap.size+1,0,none⟩)) (Qq5 w.heap.size) (.int .i64 (k:Int)) (.int .i64 x.kind) (.bool b) (λ a0' w'=>(∃ k:Nat,a0'=Value.int IntKind.i64 (k:Int)∧k≤m.fields.length∧Ext w0 w'∧∃ sv,w'.heap[w0.heap.size+1]?=some (.cells #[sv] 94 (0,0))∧ZM w' W.heap.size 9 1 YQ sv (Y9 (m.fields.take k))∧W.heap.size≤w'.heap.size)∧m.fields.length - (intOf a0').toNat < m.fields.length - (intOf (Value.int IntKind.i64 (k:Int))).toNat)
      (ZE λ r w'=>∃ pb sv,r = .func (.func 198) #[] #[Qq5 pb]∧Qh w' pb sv (Y9 m.fields)∧w0.heap.size≤pb∧Ext w0 w') w1:=by
      rintro b rfl
      simp (disch:=try exact DI) only [↓PR,QR,simprocAttr,↓jb,↓jc,↓jd,↓yH,↓GE,↓je,↓jf,(Za o31).1,(Za o5).1]
      refine qy x.of rfl e01 C1 C1 o31 hO1 C1 (by simp at hle;omega) ?_
      intro w2 sv2 e2 o32 hO2 hs2
      rw [← hpre] at hO2
      refine Qqv ?_
      exact ⟨⟨k+1,rfl,by omega,ee,⟨sv2,o32,hO2,hs2⟩⟩,Yh (kd := .i64) Yo⟩
     simp only [World.size_alloc]
     rcases hr with h | h | h
     · rw [h] at key ⊢
       refine Qqv ?_
       exact key true rfl
     · rw [h] at key ⊢
       simp (disch:=try exact DI) only [↓PR,QR,simprocAttr,↓GE]
       exact key true rfl
     · rw [h] at key ⊢
       simp (disch:=try exact DI) only [↓PR,QR,simprocAttr,↓GE]
       exact key true rfl
   · have h7:(x.kind == 7)=false:=by simp;omega
     have h8:(x.kind == 8)=false:=by simp;omega
     have h12:(x.kind == 12)=false:=by simp;omega
     simp only [World.size_alloc]
     by_cases h9:x.kind=9
     · have h9':(x.kind == 9)=true:=by simp [h9]
       have hrf:YH x=x.cases.map (·.of):=by unfold YH;rw [if_neg hr,if_pos h9]
       rw [hrf] at hpre hle
       obtain ⟨A',c',rfl,hlc',hcm',hlm',hel'⟩:=Zd.open hC
       simp (disch:=try exact DI) only [↓PR,QR,simprocAttr,↓jb,↓jc,↓jd,↓yH,↓GE,↓je,↓jf,h7,h8,h12,h9',(Za o5).1]
       refine ZL (λ a0 wa=>∃ (ka:Nat) , a0 = .int .i64 (ka:Int)∧ka≤x.cases.length∧Ext w0 wa∧(∃ sv,wa.heap[w0.heap.size+1]?=some (.cells #[sv] 94 (0,0))∧ZM wa W.heap.size 9 1 YQ sv (Y9 (m.fields.take k)++(x.cases.take ka).map (·.of))∧W.heap.size≤wa.heap.size)) (λ a0 _=>x.cases.length - (intOf a0).toNat) ⟨0,rfl,Nat.zero_le _,ee,⟨sv,o31,by simpa using hO1,by omega⟩⟩ ?_
       rintro _ wa ⟨ka,rfl,hka,ea,hIa⟩
       have sea:=ea.size
       rcases ZY hka with ⟨xa,hxa,hda,hlta,PJ⟩ | ⟨hka,hda,PJ⟩
       · obtain ⟨sva,oa,hOa,hsa⟩:=hIa
         obtain ⟨b',o',cs',rfl,_,hA',rfl⟩:=hel' ka xa hxa
         have la:w0.heap.size+1 < wa.heap.size:=(Qqj oa).1
         have oa':=((Ext.refl wa).alloc (.cells #[.int .i64 xa.low,.int .i64 xa.high,.string xa.of] 213)).obj oa
         have hla:(x.cases.take ka).length≤x.cases.length:=by rw [List.length_take];omega
         simp (disch:=try exact DI) only [↓PR,QR,simprocAttr,↓jb,↓jc,↓jd,↓yH,↓GE,↓je,↓jf,PJ,hA'.c3,(Za oa').1,(Za oa).1]
         refine qy xa.of (by simp only [World.size_alloc]) (ea.alloc _) C1 C1 oa' (hOa.ext ((Ext.refl wa).alloc _)) (by simp;omega) (by simp at hle hla ⊢;omega) ?_
         intro w2 sv2 e2 o32 hO2 hs2
         refine Qqv ?_
         have hO3:ZM w2 W.heap.size 9 1 YQ sv2 (Y9 (m.fields.take k)++(x.cases.take (ka+1)).map (·.of)):=by
          rw [Qy hxa,List.map_append,← List.append_assoc];exact hO2
         exact ⟨⟨ka+1,rfl,by omega,ee,⟨sv2,o32,hO3,hs2⟩⟩,Yh (kd := .i64) hlta⟩
       · subst hka
         obtain ⟨sva,oa,hOa,hsa⟩:=hIa
         rw [List.take_length,← hpre] at hOa
         simp (disch:=try exact DI) only [↓PR,QR,simprocAttr,↓jb,↓jc,↓jd,↓yH,↓GE,↓je,↓jf,PJ]
         exact ⟨⟨k+1,rfl,by omega,ee,⟨sva,oa,hOa,hsa⟩⟩,Yh (kd := .i64) Yo⟩
     · have h9':(x.kind == 9)=false:=by simp;omega
       have hrf:YH x=[]:=by unfold YH;rw [if_neg hr,if_neg h9]
       rw [hrf,List.append_nil] at hpre
       rw [← hpre] at hO1
       simp (disch:=try exact DI) only [↓PR,QR,simprocAttr,↓jb,↓jc,↓jd,↓yH,↓GE,↓je,↓jf,h7,h8,h12,h9',(Za o5).1]
       exact ⟨⟨k+1,rfl,by omega,ee,⟨sv,o31,hO1,by omega⟩⟩,Yh (kd := .i64) Yo⟩
 · subst hk
   obtain ⟨sv,o3,hO,hsW⟩:=hI
   rw [List.take_length] at hO
   simp (disch:=try exact DI) only [↓PR,QR,simprocAttr,↓jb,↓jc,↓jd,↓yH,↓GE,↓je,↓jf,ZT]
   have hS:=hO.slice (E:=zL) (λ _=>rfl) (λ _ _=>rfl)
   exact ⟨_,sv,rfl,⟨(Za o3).1 0,hS,λ A m c e=>by subst e;have:=hO.lt A.block rfl;omega⟩,by omega,e⟩
def xd (w0:Wd) (v:Vl) (l:List BAr) (s:BAr) (hs:Zd w0 1 zL v l) :
 Ret Pg 167 #[v,.string s] w0 λ r w'=>r = .int .i64 (idx (λ y=>decide (s=y)) l)∧Ext w0 w':=by
 obtain ⟨A,c,rfl,hlc,hcm,hlm,Xj⟩:=Zd.open hs
 refine ZhX (R:=ZE _) ?_;unfold ZhW
 refine Qqv ?_
 refine ZL (λ a0 w=>∃ (k:Nat) , a0 = .int .i64 (k:Int)∧k≤l.length∧Ext w0 w∧∀ (j:Nat) y,j < k→l[j]?=some y→decide (s=y)=false) (λ a0 _=>l.length - (intOf a0).toNat) ⟨0,rfl,Nat.zero_le _,ee,λ j y h=>by omega⟩ ?_
 rintro _ w ⟨k,rfl,hk,e,hI⟩
 have se:=e.size
 rcases ZY hk with ⟨x,hx,hd,Yo,ZT⟩ | ⟨hk,hd,ZT⟩
 · obtain ⟨b,o,cs,rfl,hl,hA,rfl⟩:=Xj k x hx
   simp (disch:=try exact DI) only [↓PR,QR,simprocAttr,ZT,hA.c1,↓Lc]
   cases hp:decide (s=x) with
   | true=>
    refine Qqv ?_
    exact ⟨by rw [We hx hp hI],e⟩
   | false=>
    refine Qqv ?_
    exact ⟨⟨k+1,rfl,by omega,ee,before_succ hI hx hp⟩,Yh (kd := .i64) Yo⟩
 · subst hk
   simp (disch:=try exact DI) only [↓PR,QR,simprocAttr,ZT,↓Lc]
   exact ⟨by rw [Wf λ j y hy=>hI j y (Qqx hy).1 hy],e⟩
def Q8 (w0:Wd) (v:Vl) (l:List BAr) (s:BAr) (hs:Zd w0 1 zL v l) :
 Ret Pg 142 #[v,.string s] w0 λ r w'=>r = .bool (l.any λ y=>decide (s=y))∧Ext w0 w':=by
 refine Zhy (R:=ZE _) ?_;unfold Zhx
 refine Zi (xd _ _ l s hs) ?_
 rintro r w' ⟨rfl,e⟩
 refine Qqw ?_
 exact ⟨by rw [VG],e⟩
def Z5:List BAr→List BAr→List BAr
 | _,[]=>[]
 | seen,s::l=>if seen.any (λ y=>decide (s=y)) then Z5 (seen++[s]) l else s::Z5 (seen++[s]) l
def OX (l:List BAr) (k:Nat):Vl:=match l[k]? with
 | some s => .string s
 | none=>undef
def Iy (pb:Nat) (sv:Vl) (l:List BAr):MP Pg 198 #[Qq5 pb] (Z5 [] l).length (OX (Z5 [] l)) (λ w=>Qh w pb sv l):=by
 intro yv J Jx Jp w hFP hJe hJx XY h0
 obtain ⟨hc,hT,_⟩:=hFP 0 w h0
 obtain ⟨A,c,rfl,hlc,hcm,hlm,Xj⟩:=Zd.open hT
 refine Zh7 (t0:=yv) (t1 := Qq5 pb) ?_
 unfold n80
 refine Qqh hc ?_
 refine ZL (λ i w=>∃ k j:Nat,i = .int .i64 k∧k≤l.length∧J j w∧j≤(Z5 [] l).length∧(Z5 [] l).drop j=Z5 (l.take k) (l.drop k)) (λ i _=>l.length - (intOf i).toNat) ⟨0,0,rfl,by omega,h0,by omega,rfl⟩ ?_
 rintro i w' ⟨k,j,rfl,hk,hJ,hj,hD⟩
 rcases ZY hk with ⟨x,hx,hd,Yo,ZT⟩ | ⟨hk,hd,ZT⟩
 · obtain ⟨hc',hT',_⟩:=hFP j w' hJ
   obtain ⟨A',c',hv,_,hcm',_,hel'⟩:=Zd.open hT'
   injection hv with hv _ hv'
   subst hv hv'
   obtain ⟨b,o,cs,rfl,hl,hA,rfl⟩:=hel' k x hx
   have er:=Ext.refl w'
   rw [hd] at hD
   simp only [Z5] at hD
   simp (disch:=try exact DI) only [↓PR,QR,simprocAttr,↓U0,↓U1,ZT,hA.c1,hc']
   rw [Uf underlying94 ty9 b o l.length c .i64 k C1]
   have YJ:(l.take k).length=k:=by rw [List.length_take];omega
   have hpre:Zd w' 1 zL (.slice (some ⟨b,o,none⟩) k c) (l.take k):=by
    refine ⟨_,c,by rw [YJ],by rw [YJ];omega,hcm,λ _=>⟨b,o,rfl,λ i y hy=>?_⟩⟩
    rw [List.getElem?_take] at hy
    split at hy
    · obtain ⟨b',o',cs,hA',h1,h2,h3⟩:=hel' i y hy
      injection hA' with hA'
      injection hA' with h5 h6
      subst h5 h6
      exact ⟨cs,h1,h2,h3⟩
    · cases hy
   refine zcr (Q8 w' _ _ x hpre) λ w2 e2=>?_
   have hJ2:=hJe j w' w2 hJ e2
   have htk:l.take (k+1)=l.take k++[x]:=Qy hx
   cases hany:(l.take k).any (λ y=>decide (x=y)) with
   | true=>
    rw [hany,if_pos rfl,← htk] at hD
    simp (disch:=try exact DI) only [↓PR,QR,simprocAttr,↓U0,↓U1]
    exact ⟨⟨k+1,j,rfl,by omega,hJ2,hj,hD⟩,Yh (kd := .i64) Yo⟩
   | false=>
    rw [hany,if_neg (by simp),← htk] at hD
    have Oc:j < (Z5 [] l).length:=by
     have:=congrArg List.length hD
     simp at this
     omega
    have hxj:(Z5 [] l)[j]?=some x:=by
     have:=congrArg (λ l=>l[0]?) hD
     simpa using this
    have hD2:(Z5 [] l).drop (j+1)=Z5 (l.take (k+1)) (l.drop (k+1)):=by
     rw [← List.tail_drop,hD];rfl
    have hs:=XY j Oc w2 hJ2
    rw [show OX (Z5 [] l) j = .string x by unfold OX;rw [hxj]] at hs
    simp (disch:=try exact DI) only [↓PR,QR,simprocAttr,↓U0,↓U1]
    refine Kc hs (λ ch w h=>h) ?_
    rintro v w3 (⟨rfl,h2⟩ | ⟨rfl,h2⟩)
    · simp (disch:=try exact DI) only [↓PR,QR,simprocAttr,↓U0,↓U1]
      exact ⟨⟨k+1,j+1,rfl,by omega,h2,Oc,hD2⟩,Yh (kd := .i64) Yo⟩
    · simp (disch:=try exact DI) only [↓PR,QR,simprocAttr,↓U0,↓U1]
      exact .inr h2
 · subst hk
   simp (disch:=try exact DI) only [↓PR,QR,simprocAttr,↓U0,↓U1,ZT]
   rw [hd] at hD
   have Oc:j=(Z5 [] l).length:=by
    have:=congrArg List.length hD
    simp [Z5] at this
    omega
   rw [← Oc]
   exact .inl hJ
end Go.Proofs.YtgalpdihjbinjaaGreatDoor
namespace Go.Sw
open Go.RowKit (Below)
section
variable {P:Program} {QP:PEn} {w:Wd}
def LQ {α:Type} {t ty T n m:Nat} {z:Vl} {agg:Bool} {enc:α→List Vl} {v:Vl} {l l':List α} {base:Nat} {k:KV}
 (ht:P.underlying t=some (.slice T)) (hT:ZF P T agg n m z) (hz:z.cells.size=n) (h0:0 < n) (hn:∀ x,(enc x).length=n) (h1:∀ x,x∈l'→∀ u∈enc x,u.oneCell'=true)
 (G4:ZM w base T n enc v l) {b o c:Nat} (hc:∀ j x,l'[j]?=some x→Yr w b (o+j*n) (enc x)) (VX:base≤w.heap.size) (hl':0 < l'.length) (hm:(l.length+l'.length)*m≤140737488355328) (hb:l.length+l'.length≤140737488355328)
 (hk:∀ g cap w',ZM w' base T n enc (.slice (some ⟨g,0,none⟩) (l.length+l'.length) cap) (l++l')→w.grownBy w' v.ownBlock→(v.ownBlock=some g∨g=w.heap.size)→g < w'.heap.size→k (.slice (some ⟨g,0,none⟩) (l.length+l'.length) cap) w') :
 opV P (Builtin.append_ #[t,t] ty #[v,.slice (some ⟨b,o,none⟩) l'.length c]) QP w k:=by
 obtain ⟨⟨i,hi,hs,hby,hzz⟩,_⟩:=hT
 have hfl:(l'.flatMap enc).length=l'.length*n:=by
  clear hm hb hc h1 hk hl'
  induction l' with
  | nil=>simp
  | cons a l ih=>rw [List.flatMap_cons,List.length_append,hn,ih,List.length_cons,Nat.add_mul];omega
 have hcells:∀ j u,(l'.flatMap enc)[j]?=some u→w.cell? ((⟨b,o,none⟩:Addr).add j)=some u:=by
  intro j u hu
  have hj:j < l'.length*n:=by have:=(Qqx hu).1;rwa [hfl] at this
  have hq:j / n < l'.length:=Nat.div_lt_of_lt_mul (by rw [Nat.mul_comm];exact hj)
  obtain ⟨x,hx⟩:=getElem?_lt hq
  have hjn:j % n < (enc x).length:=by rw [hn];exact Nat.mod_lt _ h0
  have hdm:j / n*n+j % n=j:=by rw [Nat.mul_comm];exact Nat.div_add_mod j n
  have hg:=Wv hn l' (j / n) x (j % n) _ hx (List.getElem?_eq_getElem hjn)
  rw [hdm,hu] at hg
  injection hg with hg
  rw [Addr.add_lit]
  have:=hc _ _ hx (j % n) _ (List.getElem?_eq_getElem hjn)
  rw [hg,← this]
  congr 2;omega
 obtain ⟨g,cap,w',hr,ho,hg,hgl,Yo⟩:=run_append_lies (P:=P) (w:=w) t ty base T i z n m ht hi hzz hs hby hz h0 v l.length (l.flatMap enc) G4 ⟨b,o,none⟩ l'.length c (l'.flatMap enc) hfl hcells
  (by intro u hu;obtain ⟨x,hx,hux⟩:=List.mem_flatMap.1 hu;exact h1 x hx u hux) hl' (by simp only [maxLen];omega) hm VX _ rfl
 rw [ZV hr]
 refine hk g cap w' ?_ hg hgl Yo
 unfold ZM
 rw [List.flatMap_append,List.length_append];exact ho
end
def ZM.grown {α:Type} {w w':Wd} {lo n:Nat} {T:TypeId} {enc:α→List Vl} {v:Vl} {l:List α} {row:Option Nat} (h:ZM w lo T n enc v l) (hg:w.grownBy w' row) (Y7:∀ b,v.ownBlock=some b→row≠some b):ZM w' lo T n enc v l:=by
 obtain ⟨h1,h2⟩:=h
 refine ⟨h1,?_⟩
 rcases h2 with h2 | ⟨g,cap,cur,hv,hb,hc,h3⟩
 · exact .inl h2
 · refine .inr ⟨g,cap,cur,hv,hb,?_,h3⟩
   rw [hg.block g (Qqj hc).1 (λ e=>Y7 g (by rw [hv];rfl) e.symm)]
   exact hc
end Go.Sw
namespace Go.Proofs.YtgalpdihjbinjaaGreatDoor
open Sw
open Go.RowKit (intOf Below)
def xx:∀ (l seen:List BAr) (s:BAr),s∈Z5 seen l↔s∈l∧s ∉ seen
 | [],seen,s=>by simp [Z5]
 | a::l,seen,s=>by
  simp only [Z5]
  by_cases h:(seen.any λ y=>decide (a=y))=true
  · rw [if_pos h,xx l]
    have ha:a∈seen:=by obtain ⟨y,h1,h2⟩:=List.any_eq_true.1 h;simp at h2;subst h2;exact h1
    simp only [List.mem_append,List.mem_singleton,List.mem_cons,not_or]
    constructor
    · rintro ⟨h1,h2,h3⟩;exact ⟨.inr h1,h2⟩
    · rintro ⟨h1 | h1,h2⟩
      · subst h1;exact absurd ha h2
      · exact ⟨h1,h2,⟨λ (e:s=a)=>h2 (e ▸ ha),by simp⟩⟩
  · rw [if_neg h]
    have ha:a ∉ seen:=λ h2=>h (List.any_eq_true.2 ⟨a,h2,by simp⟩)
    simp only [List.mem_cons,xx l,List.mem_append,List.mem_singleton,not_or]
    by_cases e:s=a
    · subst e;simp [ha]
    · simp [e]
abbrev VO (w:Wd) (base:Nat) (v:Vl) (l:List BAr):Prop:=ZM w base 9 1 YQ v l
def FK {w:Wd} {QP:PEn} {k:KV} {base:Nat} {v:Vl} {l:List BAr} (s:BAr) {p:Nat} (G4:VO w base v l) (hp:w.heap[p]?=some (.cells #[.string s] 9 (0,0))) (VX:base≤w.heap.size) (hl:l.length≤1048576)
 (hk:∀ v' w',VO w' base v' (l++[s])→w.grownBy w' v.ownBlock→(∀ b,v'.ownBlock=some b→v.ownBlock=some b∨b=w.heap.size)→k v' w') :
 opV Pg (Builtin.append_ #[94,94] 94 #[v,.slice (some ⟨p,0,none⟩) 1 1]) QP w k:=by
 have hby:=by9
 refine LQ (l':=[s]) underlying94 ty9 rfl K7 (λ _=>rfl) (λ x _ u hu=>by simp at hu;subst hu;rfl) G4 (λ j x hx=>?_) VX (Nat.zero_lt_one) ?_ (by simp;omega) ?_
 · cases j with
   | zero=>
    simp at hx;subst hx
    intro j v hv
    rw [(Za hp).1]
    simpa using hv
   | succ j=>simp at hx
 · simp only [List.length_cons,List.length_nil]
   exact Nat.le_trans (Nat.mul_le_mul (Nat.add_le_add_right hl 1) hby) K7
 · intro g cap w' h1 h2 h3 h4
   refine hk _ w' h1 h2 (λ b hb=>?_)
   simp only [Value.ownBlock,Option.some.injEq] at hb
   subst hb
   exact h3
def Hp c d e f g b (a:WPr) (Qu:KV) (R:RT) w:=
 I0 43 g a λ h=>
 I0 74 e a λ i=>
 I0 74 f a λ j=>
 J0 60 d 2 a λ k=>
 I0 58 k a λ l=>
 qV Pg a (sliceAt 58 l none (some b) none) λ m=>
 C0 77 #[c,h,i,j,m] R w λ o w=>
 a w∧(
 B0 .add 3 true b (QqQ 1) R w λ n w=>
 Qu n w)
def M6 a b c d (Bv:KV) (R:RT) w:=
 Zx c (.bool true) d λ e=>
 C0 33 #[a,e,(QqQ 10)] R w λ g w=>
 B0 .add 3 true b (QqQ 1) R w λ f w=>
 Bv f w
def Hq d e f b (Bv:KV) R w:=
 Zp (λ (a:Vl) (w:Wd)=>
 M6 d f b a Bv R w) λ c=>
 Zm b false (
 L0 123 e R w λ g w=>
 C0 68 #[g] R w λ h w=>
 B0 .eql 124 true h (QqQ 0) R w λ a w=>
 c a w) (
 c undef w)
def Hr c d e b (Bv:KV) R w:=
 X0 72 e b R w λ f w=>
 L0 123 f R w λ g w=>
 opV Pg (alloc 123 true (.tuple #[])) (Zc R) w λ a w=>
 S0 123 a g R w λ w=>
 F0 60 d 2 R w λ h w=>
 L0 58 h R w λ i w=>
 opV Pg (makeFunc (.func 79) #[] #[a]) (Zc R) w λ j w=>
 C0 78 #[i,j] R w λ k w=>
 Hq c a b k Bv R w
def Dh a d e R w:=
 opN Pg (Y0 a) (Zc R) w λ f w=>
 F0 81 f 4 R w λ g w=>
 opU Pg (storeAt 3 g (.int .i64 (-1))) (Zc R) w λ w=>
 F0 74 e 1 R w λ h w=>
 L0 72 h R w λ b w=>
 G0 72 3 b R w λ i w=>
 YW (λ c w Bv=>
 B0 .lss 3 false c i R w λ j w=>
 Zr j (
 Hr a d b c Bv R w) (
 R (.returned (.tuple #[])) w)) (QqQ 0) w
def Hs b d e f g a (Qu:KV) R w:=
 X0 58 g a R w λ h w=>
 L0 43 h R w λ i w=>
 opV Pg (alloc 43 true (.tuple #[])) (Zc R) w λ c w=>
 S0 43 c i R w λ w=>
 opN Pg (Y0 b) (Zc R) w λ j w=>
 F0 81 j 4 R w λ k w=>
 S0 3 k a R w λ w=>
 Z4 w λ l w=>
 Hp b d e f c a l Qu R w
def Di b a f c R w:=
 F0 60 a 2 R w λ g w=>
 L0 58 g R w λ d w=>
 G0 58 3 d R w λ h w=>
 YW (λ e w Qu=>
 B0 .lss 3 false e h R w λ i w=>
 Zr i (
 Hs b a f c d e Qu R w) (
 Dh b a c R w)) (QqQ 0) w
def Ht a d e f b (c:WPr) R w:=
 qV Pg c (extract b 0) λ g=>
 qV Pg c (extract b 1) λ l=>
 opN Pg (Y0 a) (Zc R) w λ h w=>
 F0 81 h 3 R w λ i w=>
 L0 3 i R w λ j w=>
 B0 .eql 3 false g j R w λ k w=>
 C0 33 #[a,k,(QqQ 4)] R w λ m w=>
 Di a d e f R w
def Hu b c d e (a:WPr) (R:RT) w:=
 qN Pg a (Y0 b) λ f=>
 J0 81 f 0 a λ g=>
 I0 24 g a λ h=>
 J0 60 c 0 a λ i=>
 I0 9 i a λ j=>
 C0 20 #[h,j] R w λ k w=>
 a w∧(
 Ht b c d e k a R w)
def xO a d e b f g (R:RT) w:=
 Zp (λ (h:Vl) (w:Wd)=>
 Zx b h (.bool false) λ i=>
 C0 33 #[a,i,(QqQ 3)] R w λ k w=>
 Z4 w λ j w=>
 Hu a d e f j R w) λ c=>
 Zm b true (
 c g w) (
 c undef w)
def AZ b (a:WPr) (d:KW) R w:=
 qV Pg a (extract b 0) λ e=>
 qV Pg a (extract b 1) λ f=>
 opV Pg (alloc 74 true (.tuple #[])) (Zc R) w λ c w=>
 a w∧(
 S0 74 c e R w λ w=>
 a w∧(
 d c f w))
def A3 b c (a:WPr) (d:KW) R w:=
 a w∧(
 qV Pg a (extract c 0) λ e=>
 qV Pg a (extract c 1) λ f=>
 S0 74 b e R w λ w=>
 a w∧(
 d b f w))
def xP d e i j (a:WPr) R w:=
 qN Pg a (Y0 d) λ k=>
 J0 81 k 2 a λ l=>
 I0 27 l a λ f=>
 J0 60 e 1 a λ m=>
 I0 9 m a λ g=>
 Zp (λ (b:Vl) (n:Vl) (w:Wd)=>
 xO d e i j b n R w) λ h=>
 (
 C0 76 #[f,g] R w λ c w=>
 a w∧(
 AZ c a h R w))∧(
 opV Pg (alloc 74 true (.tuple #[])) (Zc R) w λ b w=>
 a w∧(
 C0 76 #[f,g] R w λ c w=>
 A3 b c a h R w))
def A4 b (a:WPr) (d:KW) R w:=
 qV Pg a (extract b 0) λ e=>
 qV Pg a (extract b 1) λ f=>
 opV Pg (alloc 74 true (.tuple #[])) (Zc R) w λ c w=>
 a w∧(
 S0 74 c e R w λ w=>
 a w∧(
 d c f w))
def A5 b c (a:WPr) (d:KW) R w:=
 a w∧(
 qV Pg a (extract c 0) λ e=>
 qV Pg a (extract c 1) λ f=>
 S0 74 b e R w λ w=>
 a w∧(
 d b f w))
def A6 d e (a:WPr) R w:=
 qN Pg a (Y0 d) λ i=>
 J0 81 i 1 a λ j=>
 I0 27 j a λ f=>
 J0 60 e 0 a λ k=>
 I0 9 k a λ g=>
 Zp (λ (b:Vl) (l:Vl) (w:Wd)=>
 Z4 w λ m w=>
 xP d e b l m R w) λ h=>
 (
 C0 76 #[f,g] R w λ c w=>
 a w∧(
 A4 c a h R w))∧(
 opV Pg (alloc 74 true (.tuple #[])) (Zc R) w λ b w=>
 a w∧(
 C0 76 #[f,g] R w λ c w=>
 A5 b c a h R w))
def n27 a b R w:=
 opV Pg (box 60 b) (Zc R) w λ c w=>
 Z4 w λ d w=>
 A6 a c d R w
def ZkJ:QqX2 36 n27:=λ h=>by
 refine yD func36 ?_
 refine zs<|zr<|yv h λ h=>zn<|zk<|zs<|yh [4,5,15,16,17,18,19,20,21,22,23,24] h λ C hC h=>yw 0 hC ?_
 refine yn 1 hC h λ h=>?_
 refine ye 2 hC h λ h=>?_
 refine ye 3 hC h λ h=>?_
 refine ye 4 hC h λ h=>?_
 refine ye 5 hC h λ h=>?_
 refine X1 h (λ K2 hK h=>?_)
 refine Qx [4,5,15,22,23,24] (λ ρ w=>K2 (ρ 4) (ρ 5) w) (λ T hT=>?_) (λ σ w h=>?_)
 · obtain ⟨h0,h1⟩:=h
   refine Y5 6 10 rfl rfl K5 (λ _ _=>rfl) (λ _ _=>rfl) ?_ ?_
   · have h:=h0
     refine yc h c76 λ h=>zn ?_
     obtain ⟨hC,h⟩:=h
     refine ⟨_,λ _ h=>h,hC,?_⟩
     refine yw 7 hC ?_
     refine ye 8 hC h λ h=>?_
     refine ye 9 hC h λ h=>?_
     refine yo 10 ?_
     refine yv h λ h=>zn ?_
     obtain ⟨hC,h⟩:=h
     refine ⟨hC,?_⟩
     refine yo 11 ?_
     refine yu h λ h=>zn ?_
     obtain ⟨hC,h⟩:=h
     refine ⟨hC,?_⟩
     refine yw 12 hC ?_
     refine yz ?_
     exact zt hT h
   have h:=h1
   refine yv h λ h=>zn ?_
   obtain ⟨hC,h⟩:=h
   refine ⟨_,λ _ h=>h,hC,?_⟩
   refine yo 6 ?_
   refine yc h c76 λ h=>zn ?_
   obtain ⟨hC,h⟩:=h
   refine ⟨hC,?_⟩
   refine yw 7 hC ?_
   refine ye 8 hC h λ h=>?_
   refine ye 9 hC h λ h=>?_
   refine yo 11 ?_
   refine yu h λ h=>zn ?_
   obtain ⟨hC,h⟩:=h
   refine ⟨hC,?_⟩
   refine yw 12 hC ?_
   refine yz ?_
   exact zt hT h
 subst hK
 refine zk<|zs<|yh [6,7,25,26,27,28,29,30,31,32,33,34] h λ C hC h=>yw 0 hC ?_
 refine yn 1 hC h λ h=>?_
 refine ye 2 hC h λ h=>?_
 refine ye 3 hC h λ h=>?_
 refine ye 4 hC h λ h=>?_
 refine ye 5 hC h λ h=>?_
 refine X1 h (λ K4 hK h=>?_)
 refine Qx [6,7,25,32,33,34] (λ ρ w=>K4 (ρ 6) (ρ 7) w) (λ T hT=>?_) (λ σ w h=>?_)
 · obtain ⟨h0,h1⟩:=h
   refine Y5 6 10 rfl rfl K5 (λ _ _=>rfl) (λ _ _=>rfl) ?_ ?_
   · have h:=h0
     refine yc h c76 λ h=>zn ?_
     obtain ⟨hC,h⟩:=h
     refine ⟨_,λ _ h=>h,hC,?_⟩
     refine yw 7 hC ?_
     refine ye 8 hC h λ h=>?_
     refine ye 9 hC h λ h=>?_
     refine yo 10 ?_
     refine yv h λ h=>zn ?_
     obtain ⟨hC,h⟩:=h
     refine ⟨hC,?_⟩
     refine yo 11 ?_
     refine yu h λ h=>zn ?_
     obtain ⟨hC,h⟩:=h
     refine ⟨hC,?_⟩
     refine yw 12 hC ?_
     refine yz ?_
     exact zt hT h
   have h:=h1
   refine yv h λ h=>zn ?_
   obtain ⟨hC,h⟩:=h
   refine ⟨_,λ _ h=>h,hC,?_⟩
   refine yo 6 ?_
   refine yc h c76 λ h=>zn ?_
   obtain ⟨hC,h⟩:=h
   refine ⟨hC,?_⟩
   refine yw 7 hC ?_
   refine ye 8 hC h λ h=>?_
   refine ye 9 hC h λ h=>?_
   refine yo 11 ?_
   refine yu h λ h=>zn ?_
   obtain ⟨hC,h⟩:=h
   refine ⟨hC,?_⟩
   refine yw 12 hC ?_
   refine yz ?_
   exact zt hT h
 subst hK
 refine zk<|zs<|Zq<|yG 3<|zm<|zm<|zm<|zn<|yg1 1 2 true [38] 38 h (λ _ T hT h=>?_) λ σ w h=>?_
 · refine zm<|zn ?_
   exact zt hT h
 refine yG 2<|yp h λ h=>yc h c33 λ h=>zn<|ZG<|zk<|zs<|yh [8,9,41,42,43,44,45,46,47,48,49,50] h λ C hC h=>yw 0 hC ?_
 refine yn 1 hC h λ h=>?_
 refine ye 2 hC h λ h=>?_
 refine ye 3 hC h λ h=>?_
 refine ye 4 hC h λ h=>?_
 refine ye 5 hC h λ h=>?_
 refine yo 6 ?_
 refine yc h c20 λ h=>zn ?_
 obtain ⟨hC,h⟩:=h
 refine ⟨hC,?_⟩
 refine yw 7 hC ?_
 refine ye 8 hC h λ h=>?_
 refine ye 9 hC h λ h=>?_
 refine yw 10 hC ?_
 refine yw 11 hC ?_
 refine yz<|zk<|zs<|zr<|zm<|zm<|zm<|yN h λ h=>yv h λ h=>yv h λ h=>yb h λ h=>yc h c33 λ h=>zn<|zk<|zs ?_
 refine zs<|zr<|yv h λ h=>yv h λ h=>yx h λ h=>zm<|zn<|zk<|Zl<|yl1 [10,11,62,63,64,65,66,67,68,69,70,71,72,73,74,75,76,77,78,79,80] 62 h λ σ w next h=>zs<|zr<|yb h λ h=>zn<|zk ?_
 refine zs<|yC h (λ h=>?_) λ h=>?_
 · refine Zk<|zk<|zs<|Zl<|zs<|zr<|zm<|yv h λ h=>yv h λ h=>yv h λ h=>zm<|yu h λ h=>zn<|zk<|zs ?_
   refine zr<|zm<|zm<|yN h λ h=>yv h λ h=>yu h λ h=>zn<|zk<|yh [71,72,73,74,75,76,77,78,79] h λ C hC h=>yw 0 hC ?_
   refine ye 1 hC h λ h=>?_
   refine ye 2 hC h λ h=>?_
   refine ye 3 hC h λ h=>?_
   refine ye 4 hC h λ h=>?_
   refine ye 5 hC h λ h=>?_
   refine yw 6 hC ?_
   refine ye 7 hC h λ h=>?_
   refine yo 8 ?_
   refine yc h c77 λ h=>zn ?_
   obtain ⟨hC,h⟩:=h
   refine ⟨hC,?_⟩
   exact yz<|Zf<|zk<|zr<|yb h λ h=>zm<|zn<|zk<|⟨rfl,h⟩
 refine ZN<|Ze<|Ze<|Zs<|zk<|zs<|zr<|zm<|yN h λ h=>yv h λ h=>yu h λ h=>zn<|zk<|zs<|zr ?_
 refine yv h λ h=>yv h λ h=>yx h λ h=>zm<|zn<|zk<|Zl<|yl1 [13,14,87,88,89,90,91,92,93,94,95,96,97,98,99,100,101,102,103] 87 h λ σ w next h=>zs<|zr<|yb h λ h=>zn<|zk<|zs<|yC h (λ h=>?_) λ h=>?_
 · refine Zk<|zk<|zs<|Zl<|zs<|zr<|yv h λ h=>yv h λ h=>yv h λ h=>yu h λ h=>zn<|zk<|zs<|zr<|yv h λ h=>?_
   refine yv h λ h=>yF h λ h=>yc h c78 λ h=>zm<|zn<|zk<|Zq<|yG 3<|zm<|zm<|zm<|zn<|yg1 3 2 false [98,99,100] 100 h (λ _ T hT h=>?_) λ σ w h=>?_
   · refine yv h λ h=>yc h c68 λ h=>yb h λ h=>zn ?_
     exact zt hT h
   exact yG 2<|yp h λ h=>yc h c33 λ h=>zn<|ZG<|Zf<|zk<|zr<|yb h λ h=>zm<|zn<|zk<|⟨rfl,h⟩
 exact ZN<|Ze<|Ze<|Zs<|ZJ<|ZR rfl h
def SB e b f g (QV:KV) (R:RT) w:=
 Zx f g (.bool false) λ c=>
 Zp (λ (a:Vl) (w:Wd)=>
 Zx c a (.bool false) λ h=>
 Zr h (
 R (.returned (.bool false)) w) (
 B0 .add 3 true b (QqQ 1) R w λ i w=>
 QV i w)) λ d=>
 Zm c true (
 opV Pg (Instr.index 9 e b) (Zc R) w λ j w=>
 opV Pg (ZA .neq 5 true j (.int .u8 95)) (Zc R) w λ a w=>
 d a w) (
 d undef w)
def Zc6 b c f (QV:KV) R w:=
 N0 f R w λ d w=>
 Zp (λ (a:Vl) (w:Wd)=>
 SB b c d a QV R w) λ e=>
 Zm d true (
 opV Pg (Instr.index 9 b c) (Zc R) w λ g w=>
 C0 82 #[g] R w λ h w=>
 N0 h R w λ a w=>
 e a w) (
 e undef w)
def SC a b (QV:KV) R w:=
 G0 9 3 a R w λ c w=>
 B0 .lss 3 false b c R w λ d w=>
 Zr d (
 opV Pg (Instr.index 9 a b) (Zc R) w λ e w=>
 C0 81 #[e] R w λ f w=>
 Zc6 a b f QV R w) (
 R (.returned (.bool true)) w)
def Na b e f (R:RT) w:=
 Zx e (.bool true) f λ c=>
 Zp (λ (a:Vl) (w:Wd)=>
 Zx c (.bool true) a λ g=>
 Zr g (
 R (.returned (.bool false)) w) (
 YW (λ h w QV=>
 SC b h QV R w) (QqQ 0) w)) λ d=>
 Zm c false (
 opV Pg (Instr.index 9 b (QqQ 0)) (Zc R) w λ i w=>
 C0 81 #[i] R w λ j w=>
 N0 j R w λ a w=>
 d a w) (
 d undef w)
def n55 a R w:=
 G0 9 3 a R w λ e w=>
 B0 .lss 3 true e (QqQ 1) R w λ c w=>
 Zp (λ (b:Vl) (w:Wd)=>
 Na a c b R w) λ d=>
 Zm c false (
 G0 9 3 a R w λ f w=>
 B0 .gtr 3 true f (QqQ 32) R w λ b w=>
 d b w) (
 d undef w)
def Zla:QqX1 39 n55:=λ h=>by
 refine yD func39 ?_
 refine zs<|zr<|zm<|zn<|zk<|zs<|zs<|Zq<|yG 4<|zm<|yx h λ h=>yb h λ h=>zm<|zn<|yg1 3 3 false [8,9,10] 10 h (λ _ T hT h=>?_) λ σ w h=>?_
 · refine zm<|yx h λ h=>yb h λ h=>zn ?_
   exact zt hT h
 refine yG 2<|yp h λ h=>zm<|zn<|yg1 4 8 false [13,14,15,16] 16 h (λ _ T hT h=>?_) λ σ w h=>?_
 · refine zm<|yv h λ h=>yc h c81 λ h=>yv h λ h=>zn ?_
   exact zt hT h
 refine yG 1<|yp h λ h=>zn<|ZG<|zk<|yC h (λ h=>zs<|zr<|zm<|zn<|zk<|Zg<|Zb<|Zj rfl rfl h) λ h=>Zk<|zk<|zs<|zs<|zr<|zm<|zn<|zk ?_
 refine Zl<|yl1 [2,3,18,19,20,21,22,23,24,25,26,27,28,29,30,31,32,33,34,35,36,37,38,39,40,41] 3 h λ σ w next h=>zs<|zs<|zr<|zm<|zm<|yx h λ h=>yb h λ h=>zn<|zk<|yC h (λ h=>?_) λ h=>?_
 · refine Zk<|zk<|zs<|Zl<|zs<|Zq<|yG 6<|zm<|zm<|yv h λ h=>yc h c81 λ h=>yv h λ h=>zm<|zn<|yg1 5 5 true [30,31,32,33,34] 34 h (λ _ T hT h=>?_) λ σ w h=>?_
   · refine zm<|zm<|yv h λ h=>yc h c82 λ h=>yv h λ h=>zn ?_
     exact zt hT h
   refine yG 2<|yp h λ h=>zm<|zn<|yg1 4 12 true [37,38,39,40] 40 h (λ _ T hT h=>?_) λ σ w h=>?_
   · refine zm<|zm<|yv h λ h=>yb h λ h=>zn ?_
     exact zt hT h
   refine yG 1<|yp h λ h=>zn<|ZG<|zk<|yC h (λ h=>zs<|zr<|zm<|zn<|zk<|Zg<|Zh<|Zb<|Zb<|Zh<|Zb<|Zj rfl rfl h) λ h=>Zk<|Zf<|zk<|zr<|zm<|yb h λ h=>zm<|zn ?_
   exact zk<|⟨rfl,h⟩
 exact ZN<|Ze<|Ze<|Zs<|zk<|zs<|zr<|zm<|zn<|zk<|Zg<|Zj rfl rfl h
def U6 (w0:Wd) (s:BAr):Ret Pg 39 #[.string s] w0 λ r w'=>r = .bool (Yq s)∧Ext w0 w':=by
 have Vs:s.data.toList.length=s.size:=by rw [Array.length_toList];rfl
 refine Zla (R:=ZE _) ?_;unfold n55
 by_cases h1:1≤s.size
 · have d1:decide ((s.size:Int) < 1)=false:=by simp;omega
   by_cases h2:s.size≤32
   · have d2:decide ((s.size:Int) > 32)=false:=by simp;omega
     refine Qqb d1 d2 ?_
     unfold Na
     have hd:Yq s=((match s.data.toList with | []=>false | c::_=>Q3 c)&&s.data.toList.all WR):=by
      unfold Yq
      rw [show decide (1≤(s.size:Int))=true by simp;omega,show decide ((s.size:Int)≤32)=true by simp;omega]
      rfl
     rw [hd]
     clear hd
     obtain ⟨c,cs,hcs⟩:∃ c cs,s.data.toList=c::cs:=by
      cases hd:s.data.toList with
      | nil=>rw [hd] at Vs;simp at Vs;omega
      | cons c cs=>exact ⟨c,cs,rfl⟩
     refine Qqv ?_
     rw [Ub underlying9 s .i64 (b:=c) (by rw [hcs];rfl)]
     refine Zi (jm _ c) ?_
     rintro r w1 ⟨rfl,e⟩
     rw [show (match s.data.toList with | []=>false | c::_=>Q3 c)=Q3 c by rw [hcs]]
     cases hl:Q3 c with
     | false=>
      refine Qqv ?_
      exact ⟨by trivial,e⟩
     | true=>
      refine Qqv ?_
      clear hl hcs
      refine ZL (λ i w'=>∃ k:Nat,i = .int .i64 k∧k≤s.data.toList.length∧Ext w0 w'∧(s.data.toList.drop k).all WR=s.data.toList.all WR) (λ i _=>s.data.toList.length - (intOf i).toNat) ⟨0,rfl,by omega,e,rfl⟩ ?_
      rintro _ w2 ⟨k,rfl,hk,e2,hI⟩
      rcases ZY hk with ⟨x,hx,hd,Yo,ZT⟩ | ⟨hk,hd,ZT⟩
      · rw [Vs] at ZT
        have hidx:∀ (R:PEn) (w:Wd) (K:KV),opV Pg (Instr.index 9 (.string s) (.int .i64 (k:Int))) R w K=K (.int .u8 (x.toNat:Int)) w:=λ R w K=>YP underlying9 s .i64 k hx
        have PQ:WR x=true→∀ w',Ext w0 w'→(∃ k':Nat,Value.int .i64 ((k+1:Nat):Int) = .int .i64 k'∧k'≤s.data.toList.length∧Ext w0 w'∧(s.data.toList.drop k').all WR=s.data.toList.all WR)∧s.data.toList.length - (intOf (Value.int .i64 ((k+1:Nat):Int))).toNat < s.data.toList.length - (intOf (Value.int .i64 (k:Int))).toNat:=by
         intro hx1 w' e'
         refine ⟨⟨k+1,rfl,Yo,e',?_⟩,?_⟩
         · rw [← hI,hd];simp [hx1]
         · show s.data.toList.length - (((k+1:Nat):Int)).toNat < s.data.toList.length - ((k:Int)).toNat
           omega
        have hstop:WR x=false→s.data.toList.all WR=false:=by
         intro hx1
         rw [← hI,hd];simp [hx1]
        unfold SC
        refine Qqh ZT ?_
        rw [hidx]
        refine Zi (jm _ x) ?_
        rintro r w3 ⟨rfl,e3⟩
        have e4:=e2.trans e3
        unfold Zc6
        cases hl:Q3 x with
        | true=>
         simp (disch:=try exact DI) only [↓PR,QR,simprocAttr,SB]
         exact PQ (by unfold WR;rw [hl];rfl) _ e4
        | false=>
         refine Qqv ?_
         rw [hidx]
         refine Zi (Mn _ x) ?_
         rintro r w5 ⟨rfl,e5⟩
         have e6:=e4.trans e5
         unfold SB
         cases hg:G1 x with
         | true=>
          refine Qqv ?_
          exact PQ (by unfold WR;rw [hl,hg];rfl) _ e6
         | false=>
          refine Qqv ?_
          rw [hidx]
          cases hu:((x.toNat:Int) == 95) with
          | true=>
           have hu':((x.toNat:Int) != 95)=false:=by rw [bne,hu];rfl
           refine Qqh hu' ?_
           exact PQ (by unfold WR;rw [hl,hg,hu];rfl) _ e6
          | false=>
           have hu':((x.toNat:Int) != 95)=true:=by rw [bne,hu];rfl
           refine Qqh hu' ?_
           exact ⟨by rw [hstop (by unfold WR;rw [hl,hg,hu];rfl)],e6⟩
      · rw [Vs] at ZT hk
        unfold SC
        refine Qqh ZT ?_
        refine ⟨?_,e2⟩
        rw [← hI,hd]
        rfl
   · have d2:decide ((s.size:Int) > 32)=true:=by simp;omega
     refine Qqb d1 d2 ?_
     unfold Na
     refine Qqv ?_
     refine ⟨?_,Ext.refl _⟩
     unfold Yq
     rw [show decide ((s.size:Int)≤32)=false by simp;omega]
     simp
 · have d1:decide ((s.size:Int) < 1)=true:=by simp;omega
   refine Qqh d1 ?_
   unfold Na
   refine Qqv ?_
   refine ⟨?_,Ext.refl _⟩
   unfold Yq
   rw [show decide (1≤(s.size:Int))=false by simp;omega]
   simp
def Ya {β:Type} (l:List (BAr×β)) (s:BAr):Option β:=(l.reverse.find? (λ p=>decide (p.1=s))).map (·.2)
def Of {β:Type} {ps:List (BAr×β)} {s:BAr} {v:β} (h:Ya ps s=some v):(s,v)∈ps:=by
 unfold Ya at h
 obtain ⟨q,hq,rfl⟩:=Option.map_eq_some_iff.1 h
 have h1:=List.find?_some hq
 have h2:=List.mem_of_find?_eq_some hq
 simp only [decide_eq_true_eq] at h1
 subst h1
 exact List.mem_reverse.1 h2
def vI (l:List (BAr×Int)):List (BAr×Vl):=l.map λ p=>(p.1,.int .i64 p.2)
def vB (l:List (BAr×Bool)):List (BAr×Vl):=l.map λ p=>(p.1,.bool p.2)
def Az {β:Type} (g:β→Vl) (l:List (BAr×β)) (s:BAr):Yy (l.map λ p=>(p.1,g p.2)) s=(Ya l s).map g:=by
 unfold Yy Ya
 rw [← List.map_reverse,List.find?_map]
 simp only [Option.map_map]
 rfl
def Gi (l:List (BAr×Int)) (s:BAr):Yy (vI l) s=(Ya l s).map λ n => .int .i64 n:=Az _ l s
def De (l:List (BAr×Bool)) (s:BAr):Yy (vB l) s=(Ya l s).map Value.bool:=Az _ l s
structure CkO (a0 w:Wd) (cb md ms:Nat) (Zu:List (BAr×Int)) (ZH:List (BAr×Bool)) (at_ fld:Int) (fs:List Zv):Prop where
 ext:Ext a0 w
 obj:∃ dn mv ds mn fv,w.heap[cb]?=some (.cells #[.string dn,mv,.string ds,.map (some md),.map (some ms),.int .i64 at_,.int .i64 fld,.string mn,fv] 201 (0,0))∧YR a0 fv fs
 mdeps:Y6 w md (vI Zu)
 mstrs:Y6 w ms (vB ZH)
 lcb:a0.heap.size≤cb
 lmd:a0.heap.size≤md
 lms:a0.heap.size≤ms
 ne:md≠ms
section
variable {a0 w w':Wd} {cb md ms:Nat} {Zu:List (BAr×Int)} {ZH:List (BAr×Bool)} {at_ fld:Int} {fs:List Zv}
def CkO.chk (h:CkO a0 w cb md ms Zu ZH at_ fld fs):Chk w cb md ms (vI Zu) (vB ZH) at_ fld fs:=by
 obtain ⟨dn,mv,ds,mn,fv,h1,h2⟩:=h.obj
 refine ⟨⟨dn,mv,ds,mn,fv,h1,h2.ext h.ext⟩,h.mdeps,h.mstrs,λ k v hv=>?_,λ k v hv=>?_⟩
 · rw [Gi] at hv;obtain ⟨n,_,rfl⟩:=Option.map_eq_some_iff.1 hv;exact ⟨n,rfl⟩
 · rw [De] at hv;obtain ⟨n,_,rfl⟩:=Option.map_eq_some_iff.1 hv;exact ⟨n,rfl⟩
def CkO.nd (h:CkO a0 w cb md ms Zu ZH at_ fld fs):cb≠md∧cb≠ms∧cb < w.heap.size∧md < w.heap.size∧ms < w.heap.size:=by
 obtain ⟨dn,mv,ds,mn,fv,h1,h2⟩:=h.obj
 refine ⟨?_,?_,(Qqj h1).1,h.mdeps.lt,h.mstrs.lt⟩
 · rintro rfl;have:=h.mdeps.obj;rw [h1] at this;cases this
 · rintro rfl;have:=h.mstrs.obj;rw [h1] at this;cases this
def CkO.go (h:CkO a0 w cb md ms Zu ZH at_ fld fs) (e:Ext w w'):CkO a0 w' cb md ms Zu ZH at_ fld fs:=by
 obtain ⟨dn,mv,ds,mn,fv,h1,h2⟩:=h.obj
 exact ⟨h.ext.trans e,⟨dn,mv,ds,mn,fv,e.obj h1,h2⟩,h.mdeps.ext e,h.mstrs.ext e,h.lcb,h.lmd,h.lms,h.ne⟩
def CkO.other (h:CkO a0 w cb md ms Zu ZH at_ fld fs) {b o:Nat} (hb:a0.heap.size≤b) (hn:b≠cb) (v:Vl):CkO a0 (w.setCell ⟨b,o,none⟩ v) cb md ms Zu ZH at_ fld fs:=by
 obtain ⟨dn,mv,ds,mn,fv,h1,h2⟩:=h.obj
 refine ⟨h.ext.setCell hb v,⟨dn,mv,ds,mn,fv,?_,h2⟩,h.mdeps.setCell _ _,h.mstrs.setCell _ _,h.lcb,h.lmd,h.lms,h.ne⟩
 rw [YA.setCell w b o v cb (λ e=>hn e.symm)];exact h1
def CkO.setFld (h:CkO a0 w cb md ms Zu ZH at_ fld fs) (n:Int):CkO a0 (w.setCell ⟨cb,6,none⟩ (.int .i64 n)) cb md ms Zu ZH at_ n fs:=by
 obtain ⟨dn,mv,ds,mn,fv,h1,h2⟩:=h.obj
 exact ⟨h.ext.setCell h.lcb _,⟨dn,mv,ds,mn,fv,Zy h1 _,h2⟩,h.mdeps.setCell _ _,h.mstrs.setCell _ _,h.lcb,h.lmd,h.lms,h.ne⟩
def CkO.setAt (h:CkO a0 w cb md ms Zu ZH at_ fld fs) (n:Int):CkO a0 (w.setCell ⟨cb,5,none⟩ (.int .i64 n)) cb md ms Zu ZH n fld fs:=by
 obtain ⟨dn,mv,ds,mn,fv,h1,h2⟩:=h.obj
 exact ⟨h.ext.setCell h.lcb _,⟨dn,mv,ds,mn,fv,Zy h1 _,h2⟩,h.mdeps.setCell _ _,h.mstrs.setCell _ _,h.lcb,h.lmd,h.lms,h.ne⟩
def CkO.setMsg (h:CkO a0 w cb md ms Zu ZH at_ fld fs) (s:BAr) (fv':Vl) (fs':List Zv) (hf:YR a0 fv' fs'):CkO a0 ((w.setCell ⟨cb,7,none⟩ (.string s)).setCell ⟨cb,8,none⟩ fv') cb md ms Zu ZH at_ fld fs':=by
 obtain ⟨dn,mv,ds,mn,fv,h1,h2⟩:=h.obj
 exact ⟨(h.ext.setCell h.lcb _).setCell h.lcb _,⟨dn,mv,ds,s,fv',Zy (Zy h1 _) _,hf⟩,(h.mdeps.setCell _ _).setCell _ _,(h.mstrs.setCell _ _).setCell _ _,h.lcb,h.lmd,h.lms,h.ne⟩
def CkO.putOther (h:CkO a0 w cb md ms Zu ZH at_ fld fs) {B:Nat} (o:Obj) (hB:a0.heap.size≤B) (h1:B≠cb) (h2:B≠md) (h3:B≠ms):CkO a0 (w.putObj B o) cb md ms Zu ZH at_ fld fs:=by
 obtain ⟨dn,mv,ds,mn,fv,h4,h5⟩:=h.obj
 exact ⟨h.ext.putObj hB o,⟨dn,mv,ds,mn,fv,(World.putObj_heap_other (λ e=>h1 e.symm)).trans h4,h5⟩,XA.putOther h.mdeps (λ e=>h2 e.symm) o,XA.putOther h.mstrs (λ e=>h3 e.symm) o,h.lcb,h.lmd,h.lms,h.ne⟩
def CkO.unmark (h:CkO a0 w cb md ms Zu ZH at_ fld fs) {B:Nat} (hm:Z9 B w) (hB:a0.heap.size≤B):CkO a0 (w.putObj B (.deferred none)) cb md ms Zu ZH at_ fld fs:=by
 obtain ⟨dn,mv,ds,mn,fv,h4,h5⟩:=h.obj
 refine h.putOther _ hB ?_ ?_ ?_
 · rintro rfl;unfold Z9 at hm;rw [h4] at hm;cases hm
 · rintro rfl;unfold Z9 at hm;have:=h.mdeps.obj;rw [hm] at this;cases this
 · rintro rfl;unfold Z9 at hm;have:=h.mstrs.obj;rw [hm] at this;cases this
def CkO.lasts {B:Nat} (hB:a0.heap.size≤B):ZQ B (λ w=>CkO a0 w cb md ms Zu ZH at_ fld fs):=by
 refine ⟨λ w w' h e=>h.go e,λ w l r r' hl h hr=>?_⟩
 obtain ⟨dn,mv,ds,mn,fv,h4,h5⟩:=h.obj
 refine h.putOther _ C1 ?_ ?_ ?_
 · rintro rfl;rw [h4] at hr;cases hr
 · rintro rfl;have:=h.mdeps.obj;rw [hr] at this;cases this
 · rintro rfl;have:=h.mstrs.obj;rw [hr] at this;cases this
def Qh.lasts (B pb:Nat) (sv:Vl) (l:List BAr):ZQ B (λ w=>Qh w pb sv l):=
 ZQ.and (ZQ.cell B) (ZQ.and ⟨λ _ _ h e=>h.ext Gh e,λ _ _ _ _ _ h hl=>Zd.putLoop (λ _ _ h=>h) hl h⟩ (ZQ.const _ _))
def Qh.set {w:Wd} {pb:Nat} {sv:Vl} {l:List BAr} (h:Qh w pb sv l) {b o:Nat} (hb:b < pb) (u:Vl):Qh (w.setCell ⟨b,o,none⟩ u) pb sv l:=
 ⟨by rw [Xd C1];exact h.1,Zd.setOther h.2.1 u (λ A m c e=>by have:=h.2.2 A m c e;omega) (λ _ _ h=>h),h.2.2⟩
end
def Nv (m:Xr):List BAr:=Z5 [] (Y9 m.fields)
def XR (Zu:List (BAr×Int)) (ZH:List (BAr×Bool)) (bef:List Zv):List Zv→Int×Int
 | []=>(-1,0)
 | f::l=>if Ja bef (vI Zu) (vB ZH) f=0 then XR Zu ZH (bef++[f]) l else (bef.length,Ja bef (vI Zu) (vB ZH) f)
def Vh (a b:Int):Int:=if b > a then b else a
def Vu (Zu:List (BAr×Int)) (m:Xr):Int:=(Nv m).foldl (λ d s=>Vh d ((Ya Zu s).getD 0)) 0
def jM (ZH:List (BAr×Bool)) (m:Xr):Bool:=(m.fields.all λ f=>!f.loose)&&(Nv m).all λ s=>(Ya ZH s).getD false
def KF (Zu:List (BAr×Int)) (m:Xr) (r:Int×Int):Int×Int:=if r.2=0 then (if Vu Zu m < 16 then (-1,0) else (-1,10)) else r
def Vi (Zu:List (BAr×Int)) (ZH:List (BAr×Bool)) (m:Xr):Int×Int:=
 if Yq m.name then (if (Ya Zu m.name).isSome then (-1,2) else (if 1≤m.fields.length∧m.fields.length≤40 then KF Zu m (XR Zu ZH [] m.fields) else (-1,3))) else (-1,1)
def EX (a0:Wd) (at_:Int) (r:Int×Int) (K:WPr):Ending→Wd→Prop:=λ e w'=>Ext a0 w'∧(r.2=0∧e = .returned (.tuple #[])∧K w'∨r.2≠0∧e = .panicked [XH at_ r.1 r.2])
def Tf {a0 w':Wd} {at_:Int} {r:Int×Int} {K:WPr} (e:Ext a0 w') (h:r.2=0) (hK:K w'):EX a0 at_ r K (.returned (.tuple #[])) w':=⟨e,.inl ⟨h,rfl,hK⟩⟩
def JO {a0 w':Wd} {at_ a b:Int} {r:Int×Int} {K:WPr} (e:Ext a0 w') (h:r=(a,b)) (h0:b≠0):EX a0 at_ r K (.panicked [XH at_ a b]) w':=by subst h;exact ⟨e,.inr ⟨h0,rfl⟩⟩
def BB {P:Program} {C:WPr} [Yk C] {T:TypeId} {a:Addr} {v:Vl} {k:Vl→Prop} (h:∀ w',C w'→QC P w' T a v):qV P C (loadAt T (.pointer (some a))) k=k v:=
 UI λ w' e=>XX λ QP k=>Gp (h w' e)
section
variable {a0 w:Wd} {cb md ms:Nat} {Zu:List (BAr×Int)} {ZH:List (BAr×Bool)} {at_ fld:Int} {fs:List Zv}
def Za7 (h:CkO a0 w cb md ms Zu ZH at_ (-1) fs) (p2 p3 p6 p9 B:Nat) (m:Xr) (fv:Vl) (st:Bool) (dp:Int) (hd0:0≤dp) (hd1:dp≤1000)
 (o2:w.heap[p2]?=some (.cells #[Qq5 cb] 167 (0,0))) (o3:w.heap[p3]?=some (.cells (Yj m fv).toArray 74 (0,0))) (o6:w.heap[p6]?=some (.cells #[.bool st] 4 (0,0))) (o9:w.heap[p9]?=some (.cells #[.int .i64 dp] 3 (0,0)))
 (hmk:Z9 B w) (hB:a0.heap.size≤B) (r:Int×Int) (hr:r=if dp < 16 then (-1,0) else (-1,10)) (K:WPr)
 (hK:∀ w',CkO a0 w' cb md ms (Zu++[(m.name,dp+1)]) (ZH++[(m.name,st)]) at_ (-1) fs→K w') :
 Z4 w λ C12 w=>Nj (Qq5 p2) (Qq5 p3) (Qq5 p6) (Qq5 p9) C12 [Sw.mark B] (EX a0 at_ r K) w:=by
 obtain ⟨n1,n2,l1,l2,l3⟩:=h.nd
 have Y7:=h.ne
 obtain ⟨dn,mv,ds,mn,fv',h1,h2⟩:=h.obj
 have m2:p2≠md:=by rintro rfl;have:=h.mdeps.obj;rw [o2] at this;cases this
 have m3:p3≠md:=by rintro rfl;have:=h.mdeps.obj;rw [o3] at this;cases this
 have m6:p6≠md:=by rintro rfl;have:=h.mdeps.obj;rw [o6] at this;cases this
 have m9:p9≠md:=by rintro rfl;have:=h.mdeps.obj;rw [o9] at this;cases this
 have q2:p2≠ms:=by rintro rfl;have:=h.mstrs.obj;rw [o2] at this;cases this
 have q3:p3≠ms:=by rintro rfl;have:=h.mstrs.obj;rw [o3] at this;cases this
 have q6:p6≠ms:=by rintro rfl;have:=h.mstrs.obj;rw [o6] at this;cases this
 have q9:p9≠ms:=by rintro rfl;have:=h.mstrs.obj;rw [o9] at this;cases this
 refine YX (w1:=w) md ms (λ _ _ _ _=>rfl) ?_
 unfold Nj
 refine QqK (Za h1).1 (Za o2).1 (Za o3).1 (Za o6).1 (Za o9).1 ?_
 have eD:Ext w w.drew:=(Ext.refl w).drew
 have hmd:Y6 w.drew md (vI Zu):=h.mdeps.ext eD
 rw [yY underlying198 underlying9 ty3 hmd m.name]
 refine ⟨λ b hb b1 b2=>(World.putObj_heap_other b1),?_⟩
 unfold S9
 refine Qqv ?_
 rw [GG (XA.ent hmd m.name _) (F4 _ _),MT,GJ]
 have hw1:w.drew.putObj md (W0 (λ s:BAr=>Value.string s) (UH (bld (vI Zu)).1 (bld (vI Zu)).2 m.name (.int .i64 (IntKind.i64.wrap (dp+1)))) (U5 (bld (vI Zu)).1 (bld (vI Zu)).2 m.name))=putW w.drew md (vI Zu) m.name (.int .i64 (IntKind.i64.wrap (dp+1))):=by
  unfold putW;rw [UV]
 rw [hw1]
 have hms:Y6 (putW w.drew md (vI Zu) m.name (.int .i64 (IntKind.i64.wrap (dp+1)))) ms (vB ZH):=XA.putOther (h.mstrs.ext eD) (λ e=>Y7 e.symm) _
 refine ⟨λ b hb b1 b2=>(World.putObj_heap_other b1),?_⟩
 rw [yY underlying199 underlying9 ty4 hms m.name]
 refine ⟨λ b hb b1 b2=>(World.putObj_heap_other b2).trans (World.putObj_heap_other b1),?_⟩
 unfold S8
 refine Qqv ?_
 rw [GG (XA.ent hms m.name _) (F4 _ _),MT,GJ]
 have hw2:(putW w.drew md (vI Zu) m.name (.int .i64 (IntKind.i64.wrap (dp+1)))).putObj ms (W0 (λ s:BAr=>Value.string s) (UH (bld (vB ZH)).1 (bld (vB ZH)).2 m.name (.bool st)) (U5 (bld (vB ZH)).1 (bld (vB ZH)).2 m.name))=putW (putW w.drew md (vI Zu) m.name (.int .i64 (IntKind.i64.wrap (dp+1)))) ms (vB ZH) m.name (.bool st):=by
  unfold putW;rw [UV,UV]
 rw [hw2]
 have hwr:IntKind.i64.wrap (dp+1)=dp+1:=Z0 C1 C1
 rw [hwr]
 have hC2:CkO a0 (putW (putW w.drew md (vI Zu) m.name (.int .i64 (dp+1))) ms (vB ZH) m.name (.bool st)) cb md ms (Zu++[(m.name,dp+1)]) (ZH++[(m.name,st)]) at_ (-1) fs:=by
  refine ⟨(h.ext.drew.putObj h.lmd _).putObj h.lms _,⟨dn,mv,ds,mn,fv',((World.putObj_heap_other n2).trans (World.putObj_heap_other n1)).trans h1,h2⟩,?_,?_,h.lcb,h.lmd,h.lms,Y7⟩
  · have:=XA.putOther (hmd.put m.name (.int .i64 (dp+1))) Y7 (Gj (bld (vB ZH++[(m.name,.bool st)])).1 (bld (vB ZH++[(m.name,.bool st)])).2)
    unfold vI at this ⊢
    rw [List.map_append]
    exact this
  · rw [hwr] at hms
    have:=hms.put m.name (.bool st)
    unfold vB at this ⊢
    rw [List.map_append]
    exact this
 have hk2:Z9 B (putW (putW w.drew md (vI Zu) m.name (.int .i64 (dp+1))) ms (vB ZH) m.name (.bool st)):=by
  have b1:B≠md:=by rintro rfl;have:=h.mdeps.obj;unfold Z9 at hmk;rw [hmk] at this;cases this
  have b2:B≠ms:=by rintro rfl;have:=h.mstrs.obj;unfold Z9 at hmk;rw [hmk] at this;cases this
  exact ((World.putObj_heap_other b2).trans (World.putObj_heap_other b1)).trans hmk
 have o2':(putW (putW w.drew md (vI Zu) m.name (.int .i64 (dp+1))) ms (vB ZH) m.name (.bool st)).heap[p2]?=some (.cells #[Qq5 cb] 167 (0,0)):=((World.putObj_heap_other q2).trans (World.putObj_heap_other m2)).trans o2
 have o9':(putW (putW w.drew md (vI Zu) m.name (.int .i64 (dp+1))) ms (vB ZH) m.name (.bool st)).heap[p9]?=some (.cells #[.int .i64 dp] 3 (0,0)):=((World.putObj_heap_other q9).trans (World.putObj_heap_other m9)).trans o9
 generalize putW (putW w.drew md (vI Zu) m.name (.int .i64 (dp+1))) ms (vB ZH) m.name (.bool st)=W at hC2 hk2 o2' o9' ⊢
 refine Yx ?_
 unfold S7
 refine Qqb (Za o2').1 (Za o9').1 ?_
 refine ZS (YK hC2.chk _ 10 K7) (λ w' e h0=>?_) (λ w' e h0=>?_)
 · refine WA (hk2.ext e) ?_
   rw [WM]
   have hC3:=(hC2.go e).unmark (hk2.ext e) hB
   refine Tf hC3.ext ?_ (hK _ hC3)
   rw [hr]
   by_cases hdp:dp < 16
   · rw [if_pos hdp]
   · rw [decide_eq_false hdp] at h0;exact absurd h0 K7
 · refine qe (hk2.ext e) ?_
   rw [Ug]
   have hC3:=(hC2.go e).unmark (hk2.ext e) hB
   by_cases hdp:dp < 16
   · rw [decide_eq_true hdp] at h0;exact absurd rfl h0
   · rw [decide_eq_false hdp]
     rw [if_neg hdp] at hr
     exact JO hC3.ext hr K7
def Za2 {a b c:Int} (h1:a≤c) (h2:b≤c):Vh a b≤c:=by unfold Vh;split<;>assumption
def ZaZ (a b:Int):a≤Vh a b:=by unfold Vh;split<;>omega
def G3 (g:BAr→Int):∀ (l:List BAr) (d:Int),0≤d→(∀ s∈l,0≤g s∧g s≤16)→d≤16→0≤l.foldl (λ d s=>Vh d (g s)) d∧l.foldl (λ d s=>Vh d (g s)) d≤16
 | [],d,h0,_,h1=>⟨h0,h1⟩
 | s::l,d,h0,h,h1=>G3 g l _ (Int.le_trans h0 (ZaZ _ _)) (λ u hu=>h u (List.mem_cons_of_mem _ hu)) (Za2 h1 (h s (List.mem_cons_self ..)).2)
def Low (Zu:List (BAr×Int)):Prop:=∀ p∈Zu,0≤p.2∧p.2≤16
def Low.get {Zu:List (BAr×Int)} (h:Low Zu) (s:BAr):0≤(Ya Zu s).getD 0∧(Ya Zu s).getD 0≤16:=by
 cases hl:Ya Zu s with
 | none=>exact ⟨by decide,by decide⟩
 | some n=>exact h _ (Of hl)
def Ou (hlow:Low Zu) (h:CkO a0 w cb md ms Zu ZH at_ fld fs) (p2 p3 p6:Nat) (m:Xr) (fv:Vl) (st:Bool) (hst:st=m.fields.all λ f=>!f.loose) (hF:YR a0 fv m.fields) (hb:(Y9 m.fields).length≤1048576) (hp2:a0.heap.size≤p2) (hp3:a0.heap.size≤p3) (hp6:a0.heap.size≤p6) (h26:p2 < p6) (h36:p3 < p6)
 (o2:w.heap[p2]?=some (.cells #[Qq5 cb] 167 (0,0))) (o3:w.heap[p3]?=some (.cells (Yj m fv).toArray 74 (0,0))) (o6:w.heap[p6]?=some (.cells #[.bool st] 4 (0,0)))
 (r:Int×Int) (hr:r=if Vu Zu m < 16 then (-1,0) else (-1,10)) (K:WPr)
 (hK:∀ w',CkO a0 w' cb md ms (Zu++[(m.name,Vu Zu m+1)]) (ZH++[(m.name,jM ZH m)]) at_ (-1) fs→K w') :
 ET (Qq5 p2) (Qq5 p3) (Qq5 p6) [] (EX a0 at_ r K) w:=by
 obtain ⟨n1,n2,l1,l2,l3⟩:=h.nd
 obtain ⟨dn,mv,ds,mn,fv',h1,h2⟩:=h.obj
 have c2:p2≠cb:=by rintro rfl;rw [o2] at h1;cases h1
 have c3:p3≠cb:=by rintro rfl;rw [o3] at h1;cases h1
 have c6:p6≠cb:=by rintro rfl;rw [o6] at h1;cases h1
 have lp6:p6 < w.heap.size:=(Qqj o6).1
 have lp3:p3 < w.heap.size:=(Qqj o3).1
 unfold ET
 refine Qqp (Za h1).1 (Za h1).2 (Za o2).1 (Za o3).1 ?_
 have hC1:=h.setFld (-1)
 have o2':(w.setCell ⟨cb,6,none⟩ (.int .i64 (-1))).heap[p2]?=some (.cells #[Qq5 cb] 167 (0,0)):=by rw [YA.setCell w cb 6 _ p2 c2];exact o2
 have o3':(w.setCell ⟨cb,6,none⟩ (.int .i64 (-1))).heap[p3]?=some (.cells (Yj m fv).toArray 74 (0,0)):=by rw [YA.setCell w cb 6 _ p3 c3];exact o3
 have o6':(w.setCell ⟨cb,6,none⟩ (.int .i64 (-1))).heap[p6]?=some (.cells #[.bool st] 4 (0,0)):=by rw [YA.setCell w cb 6 _ p6 c6];exact o6
 simp only [World.size_setCell]
 have eW:=hC1.go ((Ext.refl (w.setCell ⟨cb,6,none⟩ (.int .i64 (-1)))).alloc (Obj.cells #[.int .i64 0] 3))
 have x2:=((Ext.refl (w.setCell ⟨cb,6,none⟩ (.int .i64 (-1)))).alloc (Obj.cells #[.int .i64 0] 3)).obj o2'
 have x3:=((Ext.refl (w.setCell ⟨cb,6,none⟩ (.int .i64 (-1)))).alloc (Obj.cells #[.int .i64 0] 3)).obj o3'
 have x6:=((Ext.refl (w.setCell ⟨cb,6,none⟩ (.int .i64 (-1)))).alloc (Obj.cells #[.int .i64 0] 3)).obj o6'
 have x9:=Zt (w.setCell ⟨cb,6,none⟩ (.int .i64 (-1))) #[.int .i64 0] 3
 rw [World.size_setCell] at x9
 generalize hW:World.alloc (w.setCell ⟨cb,6,none⟩ (.int .i64 (-1))) _=W at eW x2 x3 x6 x9
 have Vs:W.heap.size=w.heap.size+1:=by rw [← hW];simp only [World.size_alloc,World.size_setCell]
 clear hW hC1 o2 o3 o6 o2' o3' o6' h
 have lW:a0.heap.size≤W.heap.size:=eW.ext.size
 refine Zi (j4 W _ m ⟨fv,rfl,hF.ext eW.ext⟩ hb) ?_
 rintro _ w7 ⟨pb,sv,rfl,hS,hpb,e7⟩
 have s7:=e7.size
 unfold Ta
 let rs:=Nv m
 let I:Nat→Wd→Prop:=λ k w'=>CkO a0 w' cb md ms Zu ZH at_ (-1) fs∧Qh w' pb sv (Y9 m.fields)∧w'.heap[p2]?=some (.cells #[Qq5 cb] 167 (0,0))∧w'.heap[p3]?=some (.cells (Yj m fv).toArray 74 (0,0)) ∧
  w'.heap[p6]?=some (.cells #[.bool (st&&(rs.take k).all λ s=>(Ya ZH s).getD false)] 4 (0,0))∧w'.heap[w.heap.size]?=some (.cells #[.int .i64 ((rs.take k).foldl (λ d s=>Vh d ((Ya Zu s).getD 0)) 0)] 3 (0,0))
 have hLI:∀ k,ZQ w7.heap.size (I k):=λ k=>ZQ.and (CkO.lasts C1) (ZQ.and (Qh.lasts _ _ _ _) (ZQ.and (ZQ.has _ (by simp)) (ZQ.and (ZQ.has _ (by simp)) (ZQ.and (ZQ.has _ (by simp)) (ZQ.has _ (by simp))))))
 refine ⟨_,_,rs.length,OX rs,λ w=>Qh w pb sv (Y9 m.fields),I,λ _ _=>False,λ _ _=>False,rfl,ZfD,Iy pb sv _,⟨eW.go e7,hS,e7.obj x2,e7.obj x3,?_,e7.obj x9⟩,λ k w h=>h.2.1,hLI,λ _=>ZQ.const _ _,?_,?_,?_,?_⟩
 · have:=e7.obj x6
   rw [this];simp
 · intro rec j w3 hj hI3 hrec hready
   refine ⟨hready,λ w4 hbz=>?_⟩
   have hrec4:=hrec.busied hbz
   have hI4:=(hLI j).busied hbz (Nat.le_succ _) hI3
   clear hI3 hrec hready hbz
   obtain ⟨hC4,hS4,y2,y3,y6,y9⟩:=hI4
   obtain ⟨s,hx⟩:=getElem?_lt hj
   have hrs:rs[j]?=some s:=hx
   rw [show OX rs j = .string s by unfold OX;rw [hrs]]
   obtain ⟨dn,mv,ds,mn,fv',h1,h2⟩:=hC4.obj
   have l9:w.heap.size < w4.heap.size:=(Qqj y9).1
   have XY:rs.take (j+1)=rs.take j++[s]:=Qy hrs
   refine ZB ?_
   unfold S6
   refine Qqm (Za y9).1 (Za y2).1 (Za h1).1 ?_
   rw [jk underlying198 underlying9 ty3 (hC4.mdeps.ext ((Ext.refl w4).wdrew)) s]
   have hg:(Yy (vI Zu) s).getD (.int .i64 0) = .int .i64 ((Ya Zu s).getD 0):=by rw [Gi];cases Ya Zu s<;>rfl
   rw [hg]
   refine Qqb (Za y9).1 (Za y9).2 ?_
   refine Yx ?_
   have e4:Ext w4 w4.drew:=(Ext.refl w4).wdrew
   have hC5:=(hC4.go e4).other (b:=w.heap.size) (o:=0) C1 C1 (.int .i64 (if (Ya Zu s).getD 0 > (rs.take j).foldl (λ d s=>Vh d ((Ya Zu s).getD 0)) 0 then (Ya Zu s).getD 0 else (rs.take j).foldl (λ d s=>Vh d ((Ya Zu s).getD 0)) 0))
   have hS5:Qh (w4.drew.setCell ⟨w.heap.size,0,none⟩ (.int .i64 (if (Ya Zu s).getD 0 > (rs.take j).foldl (λ d s=>Vh d ((Ya Zu s).getD 0)) 0 then (Ya Zu s).getD 0 else (rs.take j).foldl (λ d s=>Vh d ((Ya Zu s).getD 0)) 0))) pb sv (Y9 m.fields):=(hS4.ext e4).set C1 _
   have hrec5:Xk rec w7.heap.size (w4.drew.setCell ⟨w.heap.size,0,none⟩ (.int .i64 (if (Ya Zu s).getD 0 > (rs.take j).foldl (λ d s=>Vh d ((Ya Zu s).getD 0)) 0 then (Ya Zu s).getD 0 else (rs.take j).foldl (λ d s=>Vh d ((Ya Zu s).getD 0)) 0))):=hrec4.drew.setCell _ _
   have z2:=(YA.setCell w4.drew w.heap.size 0 (.int .i64 (if (Ya Zu s).getD 0 > (rs.take j).foldl (λ d s=>Vh d ((Ya Zu s).getD 0)) 0 then (Ya Zu s).getD 0 else (rs.take j).foldl (λ d s=>Vh d ((Ya Zu s).getD 0)) 0)) p2 C1).trans y2
   have z3:=(YA.setCell w4.drew w.heap.size 0 (.int .i64 (if (Ya Zu s).getD 0 > (rs.take j).foldl (λ d s=>Vh d ((Ya Zu s).getD 0)) 0 then (Ya Zu s).getD 0 else (rs.take j).foldl (λ d s=>Vh d ((Ya Zu s).getD 0)) 0)) p3 C1).trans y3
   have z6:=(YA.setCell w4.drew w.heap.size 0 (.int .i64 (if (Ya Zu s).getD 0 > (rs.take j).foldl (λ d s=>Vh d ((Ya Zu s).getD 0)) 0 then (Ya Zu s).getD 0 else (rs.take j).foldl (λ d s=>Vh d ((Ya Zu s).getD 0)) 0)) p6 C1).trans y6
   have z9:=Zy (w:=w4.drew) (o:=0) y9 (.int .i64 (if (Ya Zu s).getD 0 > (rs.take j).foldl (λ d s=>Vh d ((Ya Zu s).getD 0)) 0 then (Ya Zu s).getD 0 else (rs.take j).foldl (λ d s=>Vh d ((Ya Zu s).getD 0)) 0))
   rw [show (#[Value.int .i64 ((rs.take j).foldl (λ d s=>Vh d ((Ya Zu s).getD 0)) 0)]:AVl).setIfInBounds 0 (.int .i64 (if (Ya Zu s).getD 0 > (rs.take j).foldl (λ d s=>Vh d ((Ya Zu s).getD 0)) 0 then (Ya Zu s).getD 0 else (rs.take j).foldl (λ d s=>Vh d ((Ya Zu s).getD 0)) 0)) = #[.int .i64 ((rs.take (j+1)).foldl (λ d s=>Vh d ((Ya Zu s).getD 0)) 0)] from by rw [XY,List.foldl_append];rfl] at z9
   generalize w4.drew.setCell ⟨w.heap.size,0,none⟩ _=w5 at hC5 hS5 hrec5 z2 z3 z6 z9 ⊢
   clear hC4 hS4 hrec4 y2 y3 y6 y9 h1 hg
   obtain ⟨dn,mv,ds,mn,fv',h1,h2⟩:=hC5.obj
   have hall:(st&&(rs.take (j+1)).all λ s=>(Ya ZH s).getD false)=((st&&(rs.take j).all λ s=>(Ya ZH s).getD false)&&(Ya ZH s).getD false):=by
    rw [XY,List.all_append,Bool.and_assoc];simp
   have fin:∀ b,b=(st&&(rs.take (j+1)).all λ s=>(Ya ZH s).getD false)→Xk rec w7.heap.size (w5.setCell ⟨p6,0,none⟩ (.bool b))∧I (j+1) (w5.setCell ⟨p6,0,none⟩ (.bool b)):=by
    rintro b rfl
    refine ⟨hrec5.setCell _ _,hC5.other hp6 c6 _,hS5.set C1 _,(YA.setCell w5 p6 0 _ p2 C1).trans z2,(YA.setCell w5 p6 0 _ p3 C1).trans z3,?_,(YA.setCell w5 p6 0 _ w.heap.size C1).trans z9⟩
    have:=Zy (o:=0) z6 (.bool (st&&(rs.take (j+1)).all λ s=>(Ya ZH s).getD false))
    simpa using this
   rw [hall] at fin
   generalize (st&&(rs.take j).all λ s=>(Ya ZH s).getD false)=sj at z6 fin
   unfold S5
   have hg:(Yy (vB ZH) s).getD (.bool false) = .bool ((Ya ZH s).getD false):=by rw [De];cases Ya ZH s<;>rfl
   cases sj with
   | false=>
    simp (disch:=try exact DI) only [↓PR,QR,simprocAttr,(Za z6).1,(Za z6).2,↓HG,↓S4,↓S5,↓S6,↓S7,↓S8,↓S9,↓Nj,↓Ta,↓ET,↓LC,↓EU,↓Bt,↓LD,↓LF,↓LG,↓EW,↓LH]
    exact fin false rfl
   | true=>
    refine Qqp (Za z6).1 (Za z6).2 (Za z2).1 (Za h1).1 ?_
    rw [Vk underlying199 underlying9 ty4 hC5.mstrs s,hg]
    generalize (Ya ZH s).getD false=b at fin
    simp (disch:=try exact DI) only [↓PR,QR,simprocAttr,(Za z6).1,(Za z6).2,HG]
    exact fin b (by cases b<;>rfl)
 · rintro w3 hI3 hmk
   obtain ⟨hC3,hS3,y2,y3,y6,y9⟩:=hI3
   rw [List.take_length] at y6 y9
   have hfold:=G3 (λ s=>(Ya Zu s).getD 0) rs 0 K7 (λ s _=>hlow.get s) K7
   refine Za7 hC3 p2 p3 p6 w.heap.size w7.heap.size m fv _ _ hfold.1 (by have:=hfold.2;omega) y2 y3 y6 y9 hmk C1 r hr K ?_
   rw [hst]
   exact hK
 · rintro c w3 h
   exact h.elim
 · rintro ch w3 h
   exact h.elim
end
section
variable {a0 w:Wd} {cb md ms:Nat} {Zu:List (BAr×Int)} {ZH:List (BAr×Bool)} {at_ fld:Int} {m:Xr}
def U4 {a b:Int} (h:orC a b=0):a=0∧b=0:=by
 unfold orC at h
 split at h
 · rename_i ha
   exact ⟨ha,h⟩
 · rename_i ha
   exact absurd h ha
def Ap (Zu:List (BAr×Int)) (ZH:List (BAr×Bool)):∀ (l bef:List Zv),(XR Zu ZH bef l).2≠0→0≤(XR Zu ZH bef l).1
 | [],_,h=>absurd rfl h
 | f::l,bef,h=>by
  rw [XR] at h ⊢
  split
  · rename_i hc
    rw [if_pos hc] at h
    exact Ap Zu ZH l _ h
  · exact Int.natCast_nonneg _
def qi (Zu:List (BAr×Int)) (ZH:List (BAr×Bool)):∀ (l bef:List Zv),(XR Zu ZH bef l).2=0→(Y9 l).length≤40*l.length
 | [],_,_=>Nat.zero_le _
 | f::l,bef,h=>by
  rw [XR] at h
  split at h
  · rename_i hc
    have ih:=qi Zu ZH l _ h
    have hf:(YH f).length≤40:=by
     unfold YH
     split
     · simp
     · split
       · rename_i hk
         obtain ⟨_,h1⟩:=U4 hc
         obtain ⟨_,h1⟩:=U4 h1
         obtain ⟨_,h1⟩:=U4 h1
         obtain ⟨_,h1⟩:=U4 h1
         rw [show YV bef (vI Zu) (vB ZH) f=UD bef (vI Zu) f by unfold YV;rw [hk];rfl] at h1
         obtain ⟨_,h1⟩:=U4 h1
         obtain ⟨h1,_⟩:=U4 h1
         have h2:=Qn K7 h1
         simp only [Bool.and_eq_true,decide_eq_true_eq] at h2
         rw [List.length_map]
         omega
       · simp
    unfold Y9 at ih ⊢
    rw [List.flatMap_cons,List.length_append,List.length_cons]
    omega
  · rename_i hc
    exact absurd h hc
def Tg (hlow:Low Zu) (h:CkO a0 w cb md ms Zu ZH at_ fld m.fields) (p2 p3:Nat) (fv:Vl) (hF:YR a0 fv m.fields) (h40:m.fields.length≤40) (hp2:a0.heap.size≤p2) (hp3:a0.heap.size≤p3)
 (o2:w.heap[p2]?=some (.cells #[Qq5 cb] 167 (0,0))) (o3:w.heap[p3]?=some (.cells (Yj m fv).toArray 74 (0,0)))
 (r:Int×Int) (hr:r=KF Zu m (XR Zu ZH [] m.fields)) (K:WPr)
 (hK:∀ w',CkO a0 w' cb md ms (Zu++[(m.name,Vu Zu m+1)]) (ZH++[(m.name,jM ZH m)]) at_ (-1) m.fields→K w') :
 Bt (Qq5 p2) (Qq5 p3) [] (EX a0 at_ r K) w:=by
 obtain ⟨n1,n2,l1,l2,l3⟩:=h.nd
 have lp2:p2 < w.heap.size:=(Qqj o2).1
 have lp3:p3 < w.heap.size:=(Qqj o3).1
 have lw:=h.ext.size
 obtain ⟨A,c,rfl,hlc,hcm,hlm,Xj⟩:=Zd.open hF
 unfold Bt
 refine Qqh (Za o3).1 ?_
 refine ZL (λ i w'=>∃ (k:Nat) (fld':Int),i = .int .i64 k∧k≤m.fields.length∧CkO a0 w' cb md ms Zu ZH at_ fld' m.fields∧w'.heap[p2]?=some (.cells #[Qq5 cb] 167 (0,0))∧w'.heap[p3]?=some (.cells (Yj m (.slice A m.fields.length c)).toArray 74 (0,0)) ∧
  w'.heap[w.heap.size]?=some (.cells #[.bool ((m.fields.take k).all λ f=>!f.loose)] 4 (0,0))∧r=KF Zu m (XR Zu ZH (m.fields.take k) (m.fields.drop k))) (λ i _=>m.fields.length - (intOf i).toNat) ⟨0,fld,rfl,by omega,h.go ((Ext.refl _).alloc _),((Ext.refl _).alloc _).obj o2,((Ext.refl _).alloc _).obj o3,Zt w #[.bool true] 4,hr⟩ ?_
 rintro i w' ⟨k,fld',rfl,hk,hC,y2,y3,y6,hrk⟩
 have l6:w.heap.size < w'.heap.size:=(Qqj y6).1
 have lw':=hC.ext.size
 obtain ⟨dn,mv,ds,mn,fv',h1,h2⟩:=hC.obj
 have c2:p2≠cb:=by rintro rfl;rw [y2] at h1;cases h1
 have c3:p3≠cb:=by rintro rfl;rw [y3] at h1;cases h1
 rcases ZY hk with ⟨x,hx,hd,Yo,ZT⟩ | ⟨hk,hd,ZT⟩
 · obtain ⟨b,o,cs,rfl,hl,hA,hE⟩:=Xj k x hx
   obtain ⟨tv,cv,rfl,hT,hCa,ht1,hc1⟩:=hE.op
   have hA':=hA.ext hC.ext
   rw [hd] at hrk
   simp only [XR] at hrk
   unfold EU
   refine Qqh ZT ?_
   unfold LC
   try unfold X0
   try unfold L0
   rw [XI underlying72 Vq _ _ _ _ _ k Yo,Gp (hA'.loads Vq rfl)]
   refine Qqm (Za y2).1 (Za h1).1 (Za h1).2 ?_
   have hCw:=(hC.setFld (k:Int)).go ((Ext.refl _).alloc (Obj.cells (Zw x tv cv).toArray 123))
   have z2:=((Ext.refl _).alloc (Obj.cells (Zw x tv cv).toArray 123)).obj ((YA.setCell w' cb 6 (.int .i64 (k:Int)) p2 c2).trans y2)
   have z3:=((Ext.refl _).alloc (Obj.cells (Zw x tv cv).toArray 123)).obj ((YA.setCell w' cb 6 (.int .i64 (k:Int)) p3 c3).trans y3)
   have z6:=((Ext.refl _).alloc (Obj.cells (Zw x tv cv).toArray 123)).obj ((YA.setCell w' cb 6 (.int .i64 (k:Int)) w.heap.size C1).trans y6)
   have z8:=Zt (w'.setCell ⟨cb,6,none⟩ (.int .i64 (k:Int))) (Zw x tv cv).toArray 123
   rw [World.size_setCell] at z8
   generalize (World.alloc (w'.setCell ⟨cb,6,none⟩ (.int .i64 (k:Int))) (Obj.cells (Zw x tv cv).toArray 123))=W at hCw z2 z3 z6 z8 ⊢
   have hkt:(m.fields.take k).length=k:=by rw [List.length_take];omega
   refine ZS (FX hCw.chk k rfl Yo _ x ⟨tv,cv,rfl,Z6.ext hT hCw.ext,Yu.ext hCa hCw.ext⟩) (λ w5 e5 h0=>?_) (λ w5 e5 h0=>?_)
   · rw [if_pos h0] at hrk
     have q6:=e5.obj z6
     have q8:=e5.obj z8
     have hC5:=hCw.go e5
     have l5:w'.heap.size < w5.heap.size:=(Qqj q8).1
     have htk:=Qy hx
     rw [← htk] at hrk
     have hall:((m.fields.take (k+1)).all λ f=>!f.loose)=(((m.fields.take k).all λ f=>!f.loose)&&!x.loose):=by rw [htk,List.all_append];simp
     have fin:∀ b' w6,Ext w5 w6→b'=((m.fields.take (k+1)).all λ f=>!f.loose)→(∃ (k':Nat) (fld':Int),Value.int .i64 ((k+1:Nat):Int) = .int .i64 k'∧k'≤m.fields.length∧CkO a0 (w6.setCell ⟨w.heap.size,0,none⟩ (.bool b')) cb md ms Zu ZH at_ fld' m.fields∧w6.heap[p2]?=some (.cells #[Qq5 cb] 167 (0,0))∧w6.heap[p3]?=some (.cells (Yj m (.slice (some ⟨b,o,none⟩) m.fields.length c)).toArray 74 (0,0)) ∧
      (w6.setCell ⟨w.heap.size,0,none⟩ (.bool b')).heap[w.heap.size]?=some (.cells #[.bool ((m.fields.take k').all λ f=>!f.loose)] 4 (0,0))∧r=KF Zu m (XR Zu ZH (m.fields.take k') (m.fields.drop k')))∧m.fields.length - (intOf (Value.int .i64 ((k+1:Nat):Int))).toNat < m.fields.length - (intOf (Value.int IntKind.i64 k)).toNat:=by
      rintro b' w6 e6 rfl
      refine ⟨⟨k+1,k,rfl,by omega,(hC5.go e6).other C1 C1 _,e6.obj (e5.obj z2),e6.obj (e5.obj z3),?_,hrk⟩,Yh (kd := .i64) Yo⟩
      have:=Zy (o:=0) (e6.obj q6) (.bool ((m.fields.take (k+1)).all λ f=>!f.loose))
      simpa using this
     unfold S4
     rw [hall] at fin
     generalize ((m.fields.take k).all λ f=>!f.loose)=sj at q6 fin
     cases sj with
     | true=>
      generalize hxl:x.loose=xl at fin
      simp (disch:=try exact DI) only [↓PR,QR,simprocAttr,(Za q6).1,(Za q6).2,(Za q8).1,HG,hxl]
      simp only [Bool.true_and] at fin
      exact fin _ w5 (Ext.refl _) rfl
     | false=>
      simp (disch:=try exact DI) only [↓PR,QR,simprocAttr,(Za q6).1,(Za q6).2,(Za q8).1,HG]
      simp only [Bool.false_and] at fin
      exact fin _ w5 (Ext.refl _) rfl
   · rw [if_neg h0] at hrk
     have hr2:r=((k:Int),Ja (m.fields.take k) (vI Zu) (vB ZH) x):=by
      rw [hrk,hkt];unfold KF;rw [if_neg h0]
     show ZD _ _ _ _ _ _
     rw [Ug]
     exact JO (hCw.ext.trans e5) hr2 h0
 · subst hk
   rw [hd] at hrk
   rw [List.take_length] at y6
   unfold EU
   refine Qqh ZT ?_
   have hfl:(XR Zu ZH [] m.fields).2=0:=by
    by_cases h0:(XR Zu ZH [] m.fields).2=0
    · exact h0
    · exfalso
      have h1:=Ap Zu ZH m.fields [] h0
      have h2:KF Zu m (XR Zu ZH (List.take m.fields.length m.fields) [])=XR Zu ZH [] m.fields:=by
       rw [← hrk,hr]
       unfold KF
       rw [if_neg h0]
      have h3:(KF Zu m (XR Zu ZH (List.take m.fields.length m.fields) [])).1 = -1:=by
       unfold KF XR
       simp only [if_true]
       split<;>rfl
      rw [h2] at h3
      omega
   have hb:(Y9 m.fields).length≤1048576:=by
    have:=qi Zu ZH m.fields [] hfl
    omega
   refine Ou hlow hC p2 p3 w.heap.size m _ _ rfl hF hb hp2 hp3 lw lp2 lp3 y2 y3 y6 r ?_ K hK
   rw [hrk]
   rfl
def Td {w0:Wd} {fs0:List Zv} (hlow:Low Zu) (h:CkO a0 w0 cb md ms Zu ZH at_ fld fs0) (v:Vl) (hm:Wo a0 v m) (K:WPr)
 (hK:∀ w',CkO a0 w' cb md ms (Zu++[(m.name,Vu Zu m+1)]) (ZH++[(m.name,jM ZH m)]) at_ (-1) m.fields→K w') :
 Calls Pg 136 #[Qq5 cb,v] w0 (EX a0 at_ (Vi Zu ZH m) K):=by
 obtain ⟨fv,rfl,hF⟩:=hm
 obtain ⟨n1,n2,l1,l2,l3⟩:=h.nd
 have lw:=h.ext.size
 have hf1:=Zd.oneCell hF
 refine ZlI ?_;unfold n88
 refine Qqv ?_
 have hC:=h.go (((Ext.refl w0).alloc (Obj.cells #[Qq5 cb] 167)).alloc (Obj.cells (Yj m fv).toArray 74))
 have z3:=Zt (w0.alloc (Obj.cells #[Qq5 cb] 167)) (Yj m fv).toArray 74
 have z2:=((Ext.refl (w0.alloc (Obj.cells #[Qq5 cb] 167))).alloc (Obj.cells (Yj m fv).toArray 74)).obj (Zt w0 _ _)
 simp only [World.size_alloc] at z3 ⊢
 generalize (World.alloc (World.alloc w0 _) _)=W at hC z2 z3 ⊢
 clear h
 obtain ⟨dn,mv,ds,mn,fv',h1,h2⟩:=hC.obj
 refine YX (w1:=W) cb cb (λ _ _ _ _=>rfl) ?_
 unfold LH
 refine Qqh (Za z2).1 ?_
 have L3:∀ w',KB W cb cb w'→QC Pg w' 74 ⟨w0.heap.size+1,0,none⟩ (.agg (Yj m fv).toArray):=λ w' hw'=>QC.many qq rfl (λ j u hu=>by
  rw [Addr.add_lit]
  exact KB.cell (b:=w0.heap.size+1) hw' C1 C1 (by rw [(Za z3).1];simpa using hu))
 rw [BB L3]
 refine Qqb (Za h1).1 (Za h1).2 ?_
 have eD:Ext W W.drew:=(Ext.refl W).wdrew
 have hC1:=(hC.go eD).setMsg m.name fv m.fields hF
 have y2:=(YA.setCell (W.drew.setCell ⟨cb,7,none⟩ (.string m.name)) cb 8 fv w0.heap.size C1).trans ((YA.setCell W.drew cb 7 (.string m.name) w0.heap.size C1).trans (eD.obj z2))
 have y3:=(YA.setCell (W.drew.setCell ⟨cb,7,none⟩ (.string m.name)) cb 8 fv (w0.heap.size+1) C1).trans ((YA.setCell W.drew cb 7 (.string m.name) (w0.heap.size+1) C1).trans (eD.obj z3))
 refine ⟨λ b hb b1 _=>(YA.setCell _ cb 8 fv b b1).trans (YA.setCell W.drew cb 7 (.string m.name) b b1),?_⟩
 show EW _ _ _ _ _ _ ((W.drew.setCell ⟨cb,7,none⟩ (.string m.name)).setCell ⟨cb,8,none⟩ fv)
 generalize ((W.drew.setCell ⟨cb,7,none⟩ (.string m.name)).setCell ⟨cb,8,none⟩ fv)=W1 at hC1 y2 y3 ⊢
 clear hC z2 z3 h1
 obtain ⟨dn,mv,ds,mn,fv',h1,h2'⟩:=hC1.obj
 unfold EW
 refine Qqb (Za h1).1 (Za h1).2 ?_
 have hC2:=hC1.setFld (-1)
 have x2:=(YA.setCell W1 cb 6 (.int .i64 (-1)) w0.heap.size C1).trans y2
 have x3:=(YA.setCell W1 cb 6 (.int .i64 (-1)) (w0.heap.size+1) C1).trans y3
 generalize (W1.setCell ⟨cb,6,none⟩ (.int .i64 (-1)))=W2 at hC2 x2 x3 ⊢
 clear hC1 y2 y3 h1
 refine Yx ?_
 refine ZB ?_
 unfold LG
 refine Qqb (Za x2).1 (Za x3).1 ?_
 refine zcr (UP _ m.name) λ w3 e3=>?_
 have e3':Ext W2 w3:=(Ext.refl W2).wdrew.trans e3
 refine ⟨e3,?_⟩
 generalize hr:Vi Zu ZH m=r
 unfold Vi at hr
 refine ZS (YK (hC2.go e3').chk _ 1 K7) (λ w4 e4 h0=>?_) (λ w4 e4 h0=>?_)
 · have e4':=e3'.trans e4
   have hn:Yq m.name=true:=Qn K7 h0
   rw [if_pos hn] at hr
   refine ⟨e3.trans e4,?_⟩
   have hC4:=hC2.go e4'
   have x2':=e4'.obj x2
   have x3':=e4'.obj x3
   obtain ⟨dn,mv,ds,mn,fv',h1,h2'⟩:=hC4.obj
   refine ZB ?_
   unfold LF
   refine Qqm (Za x2').1 (Za x3').1 (Za h1).1 ?_
   have eD4:Ext w4 w4.drew:=(Ext.refl w4).wdrew
   rw [BC underlying198 underlying9 ty3 (hC4.mdeps.ext eD4) m.name]
   have hsome:(Yy (vI Zu) m.name).isSome=(Ya Zu m.name).isSome:=by rw [Gi,Option.isSome_map]
   rw [hsome]
   refine Qqh (Za x2').1 ?_
   refine ZS (YK (hC4.go eD4).chk _ 2 K7) (λ w5 e5 h0=>?_) (λ w5 e5 h0=>?_)
   · have hs:(Ya Zu m.name).isSome=false:=by have:=Qn K7 h0;simpa using this
     rw [hs,if_neg (by simp)] at hr
     have hC5:=hC4.go (eD4.trans e5)
     have x2'':=(eD4.trans e5).obj x2'
     have x3'':=(eD4.trans e5).obj x3'
     have fin:∀ b,b=decide (1≤m.fields.length∧m.fields.length≤40)→ZU Pg 135 #[Qq5 cb,.bool b,.int .i64 3] (ZD Pg [] [] (EX a0 at_ r K)) w5 (λ _ w=>Bt (Qq5 w0.heap.size) (.pointer (some ⟨w0.heap.size+1,0,none⟩)) [] (EX a0 at_ r K) w):=by
      rintro b rfl
      refine ZS (YK hC5.chk _ 3 K7) (λ w6 e6 h0=>?_) (λ w6 e6 h0=>?_)
      · have hl:=Qn K7 h0
        simp only [decide_eq_true_eq] at hl
        rw [if_pos hl] at hr
        exact Tg hlow (hC5.go e6) w0.heap.size (w0.heap.size+1) fv hF hl.2 C1 C1 (e6.obj x2'') (e6.obj x3'') r hr.symm K hK
      · by_cases hl:1≤m.fields.length∧m.fields.length≤40
        · rw [decide_eq_true hl] at h0;exact absurd rfl h0
        · rw [if_neg hl] at hr
          rw [decide_eq_false hl]
          show ZD _ _ _ _ _ _
          rw [Ug]
          exact JO (hC5.ext.trans e6) hr.symm K7
     obtain ⟨A,c,rfl,hlc,hcm,hlm,Xj⟩:=Zd.open hF
     unfold LD
     by_cases h1l:1≤m.fields.length
     · have d1:decide ((m.fields.length:Int)≥1)=true:=by simp;omega
       by_cases h2l:m.fields.length≤40
       · have d2:decide ((m.fields.length:Int)≤40)=true:=by simp;omega
         refine Qqp (Za x2'').1 (Za x3'').1 d1 d2 ?_
         exact fin _ (by simp [h1l,h2l])
       · have d2:decide ((m.fields.length:Int)≤40)=false:=by simp;omega
         refine Qqp (Za x2'').1 (Za x3'').1 d1 d2 ?_
         exact fin _ (by simp [h2l])
     · have d1:decide ((m.fields.length:Int)≥1)=false:=by simp;omega
       refine Qqm (Za x2'').1 (Za x3'').1 d1 ?_
       exact fin _ (by simp [h1l])
   · have hs:(Ya Zu m.name).isSome=true:=by
      cases hq:(Ya Zu m.name).isSome with
      | true=>rfl
      | false=>rw [hq] at h0;exact absurd rfl h0
     rw [hs,if_pos rfl] at hr
     rw [hs]
     show ZD _ _ _ _ _ _
     rw [Ug]
     exact JO (hC4.ext.trans (eD4.trans e5)) hr.symm K7
 · have hn:Yq m.name=false:=by
    cases hq:Yq m.name with
    | false=>rfl
    | true=>rw [hq] at h0;exact absurd rfl h0
   rw [hn,if_neg (by simp)] at hr
   rw [hn]
   show ZD _ _ _ _ _ _
   rw [Ug]
   exact JO (hC2.ext.trans (e3'.trans e4)) hr.symm K7
end
def ya (s:BAr) (c:Int):Bool:=s.data.toList.any (λ x=>(x.toNat:Int) == c)
def YO {P:Program} {QP:PEn} {w:Wd} {k:KV} (T:TypeId) (cs:AVl):opV P (box T (.agg cs)) QP w k=k (Qq5 w.heap.size) (w.alloc (.cells cs T)):=Tk T (.agg cs)
def HW {α:Type} {w:Wd} {n:Nat} {E:Wd→List Vl→α→Prop} {v:Vl} {l:List α} (h:Zd w n E v l) {i:Nat} {x:α} (hi:l[i]?=some x) :
 ∃ b o c,v = .slice (some ⟨b,o,none⟩) l.length c∧l.length≤c∧c≤9223372036854775807∧l.length≤9223372036854775807∧i < l.length∧∀ k x,l[k]?=some x→∃ cs,cs.length=n∧Yr w b (o+k*n) cs∧E w cs x:=by
 obtain ⟨A,c,h1,h2,h3,h4⟩:=h
 obtain ⟨b,o,rfl,h5⟩:=h4 (by rintro rfl;cases hi)
 exact ⟨b,o,c,h1,h2,h3,by omega,(Qqx hi).1,h5⟩
end Go.Proofs.YtgalpdihjbinjaaGreatDoor
