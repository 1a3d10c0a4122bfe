/-
  Lemmas for the claim.
-/
import Derived.Test.YtgalpdihjbinjaaGreatDoorXb2
set_option linter.all false
set_option maxHeartbeats 4000000
set_option maxRecDepth 100000
open Go.Instr (loadAt storeAt fieldAt indexAt buildSlice mapUpdate makeFunc alloc build box extract fill sliceAt lookup makeInterface)
open Go.Proofs.Tryz
namespace Go.Proofs.YtgalpdihjbinjaaGreatDoor
open Sw
def HC (a b c d:Vl) (VT:KV) (ds:LDf) (R:RT) (w:Wd):Prop:=
 Zy c d (.bool false) λ e=>
 opU Pg (storeAt 4 a e) (ZB Pg ds [] R) w λ w=>
 opV Pg (ZF .add 3 true b (.int .i64 1)) (ZB Pg ds [] R) w λ f w=>
 VT f w
def SA (b e f:Vl) (VT:KV) (ds:LDf) (R:RT) (w:Wd):Prop:=
 opV Pg (loadAt 4 b) (ZB Pg ds [] R) w λ c w=>
 Zo (λ (a:Vl) (w:Wd)=>
 HC b f c a VT ds R w) λ d=>
 Zn c true (
 opV Pg (fieldAt 123 e 4) (ZB Pg ds [] R) w λ g w=>
 opV Pg (loadAt 4 g) (ZB Pg ds [] R) w λ h w=>
 opV Pg (Op.unary .not h) (ZB Pg ds [] R) w λ a w=>
 d a w) (
 d undef w)
def SB (f c g:Vl) (h:WPr) (a:PEn) (R:RT) (w:Wd):Prop:=
 opV Pg (loadAt 4 c) a w λ d w=>
 Zo (λ (b:Vl) (w:Wd)=>
 Zy d b (.bool false) λ i=>
 opU Pg (storeAt 4 c i) a w λ w=>
 h w) λ e=>
 Zn d true (
 opV Pg (loadAt 167 f) a w λ j w=>
 opN Pg (Y2 j) a w λ k w=>
 opV Pg (fieldAt 201 k 2) a w λ l w=>
 opV Pg (loadAt 199 l) a w λ m w=>
 opV Pg (lookup 199 m g false) a w λ b w=>
 e b w) (
 e undef w)
def SC (b f c d:Vl) (a:WPr) (g:WPr) (e:PEn) (R:RT) (w:Wd):Prop:=
 I0 3 c a λ h=>
 I0 167 b a λ i=>
 qN Pg a (Y2 i) λ j=>
 J0 201 j 1 a λ k=>
 I0 198 k a λ l=>
 qV Pg a (lookup 198 l d false) λ m=>
 qV Pg a (Builtin.max_ #[3,3] 3 #[h,m]) λ n=>
 opU Pg (storeAt 3 c n) e w λ w=>
 Ut w λ o w=>
 SB b f d g e R w
def SD (a b:Vl) (ds:LDf) (R:RT) (w:Wd):Prop:=
 opV Pg (loadAt 167 a) (ZB Pg ds [] R) w λ c w=>
 opV Pg (loadAt 3 b) (ZB Pg ds [] R) w λ d w=>
 opV Pg (ZF .lss 3 true d (.int .i64 16)) (ZB Pg ds [] R) w λ e w=>
 ZV Pg 135 #[c,e,(.int .i64 10)] (ZB Pg ds [] R) w λ f w=>
 Uc Pg ds [] R w
def SE (a b c d e:Vl) (f:WPr) (ds:LDf) (R:RT) (w:Wd):Prop:=
 qV Pg f (extract e 1) λ g=>
 opU Pg (Instr.entryStore 199 c g d) (ZB Pg ds [] R) w λ w=>
 Ut w λ h w=>
 SD a b ds R w
def SF (c d e b f g h i:Vl) (a:WPr) (ds:LDf) (R:RT) (w:Wd):Prop:=
 qV Pg a (extract i 1) λ j=>
 opU Pg (Instr.entryStore 198 e j g) (ZB Pg ds [] R) w λ w=>
 a w∧(
 opV Pg (Instr.mapEntry 199 b f) (ZB Pg ds [] R) w λ k w=>
 a w∧(
 SE c d b h k a ds R w))
def MU (b c f d:Vl) (a:WPr) (ds:LDf) (R:RT) (w:Wd):Prop:=
 I0 167 b a λ g=>
 qN Pg a (Y2 g) λ h=>
 J0 201 h 1 a λ i=>
 I0 198 i a λ e=>
 J0 74 c 0 a λ j=>
 I0 9 j a λ k=>
 I0 167 b a λ l=>
 qN Pg a (Y2 l) λ m=>
 J0 201 m 2 a λ n=>
 I0 199 n a λ o=>
 J0 74 c 0 a λ p=>
 I0 9 p a λ q=>
 I0 3 d a λ r=>
 qV Pg a (ZF .add 3 true r (.int .i64 1)) λ s=>
 I0 4 f a λ t=>
 opV Pg (Instr.mapEntry 198 e k) (ZB Pg ds [] R) w λ u w=>
 a w∧(
 SF b d e o q s t u a ds R w)
def SG (a d b c e:Vl) (ds:LDf) (R:RT) (w:Wd):Prop:=
 BH Pg e ds (λ l8 f w g k h=>
 Aa l8 w λ w=>
 Yg w λ i w=>
 SC a b c f i g h R w) (λ ch ds w=>ZB Pg ds [] R ch w) w (λ ds w=>
 Yg w λ j w=>
 MU a d b c j ds R w) []
def EO (a b d:Vl) (ds:LDf) (R:RT) (w:Wd):Prop:=
 opV Pg (loadAt 167 a) (ZB Pg ds [] R) w λ e w=>
 opN Pg (Y2 e) (ZB Pg ds [] R) w λ f w=>
 opV Pg (fieldAt 201 f 4) (ZB Pg ds [] R) w λ g w=>
 opU Pg (storeAt 3 g (.int .i64 (-1))) (ZB Pg ds [] R) w λ w=>
 opV Pg (alloc 3 true (.tuple #[])) (ZB Pg ds [] R) w λ c w=>
 opU Pg (storeAt 3 c (.int .i64 0)) (ZB Pg ds [] R) w λ w=>
 opV Pg (loadAt 74 b) (ZB Pg ds [] R) w λ h w=>
 ZV Pg 162 #[h] (ZB Pg ds [] R) w λ i w=>
 SG a b d c i ds R w
def Ln (c d e a:Vl) (VT:KV) (ds:LDf) (R:RT) (w:Wd):Prop:=
 opV Pg (indexAt 72 e a) (ZB Pg ds [] R) w λ f w=>
 opV Pg (loadAt 123 f) (ZB Pg ds [] R) w λ g w=>
 opV Pg (alloc 123 true (.tuple #[])) (ZB Pg ds [] R) w λ b w=>
 opU Pg (storeAt 123 b g) (ZB Pg ds [] R) w λ w=>
 opV Pg (loadAt 167 c) (ZB Pg ds [] R) w λ h w=>
 opN Pg (Y2 h) (ZB Pg ds [] R) w λ i w=>
 opV Pg (fieldAt 201 i 4) (ZB Pg ds [] R) w λ j w=>
 opU Pg (storeAt 3 j a) (ZB Pg ds [] R) w λ w=>
 opV Pg (loadAt 167 c) (ZB Pg ds [] R) w λ k w=>
 opV Pg (loadAt 123 b) (ZB Pg ds [] R) w λ l w=>
 ZV Pg 161 #[k,l] (ZB Pg ds [] R) w λ m w=>
 SA d b a VT ds R w
def EP (a d b e f c:Vl) (VT:KV) (ds:LDf) (R:RT) (w:Wd):Prop:=
 opV Pg (ZF .lss 3 false c f) (ZB Pg ds [] R) w λ g w=>
 Zs g (
 Ln a b e c VT ds R w) (
 EO a d b ds R w)
def Bv (d a:Vl) (ds:LDf) (R:RT) (w:Wd):Prop:=
 opV Pg (alloc 4 true (.tuple #[])) (ZB Pg ds [] R) w λ b w=>
 opU Pg (storeAt 4 b (.bool true)) (ZB Pg ds [] R) w λ w=>
 opV Pg (fieldAt 74 a 1) (ZB Pg ds [] R) w λ e w=>
 opV Pg (loadAt 72 e) (ZB Pg ds [] R) w λ c w=>
 opV Pg (Builtin.len_ #[72] 3 #[c]) (ZB Pg ds [] R) w λ f w=>
 Y6 (λ g w VT=>
 EP d a b c f g VT ds R w) (.int .i64 0) w
def Lo (c a:Vl) (ds:LDf) (R:RT) (w:Wd):Prop:=
 opV Pg (loadAt 167 c) (ZB Pg ds [] R) w λ f w=>
 opV Pg (fieldAt 74 a 1) (ZB Pg ds [] R) w λ g w=>
 opV Pg (loadAt 72 g) (ZB Pg ds [] R) w λ h w=>
 opV Pg (Builtin.len_ #[72] 3 #[h]) (ZB Pg ds [] R) w λ i w=>
 opV Pg (ZF .geq 3 true i (.int .i64 1)) (ZB Pg ds [] R) w λ d w=>
 Zo (λ (b:Vl) (w:Wd)=>
 Zy d b (.bool false) λ j=>
 ZV Pg 135 #[f,j,(.int .i64 3)] (ZB Pg ds [] R) w λ n w=>
 Bv c a ds R w) λ e=>
 Zn d true (
 opV Pg (fieldAt 74 a 1) (ZB Pg ds [] R) w λ k w=>
 opV Pg (loadAt 72 k) (ZB Pg ds [] R) w λ l w=>
 opV Pg (Builtin.len_ #[72] 3 #[l]) (ZB Pg ds [] R) w λ m w=>
 opV Pg (ZF .leq 3 true m (.int .i64 40)) (ZB Pg ds [] R) w λ b w=>
 e b w) (
 e undef w)
def Lp (b c:Vl) (a:WPr) (ds:LDf) (R:RT) (w:Wd):Prop:=
 I0 167 b a λ e=>
 qN Pg a (Y2 e) λ f=>
 J0 201 f 1 a λ g=>
 I0 198 g a λ h=>
 J0 74 c 0 a λ i=>
 I0 9 i a λ j=>
 qV Pg a (lookup 198 h j true) λ d=>
 qV Pg a (extract d 0) λ n=>
 qV Pg a (extract d 1) λ k=>
 opV Pg (loadAt 167 b) (ZB Pg ds [] R) w λ l w=>
 opV Pg (Op.unary .not k) (ZB Pg ds [] R) w λ m w=>
 ZV Pg 135 #[l,m,(.int .i64 2)] (ZB Pg ds [] R) w λ o w=>
 Lo b c ds R w
def Lq (b c:Vl) (a:WPr) (ds:LDf) (R:RT) (w:Wd):Prop:=
 I0 167 b a λ d=>
 J0 74 c 0 a λ e=>
 I0 9 e a λ f=>
 ZV Pg 35 #[f] (ZB Pg ds [] R) w λ g w=>
 a w∧(
 ZV Pg 135 #[d,g,(.int .i64 1)] (ZB Pg ds [] R) w λ i w=>
 a w∧(
 Yg w λ h w=>
 Lp b c h ds R w))
def ER (b c d:Vl) (a:WPr) (ds:LDf) (R:RT) (w:Wd):Prop:=
 qN Pg a (Y2 d) λ e=>
 J0 201 e 4 a λ f=>
 opU Pg (storeAt 3 f (.int .i64 (-1))) (ZB Pg ds [] R) w λ w=>
 Ut w λ h w=>
 Yg w λ g w=>
 Lq b c g ds R w
def Lr (b c:Vl) (a:WPr) (ds:LDf) (R:RT) (w:Wd):Prop:=
 I0 167 b a λ d=>
 I0 167 b a λ e=>
 I0 74 c a λ f=>
 qN Pg a (Y2 d) λ g=>
 J0 201 g 5 a λ h=>
 opU Pg (storeAt 74 h f) (ZB Pg ds [] R) w λ w=>
 a w∧(
 ER b c e a ds R w)
def n77 (a b:Vl) (R:RT) (w:Wd):Prop:=
 (λ (ds:LDf)=>
 opV Pg (box 167 a) (ZB Pg ds [] R) w λ c w=>
 opV Pg (box 74 b) (ZB Pg ds [] R) w λ d w=>
 Yg w λ e w=>
 Lr c d e ds R w) []
set_option maxHeartbeats 40000000 in
theorem ZkP {t0 t1:Vl} {R:RT} {w:Wd} (h:n77 t0 t1 R w):Calls Pg 136 #[t0,t1] w R:=by
 refine yE func136 ?_
 unfold n77 at h
 dsimp only at h
 refine zs<|zr<|yv h λ _ w h=>yv h λ _ w h=>zn<|zk<|zs<|yh [11,12,13,14,15,16,17] h λ C hC h=>ye 0 hC h λ _ h=>?_
 refine ye 1 hC h λ _ h=>?_
 refine ye 2 hC h λ _ h=>?_
 refine yn 3 hC h λ _ h=>?_
 refine ye 4 hC h λ _ h=>?_
 refine yo 5 ?_
 refine yu h λ w h=>zn ?_
 obtain ⟨hC,h⟩:=h
 refine ⟨hC,?_⟩
 refine yn 6 hC h λ _ h=>?_
 refine ye 7 hC h λ _ h=>?_
 refine yq 8 2 ?_
 refine yu h λ w h=>zn ?_
 obtain ⟨C2,hC,h⟩:=h
 refine ⟨C2,hC,?_⟩
 refine yz<|zk<|zs<|yh [18,19,20,21,22] h λ C hC h=>ye 0 hC h λ _ h=>?_
 refine ye 1 hC h λ _ h=>?_
 refine ye 2 hC h λ _ h=>?_
 refine yo 3 ?_
 refine yc h c35 λ _ w h=>zn ?_
 obtain ⟨hC,h⟩:=h
 refine ⟨hC,?_⟩
 refine yo 4 ?_
 refine yc h Ua λ _ w h=>zn ?_
 obtain ⟨hC,h⟩:=h
 refine ⟨hC,?_⟩
 refine yz<|zk<|zs<|yh [4,5,23,24,25,26,27,28,29,30,31,32] h λ C hC h=>ye 0 hC h λ _ h=>?_
 refine yn 1 hC h λ _ h=>?_
 refine ye 2 hC h λ _ h=>?_
 refine ye 3 hC h λ _ h=>?_
 refine ye 4 hC h λ _ h=>?_
 refine ye 5 hC h λ _ h=>?_
 refine ye 6 hC h λ _ h=>?_
 refine yw 7 hC ?_
 refine ye 8 hC h λ _ h=>?_
 refine ye 9 hC h λ _ h=>?_
 refine yw 10 hC ?_
 refine yw 11 hC ?_
 refine yz<|zk<|zs<|zr<|yv h λ _ w h=>zm<|yv h λ _ w h=>yc h Ua λ _ w h=>zn<|zk<|zs<|Zt<|yG 6<|yv h λ _ w h=>yv h λ _ w h=>?_
 refine yv h λ _ w h=>yx h λ _ w h=>yb h λ _ w h=>zm<|zn<|yg1 4 5 true [43,44,45,46] 46 h (λ _ T hT h=>?_) λ σ w h=>?_
 · refine yv h λ _ w h=>yv h λ _ w h=>yx h λ _ w h=>yb h λ _ w h=>zn ?_
   exact zt hT h
 refine yG 2<|yp h λ _ h=>yc h Ua λ _ w h=>zn<|ZK<|zk<|zs<|zr<|yv h λ _ w h=>yu h λ w h=>zn<|zk<|zs<|zs<|zr ?_
 refine yv h λ _ w h=>yv h λ _ w h=>yx h λ _ w h=>zm<|zn<|zk<|Zl<|yl1 [7,8,52,53,54,55,56,57,58,59,60,61,62,63,64,65,66,67,68,69,70] 52 h λ σ w next h=>zs<|zr<|yb h λ _ w h=>zn<|zk<|zs<|yC h (λ h=>?_) λ h=>?_
 · refine Zj<|zk<|zs<|Zl<|zs<|zr<|zm<|yv h λ _ w h=>yv h λ _ w h=>yv h λ _ w h=>zm<|yu h λ w h=>zn<|zk<|zs ?_
   refine zr<|yv h λ _ w h=>zm<|yN h λ _ w h=>yv h λ _ w h=>yu h λ w h=>zn<|zk<|zs<|zr<|yv h λ _ w h=>yv h λ _ w h=>yc h ZiW λ _ w h=>zn<|zk ?_
   refine Zt<|yG 2<|yv h λ _ w h=>zm<|zn<|yg1 3 1 true [66,67,68] 68 h (λ _ T hT h=>?_) λ σ w h=>?_
   · refine yv h λ _ w h=>yv h λ _ w h=>yv h λ _ w h=>zn ?_
     exact zt hT h
   exact yG 2<|yp h λ _ h=>yu h λ w h=>zn<|ZK<|Zf<|zk<|zr<|yb h λ _ w h=>zm<|zn<|zk<|⟨rfl,h⟩
 refine ZM<|Ze<|Ze<|Zu<|zk<|zs<|zr<|yv h λ _ w h=>yN h λ _ w h=>yv h λ _ w h=>yu h λ w h=>zn<|zk<|zs<|zr ?_
 refine yv h λ _ w h=>yu h λ w h=>zn<|zk<|zs<|zs<|zr<|yv h λ _ w h=>yc h Ze7 λ _ w h=>zn<|zk<|Zl<|Gt [] h rfl (λ l8 t76 w Kr8 Xr8 Qr8 h=>?_) (λ ds w h=>?_) (λ c ds w h=>?_) (λ ch ds w h=>X7 rfl h)
 · refine zr<|zm<|zn<|zk ?_
   obtain ⟨hr,h⟩:=h
   refine ⟨rfl,hr,λ w hb=>?_⟩
   have h:=h w hb
   refine Zl<|zs<|yh [77,78,79,80,81,82,83,84] h λ C hC h=>ye 0 hC h λ _ h=>?_
   refine ye 1 hC h λ _ h=>?_
   refine yn 2 hC h λ _ h=>?_
   refine ye 3 hC h λ _ h=>?_
   refine ye 4 hC h λ _ h=>?_
   refine yw 5 hC ?_
   refine ye 6 hC h λ _ h=>?_
   refine ye 7 hC h λ _ h=>?_
   refine yq 8 1 ?_
   refine yu h λ w h=>zn ?_
   obtain ⟨C10,hC,h⟩:=h
   refine ⟨C10,hC,?_⟩
   refine yz<|zk<|Zt<|yG 2<|yv h λ _ w h=>zm<|zn<|yg1 6 1 true [87,88,89,90,91,92] 92 h (λ _ T hT h=>?_) λ σ w h=>?_
   · refine yv h λ _ w h=>yN h λ _ w h=>yv h λ _ w h=>yv h λ _ w h=>zm<|yv h λ _ w h=>zn ?_
     exact zt hT h
   exact yG 2<|yp h λ _ h=>yu h λ w h=>zn<|ZK<|Zf<|⟨rfl,h⟩
 · refine Zf<|zk<|zs<|yh [94,95,96,97,98,99,100,101,102,103,104,105,106,107,108,109,110,111,112] h λ C hC h=>ye 0 hC h λ _ h=>?_
   refine yn 1 hC h λ _ h=>?_
   refine ye 2 hC h λ _ h=>?_
   refine ye 3 hC h λ _ h=>?_
   refine ye 4 hC h λ _ h=>?_
   refine ye 5 hC h λ _ h=>?_
   refine ye 6 hC h λ _ h=>?_
   refine yn 7 hC h λ _ h=>?_
   refine ye 8 hC h λ _ h=>?_
   refine ye 9 hC h λ _ h=>?_
   refine ye 10 hC h λ _ h=>?_
   refine ye 11 hC h λ _ h=>?_
   refine ye 12 hC h λ _ h=>?_
   refine ye 13 hC h λ _ h=>?_
   refine ye 14 hC h λ _ h=>?_
   refine yo 15 ?_
   refine yv h λ _ w h=>zn ?_
   obtain ⟨hC,h⟩:=h
   refine ⟨hC,?_⟩
   refine ye 16 hC h λ _ h=>?_
   refine yo 17 ?_
   refine yu h λ w h=>zn ?_
   obtain ⟨hC,h⟩:=h
   refine ⟨hC,?_⟩
   refine yo 18 ?_
   refine yv h λ _ w h=>zn ?_
   obtain ⟨hC,h⟩:=h
   refine ⟨hC,?_⟩
   refine ye 19 hC h λ _ h=>?_
   refine yq 20 1 ?_
   refine yu h λ w h=>zn ?_
   obtain ⟨C13,hC,h⟩:=h
   refine ⟨C13,hC,?_⟩
   exact yz<|zk<|zr<|yv h λ _ w h=>yv h λ _ w h=>yb h λ _ w h=>yc h Ua λ _ w h=>zn<|zM<|X8 rfl h
 exact h.elim
def I3 (b c a:Vl) (Zx:KV) (R:RT) (w:Wd):Prop:=
 X0 170 b a R w λ d w=>
 L0 4 d R w λ e w=>
 B0 .eql 4 false c e R w λ f w=>
 Zs f (
 R (.returned a) w) (
 B0 .add 3 true a (.int .i64 1) R w λ g w=>
 Zx g w)
def Zhf (a c:Vl) (R:RT) (w:Wd):Prop:=
 G0 170 3 a R w λ d w=>
 Y6 (λ b w Zx=>
 B0 .lss 3 false b d R w λ e w=>
 Zs e (
 I3 a c b Zx R w) (
 R (.returned (.int .i64 (-1))) w)) (.int .i64 0) w
theorem Zhg {t0 t1:Vl} {R:RT} {w:Wd} (h:Zhf t0 t1 R w):Calls Pg 137 #[t0,t1] w R:=by
 refine yD func137 ?_
 refine zs<|zr<|zm<|zn<|zk<|zs<|zs<|zr<|zm<|yx h λ _ w h=>zm<|zn<|zk<|Zl<|yl1 [4,5,8,9,10,11,12,13,14,15,16,17,18] 8 h λ σ w next h=>?_
 refine zs<|zr<|yb h λ _ w h=>zn<|zk<|zs<|yC h (λ h=>?_) λ h=>?_
 · refine Zj<|zk<|zs<|Zl<|zs<|zr<|zm<|zm<|zn<|zk<|zs<|zr<|zm<|zm<|zm ?_
   refine yv h λ _ w h=>yv h λ _ w h=>yb h λ _ w h=>zn<|zk<|yC h (λ h=>zs<|zr<|zm<|zm<|zn<|zk<|Zg<|Zh<|Zb<|Zb<|Zh<|Zb<|Zi rfl rfl h) λ h=>Zj<|Zf<|zk<|zr<|yb h λ _ w h=>zm<|zn<|zk ?_
   exact ⟨rfl,h⟩
 exact ZM<|Ze<|Ze<|Zu<|zk<|zs<|zr<|zm<|zn<|zk<|Zg<|Zi rfl rfl h
def Zdl (a:Vl) (R:RT) (w:Wd):Prop:=
 opV Pg (Builtin.max_ #[3,3] 3 #[a,(.int .i64 0)]) (Zd R) w λ b w=>
 B0 .geq 3 true a (.int .i64 0) R w λ c w=>
 R (.returned (.tuple #[b,c])) w
def n84 (a b:Vl) (R:RT) (w:Wd):Prop:=
 C0 163 #[a,b] R w λ c w=>
 Zdl c R w
theorem ZkX {t0 t1:Vl} {R:RT} {w:Wd} (h:n84 t0 t1 R w):Calls Pg 138 #[t0,t1] w R:=by
 refine yD func138 ?_
 refine zs<|zr<|zm<|zm<|zn<|zk<|zs<|zr<|zm<|zm<|yc h ZiX λ _ w h=>zm<|zn<|zk<|zs ?_
 exact zr<|zm<|yx h λ _ w h=>zm<|yb h λ _ w h=>zm<|zm<|zn<|zk<|Zg<|Yk rfl rfl rfl h
def n65 (a b:Vl) (R:RT) (w:Wd):Prop:=
 opV Pg (box 74 a) (Zd R) w λ c w=>
 F0 74 c 0 R w λ d w=>
 L0 9 d R w λ e w=>
 L0 9 b R w λ f w=>
 B0 .eql 9 false e f R w λ g w=>
 R (.returned g) w
theorem ZkE {t0 t1:Vl} {R:RT} {w:Wd} (h:n65 t0 t1 R w):Calls Pg 139 #[t0,t1] w R:=by
 refine yD func139 ?_
 refine zs<|zr<|yv h λ _ w h=>zm<|zn<|zk<|zs<|zr<|yv h λ _ w h=>yv h λ _ w h=>yv h λ _ w h=>yb h λ _ w h=>zm<|zn<|zk ?_
 exact Zg<|Zi rfl rfl h
def n62 (b c:Vl) (R:RT) (w:Wd):Prop:=
 opV Pg (box 74 b) (Zd R) w λ d w=>
 opV Pg (box 9 c) (Zd R) w λ e w=>
 F0 74 d 1 R w λ f w=>
 L0 72 f R w λ g w=>
 opV Pg (makeFunc (.func 165) #[] #[e]) (Zd R) w λ h w=>
 C0 164 #[g,h] R w λ a w=>
 E0q a 0 R w λ i w=>
 E0q a 1 R w λ j w=>
 R (.returned (.tuple #[i,j])) w
theorem ZkB {t0 t1:Vl} {R:RT} {w:Wd} (h:n62 t0 t1 R w):Calls Pg 140 #[t0,t1] w R:=by
 refine yD func140 ?_
 refine zs<|zr<|yv h λ _ w h=>yv h λ _ w h=>zm<|zm<|zn<|zk<|zs<|zr<|yv h λ _ w h=>yv h λ _ w h=>yF h λ _ w h=>yc h ZiY λ _ w h=>yv h λ _ w h=>?_
 exact yv h λ _ w h=>zm<|zm<|zn<|zk<|Zg<|Yk rfl rfl rfl h
def n49 (a:Vl) (R:RT) (w:Wd):Prop:=
 opV Pg (box 123 a) (Zd R) w λ b w=>
 L0 123 b R w λ c w=>
 opV Pg (buildSlice 72 1 #[(0,c)]) (Zd R) w λ d w=>
 opV Pg (build 74 #[(1,d)]) (Zd R) w λ e w=>
 C0 162 #[e] R w λ f w=>
 C0 166 #[f] R w λ g w=>
 R (.returned g) w
theorem Zko {t0:Vl} {R:RT} {w:Wd} (h:n49 t0 R w):Calls Pg 141 #[t0] w R:=by
 refine yD func141 ?_
 refine zs<|zr<|yv h λ _ w h=>zm<|zn<|zk<|zs<|zr<|yv h λ _ w h=>yS h λ _ w h=>yB h λ _ w h=>yc h Ze7 λ _ w h=>yc h Zi0 λ _ w h=>zm<|zn ?_
 exact zk<|Zg<|Zi rfl rfl h
def ZgL (a b:Vl) (R:RT) (w:Wd):Prop:=
 C0 167 #[a,b] R w λ c w=>
 B0 .geq 3 true c (.int .i64 0) R w λ d w=>
 R (.returned d) w
theorem ZgM {t0 t1:Vl} {R:RT} {w:Wd} (h:ZgL t0 t1 R w):Calls Pg 142 #[t0,t1] w R:=by
 refine yD func142 ?_
 refine zs<|zr<|zm<|zn<|zk<|zs<|zr<|zm<|zm<|yc h c167 λ _ w h=>yb h λ _ w h=>zm<|zn<|zk<|Zg ?_
 exact Zi rfl rfl h
def n94 (a:Vl) (R:RT) (w:Wd):Prop:=
 opN Pg (Y2 a) (Zd R) w λ b w=>
 F0 123 b 2 R w λ c w=>
 opU Pg (storeAt 3 c (.int .i64 0)) (Zd R) w λ w=>
 R (.returned (.tuple #[])) w
theorem Zk7 {t0:Vl} {R:RT} {w:Wd} (h:n94 t0 R w):Calls Pg 233 #[t0] w R:=by
 refine yD func233 ?_
 exact zr<|zm<|yN h λ _ w h=>yv h λ _ w h=>yu h λ w h=>zn<|ZG<|ZQ rfl h
def SI (d b e f:Vl) (R:RT) (w:Wd):Prop:=
 Zo (λ (a:Vl) (w:Wd)=>
 Zy b (.bool true) a λ g=>
 C0 135 #[d,g,(.int .i64 6)] R w λ h w=>
 R (.returned (.tuple #[])) w) λ c=>
 Zn b false (
 Zy e f (.bool false) λ a=>
 c a w) (
 c undef w)
def SJ (d e f b:Vl) (R:RT) (w:Wd):Prop:=
 Zo (λ (a:Vl) (w:Wd)=>
 SI d f b a R w) λ c=>
 Zn b true (
 F0 123 e 2 R w λ g w=>
 L0 3 g R w λ h w=>
 B0 .rem 3 true h (.int .i64 8) R w λ i w=>
 B0 .eql 3 true i (.int .i64 0) R w λ a w=>
 c a w) (
 c undef w)
def SK (g b c d:Vl) (R:RT) (w:Wd):Prop:=
 Zo (λ (a:Vl) (w:Wd)=>
 Zo (λ (h:Vl) (w:Wd)=>
 SJ g b c h R w) λ e=>
 Zn c false (
 Zy d a (.bool false) λ i=>
 e i w) (
 e undef w)) λ f=>
 Zn d true (
 F0 123 b 2 R w λ j w=>
 L0 3 j R w λ k w=>
 B0 .leq 3 true k (.int .i64 512) R w λ a w=>
 f a w) (
 f undef w)
def SL (d a e f:Vl) (R:RT) (w:Wd):Prop:=
 Zy e (.bool true) f λ b=>
 Zo (λ (g:Vl) (w:Wd)=>
 SK d a b g R w) λ c=>
 Zn b false (
 F0 123 a 2 R w λ h w=>
 L0 3 h R w λ i w=>
 B0 .geq 3 true i (.int .i64 8) R w λ j w=>
 c j w) (
 c undef w)
def n95 (e f:Vl) (R:RT) (w:Wd):Prop:=
 opV Pg (box 123 f) (Zd R) w λ a w=>
 F0 123 a 2 R w λ g w=>
 L0 3 g R w λ h w=>
 B0 .eql 3 true h (.int .i64 2) R w λ c w=>
 Zo (λ (b:Vl) (w:Wd)=>
 SL e a c b R w) λ d=>
 Zn c false (
 F0 123 a 2 R w λ i w=>
 L0 3 i R w λ j w=>
 B0 .eql 3 true j (.int .i64 4) R w λ b w=>
 d b w) (
 d undef w)
theorem Zk8 {t0 t1:Vl} {R:RT} {w:Wd} (h:n95 t0 t1 R w):Calls Pg 234 #[t0,t1] w R:=by
 refine yD func234 ?_
 refine zs<|zr<|yv h λ _ w h=>zn<|zk<|Zt<|yG 5<|zm<|yv h λ _ w h=>yv h λ _ w h=>yb h λ _ w h=>zm<|zn<|yg1 3 4 false [9,10,11] 11 h (λ _ T hT h=>?_) λ σ w h=>?_
 · refine yv h λ _ w h=>yv h λ _ w h=>yb h λ _ w h=>zn ?_
   exact zt hT h
 refine yG 2<|yp h λ _ h=>zm<|zn<|yg1 4 9 false [14,15,16,17] 17 h (λ _ T hT h=>?_) λ σ w h=>?_
 · refine yv h λ _ w h=>yv h λ _ w h=>yb h λ _ w h=>zm<|zn ?_
   exact zt hT h
 refine yg1 3 13 true [18,19,20] 20 h (λ _ T hT h=>?_) λ σ w h=>?_
 · refine yv h λ _ w h=>yv h λ _ w h=>yb h λ _ w h=>zn ?_
   exact zt hT h
 refine yg1 2 9 false [21,22] 22 h (λ _ T hT h=>?_) λ σ w h=>?_
 · refine yp h λ _ h=>zm<|zn ?_
   exact zt hT h
 refine yg1 4 18 true [23,24,25,26] 26 h (λ _ T hT h=>?_) λ σ w h=>?_
 · refine yv h λ _ w h=>yv h λ _ w h=>yb h λ _ w h=>yb h λ _ w h=>zn ?_
   exact zt hT h
 refine yg1 1 9 false [27] 27 h (λ _ T hT h=>?_) λ σ w h=>?_
 · refine yp h λ _ h=>zn ?_
   exact zt hT h
 exact yG 2<|yp h λ _ h=>yc h Ua λ _ w h=>zn<|ZK<|ZG<|ZQ rfl h
def n96 (a:Vl) (R:RT) (w:Wd):Prop:=
 opN Pg (Y2 a) (Zd R) w λ b w=>
 F0 123 b 10 R w λ c w=>
 opU Pg (storeAt 9 c (.string { data := #[] })) (Zd R) w λ w=>
 opN Pg (Y2 a) (Zd R) w λ d w=>
 F0 123 d 12 R w λ e w=>
 opU Pg (storeAt 3 e (.int .i64 0)) (Zd R) w λ w=>
 R (.returned (.tuple #[])) w
theorem Zk9 {t0:Vl} {R:RT} {w:Wd} (h:n96 t0 R w):Calls Pg 235 #[t0] w R:=by
 refine yD func235 ?_
 exact zr<|zm<|zm<|yN h λ _ w h=>yv h λ _ w h=>yu h λ w h=>yN h λ _ w h=>yv h λ _ w h=>yu h λ w h=>zn<|ZG<|ZQ rfl h
def MZ (c a:Vl) (b:WPr) (R:RT) (w:Wd):Prop:=
 qV Pg b (extract a 0) λ e=>
 qV Pg b (extract a 1) λ d=>
 C0 135 #[c,d,(.int .i64 8)] R w λ f w=>
 R (.returned (.tuple #[])) w
def M1 (b c:Vl) (a:WPr) (R:RT) (w:Wd):Prop:=
 J0 123 c 10 a λ d=>
 I0 9 d a λ e=>
 C0 195 #[b] R w λ f w=>
 a w∧(
 qV Pg a (build 74 #[(1,f)]) λ g=>
 C0 140 #[g,e] R w λ h w=>
 a w∧(
 MZ b h a R w))
def n98 (a c:Vl) (R:RT) (w:Wd):Prop:=
 opV Pg (box 123 c) (Zd R) w λ b w=>
 F0 123 b 12 R w λ d w=>
 L0 3 d R w λ e w=>
 opV Pg (buildSlice 61 1 #[(0,e)]) (Zd R) w λ f w=>
 C0 215 #[a,(.int .i64 1),(.int .i64 3),f] R w λ h w=>
 Yg w λ g w=>
 M1 a b g R w
theorem Zlb {t0 t1:Vl} {R:RT} {w:Wd} (h:n98 t0 t1 R w):Calls Pg 236 #[t0,t1] w R:=by
 refine yD func236 ?_
 refine zs<|zr<|yv h λ _ w h=>zn<|zk<|zs<|zr<|zm<|yv h λ _ w h=>yv h λ _ w h=>yS h λ _ w h=>yc h D4 λ _ w h=>zn<|zk<|zs ?_
 refine yh [4,5,11,12,13,14,15,16,17,18,19] h λ C hC h=>yw 0 hC ?_
 refine ye 3 hC h λ _ h=>?_
 refine ye 4 hC h λ _ h=>?_
 refine yo 1 ?_
 refine yc h Nu λ _ w h=>zn ?_
 obtain ⟨hC,h⟩:=h
 refine ⟨hC,?_⟩
 refine ye 2 hC h λ _ h=>?_
 refine yo 5 ?_
 refine yc h ZdK λ _ w h=>zn ?_
 obtain ⟨hC,h⟩:=h
 refine ⟨hC,?_⟩
 refine yw 6 hC ?_
 refine ye 7 hC h λ _ h=>?_
 refine ye 8 hC h λ _ h=>?_
 refine yw 9 hC ?_
 refine yw 10 hC ?_
 exact yz<|zk<|zr<|zm<|zm<|yc h Ua λ _ w h=>zn<|ZG<|ZQ rfl h
def n99 (a:Vl) (R:RT) (w:Wd):Prop:=
 opV Pg (build 120 #[]) (Zd R) w λ b w=>
 opN Pg (Y2 a) (Zd R) w λ c w=>
 F0 123 c 8 R w λ d w=>
 opU Pg (storeAt 9 d (.string { data := #[] })) (Zd R) w λ w=>
 opN Pg (Y2 a) (Zd R) w λ e w=>
 F0 123 e 7 R w λ f w=>
 S0 120 f b R w λ w=>
 opN Pg (Y2 a) (Zd R) w λ g w=>
 F0 123 g 13 R w λ h w=>
 opU Pg (storeAt 3 h (.int .i64 0)) (Zd R) w λ w=>
 R (.returned (.tuple #[])) w
theorem Zlc {t0:Vl} {R:RT} {w:Wd} (h:n99 t0 R w):Calls Pg 237 #[t0] w R:=by
 refine yD func237 ?_
 refine zr<|zm<|zm<|zm<|yB h λ _ w h=>yN h λ _ w h=>yv h λ _ w h=>yu h λ w h=>yN h λ _ w h=>yv h λ _ w h=>yu h λ w h=>yN h λ _ w h=>yv h λ _ w h=>yu h λ w h=>zn ?_
 exact ZG<|ZQ rfl h
def P2 (b c:Vl) (a:WPr) (R:RT) (w:Wd):Prop:=
 qN Pg a (Y2 b) λ d=>
 J0 201 d 2 a λ e=>
 I0 199 e a λ f=>
 J0 123 c 8 a λ g=>
 I0 9 g a λ h=>
 qV Pg a (lookup 199 f h false) λ i=>
 C0 135 #[b,i,(.int .i64 8)] R w λ k w=>
 a w∧(
 L0 123 c R w λ j w=>
 C0 221 #[b,j] R w λ l w=>
 R (.returned (.tuple #[])) w)
def Zfz (a c:Vl) (R:RT) (w:Wd):Prop:=
 opV Pg (box 123 c) (Zd R) w λ b w=>
 F0 123 b 13 R w λ d w=>
 L0 3 d R w λ e w=>
 opV Pg (buildSlice 61 1 #[(0,e)]) (Zd R) w λ f w=>
 C0 215 #[a,(.int .i64 0),(.int .i64 4294967295),f] R w λ h w=>
 Yg w λ g w=>
 P2 a b g R w
theorem ZfA {t0 t1:Vl} {R:RT} {w:Wd} (h:Zfz t0 t1 R w):Calls Pg 238 #[t0,t1] w R:=by
 refine yD func238 ?_
 refine zs<|zr<|yv h λ _ w h=>zn<|zk<|zs<|zr<|zm<|yv h λ _ w h=>yv h λ _ w h=>yS h λ _ w h=>yc h D4 λ _ w h=>zn<|zk<|zs ?_
 refine yh [9,10,11,12,13,14,15,16,17] h λ C hC h=>yw 0 hC ?_
 refine yw 1 hC ?_
 refine yn 2 hC h λ _ h=>?_
 refine ye 3 hC h λ _ h=>?_
 refine ye 4 hC h λ _ h=>?_
 refine ye 5 hC h λ _ h=>?_
 refine ye 6 hC h λ _ h=>?_
 refine ye 7 hC h λ _ h=>?_
 refine yo 8 ?_
 refine yc h Ua λ _ w h=>zn ?_
 obtain ⟨hC,h⟩:=h
 refine ⟨hC,?_⟩
 exact yz<|zk<|zr<|zm<|yv h λ _ w h=>yc h ZdL λ _ w h=>zn<|ZG<|ZQ rfl h
def ZfP (c:Vl) (R:RT) (w:Wd):Prop:=
 opV Pg (box 123 c) (Zd R) w λ a w=>
 opV Pg (alloc 287 true (.tuple #[])) (Zd R) w λ b w=>
 F0 123 a 0 R w λ d w=>
 L0 9 d R w λ e w=>
 F0 123 a 8 R w λ f w=>
 L0 9 f R w λ g w=>
 F0 123 a 9 R w λ h w=>
 L0 9 h R w λ i w=>
 F0 123 a 10 R w λ j w=>
 L0 9 j R w λ k w=>
 F0 123 a 1 R w λ l w=>
 L0 117 l R w λ m w=>
 F0 123 a 2 R w λ n w=>
 L0 3 n R w λ o w=>
 F0 123 a 5 R w λ p w=>
 L0 3 p R w λ q w=>
 F0 123 a 6 R w λ r w=>
 L0 3 r R w λ s w=>
 F0 123 a 7 R w λ t w=>
 F0 120 t 0 R w λ u w=>
 L0 3 u R w λ v w=>
 F0 123 a 12 R w λ x w=>
 L0 3 x R w λ y w=>
 F0 123 a 13 R w λ z w=>
 L0 3 z R w λ A w=>
 F0 123 a 3 R w λ B w=>
 L0 4 B R w λ C w=>
 F0 123 a 4 R w λ D w=>
 L0 4 D R w λ E w=>
 opV Pg (build 287 #[(0,e),(1,g),(2,i),(3,k),(4,m),(5,o),(6,q),(7,s),(8,v),(9,y),(10,A),(11,C),(12,E)]) (Zd R) w λ G w=>
 S0 287 b G R w λ w=>
 qW Pg 287 b w λ r0=>
 R (.returned r0) w
theorem ZfQ {t0:Vl} {R:RT} {w:Wd} (h:ZfP t0 R w):Calls Pg 239 #[t0] w R:=by
 refine yD func239 ?_
 refine zs<|zr<|yv h λ _ w h=>yv h λ _ w h=>zn<|zk<|zs<|zr<|yv h λ _ w h=>yv h λ _ w h=>yv h λ _ w h=>yv h λ _ w h=>yv h λ _ w h=>yv h λ _ w h=>yv h λ _ w h=>?_
 refine yv h λ _ w h=>yv h λ _ w h=>yv h λ _ w h=>yv h λ _ w h=>yv h λ _ w h=>yv h λ _ w h=>yv h λ _ w h=>yv h λ _ w h=>yv h λ _ w h=>yv h λ _ w h=>yv h λ _ w h=>yv h λ _ w h=>yv h λ _ w h=>yv h λ _ w h=>yv h λ _ w h=>?_
 exact yv h λ _ w h=>yv h λ _ w h=>yv h λ _ w h=>yv h λ _ w h=>yv h λ _ w h=>yB h λ _ w h=>yu h λ w h=>zn<|zk<|Zg<|xm rfl rfl h
def Jy (c d b:Vl) (a:WPr) (Zx:KV) (R:RT) (w:Wd):Prop:=
 M0 118 c b a λ e=>
 I0 128 e a λ f=>
 M0 118 d b a λ g=>
 I0 128 g a λ h=>
 qV Pg a (ZF .neq 128 false f h) λ i=>
 Zs i (
 R (.returned (.bool false)) w) (
 B0 .add 3 true b (.int .i64 1) R w λ j w=>
 Zx j w)
def Jz (a c:Vl) (R:RT) (w:Wd):Prop:=
 G0 118 3 a R w λ d w=>
 Y6 (λ b w Zx=>
 B0 .lss 3 false b d R w λ e w=>
 Zs e (
 Yg w λ f w=>
 Jy a c b f Zx R w) (
 R (.returned (.bool true)) w)) (.int .i64 0) w
def ZgV (a b:Vl) (R:RT) (w:Wd):Prop:=
 G0 118 3 a R w λ c w=>
 G0 118 3 b R w λ d w=>
 B0 .neq 3 false c d R w λ e w=>
 Zs e (
 R (.returned (.bool false)) w) (
 Jz a b R w)
theorem ZgW {t0 t1:Vl} {R:RT} {w:Wd} (h:ZgV t0 t1 R w):Calls Pg 240 #[t0,t1] w R:=by
 refine yD func240 ?_
 refine zs<|zr<|zm<|zn<|zk<|zs<|zs<|zr<|zm<|yx h λ _ w h=>zm<|yx h λ _ w h=>yb h λ _ w h=>zn<|zk ?_
 refine yC h (λ h=>zs<|zr<|zm<|zn<|zk<|Zg<|Zb<|Zi rfl rfl h) λ h=>Zj<|zk<|zs<|zs<|zr<|zm<|yx h λ _ w h=>zm<|zn<|zk<|Zl<|yl1 [4,5,13,14,15,16,17,18,19,20,21,22,23,24,25] 13 h λ σ w next h=>zs ?_
 refine zr<|yb h λ _ w h=>zn<|zk<|zs<|yC h (λ h=>?_) λ h=>?_
 · refine Zj<|zk<|zs<|Zl<|zs<|zr<|zm<|zm<|zn<|zk<|zs<|yh [16,17,18,19,20,21,22,23,24] h λ C hC h=>yw 0 hC ?_
   refine yw 1 hC ?_
   refine ye 2 hC h λ _ h=>?_
   refine ye 3 hC h λ _ h=>?_
   refine yw 4 hC ?_
   refine yw 5 hC ?_
   refine ye 6 hC h λ _ h=>?_
   refine ye 7 hC h λ _ h=>?_
   refine ye 8 hC h λ _ h=>?_
   exact yz<|zk<|yC h (λ h=>zs<|zr<|zm<|zn<|zk<|Zg<|Zh<|Zb<|Zb<|Zh<|Zb<|Zi rfl rfl h) λ h=>Zj<|Zf<|zk<|zr<|yb h λ _ w h=>zm<|zn<|zk<|⟨rfl,h⟩
 exact ZM<|Ze<|Ze<|Zu<|zk<|zs<|zr<|zm<|zn<|zk<|Zg<|Zi rfl rfl h
def Jt (c d b:Vl) (a:WPr) (Zx:KV) (R:RT) (w:Wd):Prop:=
 M0 121 c b a λ e=>
 I0 213 e a λ f=>
 M0 121 d b a λ g=>
 I0 213 g a λ h=>
 qV Pg a (ZF .neq 213 false f h) λ i=>
 Zs i (
 R (.returned (.bool false)) w) (
 B0 .add 3 true b (.int .i64 1) R w λ j w=>
 Zx j w)
def Ju (a c:Vl) (R:RT) (w:Wd):Prop:=
 G0 121 3 a R w λ d w=>
 Y6 (λ b w Zx=>
 B0 .lss 3 false b d R w λ e w=>
 Zs e (
 Yg w λ f w=>
 Jt a c b f Zx R w) (
 R (.returned (.bool true)) w)) (.int .i64 0) w
def ZgR (a b:Vl) (R:RT) (w:Wd):Prop:=
 G0 121 3 a R w λ c w=>
 G0 121 3 b R w λ d w=>
 B0 .neq 3 false c d R w λ e w=>
 Zs e (
 R (.returned (.bool false)) w) (
 Ju a b R w)
theorem ZgS {t0 t1:Vl} {R:RT} {w:Wd} (h:ZgR t0 t1 R w):Calls Pg 241 #[t0,t1] w R:=by
 refine yD func241 ?_
 refine zs<|zr<|zm<|zn<|zk<|zs<|zs<|zr<|zm<|yx h λ _ w h=>zm<|yx h λ _ w h=>yb h λ _ w h=>zn<|zk ?_
 refine yC h (λ h=>zs<|zr<|zm<|zn<|zk<|Zg<|Zb<|Zi rfl rfl h) λ h=>Zj<|zk<|zs<|zs<|zr<|zm<|yx h λ _ w h=>zm<|zn<|zk<|Zl<|yl1 [4,5,13,14,15,16,17,18,19,20,21,22,23,24,25] 13 h λ σ w next h=>zs ?_
 refine zr<|yb h λ _ w h=>zn<|zk<|zs<|yC h (λ h=>?_) λ h=>?_
 · refine Zj<|zk<|zs<|Zl<|zs<|zr<|zm<|zm<|zn<|zk<|zs<|yh [16,17,18,19,20,21,22,23,24] h λ C hC h=>yw 0 hC ?_
   refine yw 1 hC ?_
   refine ye 2 hC h λ _ h=>?_
   refine ye 3 hC h λ _ h=>?_
   refine yw 4 hC ?_
   refine yw 5 hC ?_
   refine ye 6 hC h λ _ h=>?_
   refine ye 7 hC h λ _ h=>?_
   refine ye 8 hC h λ _ h=>?_
   exact yz<|zk<|yC h (λ h=>zs<|zr<|zm<|zn<|zk<|Zg<|Zh<|Zb<|Zb<|Zh<|Zb<|Zi rfl rfl h) λ h=>Zj<|Zf<|zk<|zr<|yb h λ _ w h=>zm<|zn<|zk<|⟨rfl,h⟩
 exact ZM<|Ze<|Ze<|Zu<|zk<|zs<|zr<|zm<|zn<|zk<|Zg<|Zi rfl rfl h
def ZcO (a:Vl) (R:RT) (w:Wd):Prop:=
 opV Pg (Op.unary .neg a) (Zd R) w λ b w=>
 B0 .and 191 false a b R w λ c w=>
 opV Pg (ZF .mul 191 true c (.int .u64 285870213051353865)) (Zd R) w λ d w=>
 opV Pg (ZF .shr 191 true d (.int .u64 58)) (Zd R) w λ e w=>
 opV Pg (indexAt 306 (.pointer (some ⟨7,0,none⟩)) e) (Zd R) w λ f w=>
 L0 5 f R w λ g w=>
 opV Pg (Go.convert 5 3 g) (Zd R) w λ h w=>
 R (.returned h) w
def n54 (a:Vl) (R:RT) (w:Wd):Prop:=
 opV Pg (ZF .eql 191 true a (.int .u64 0)) (Zd R) w λ b w=>
 Zs b (
 R (.returned (.int .i64 64)) w) (
 ZcO a R w)
theorem Zkt {t0:Vl} {R:RT} {w:Wd} (h:n54 t0 R w):Calls Pg 245 #[t0] w R:=by
 refine yD func245 ?_
 refine zs<|zr<|zm<|zn<|zk<|zs<|zs<|zr<|zm<|yb h λ _ w h=>zn<|zk<|yC h (λ h=>zs<|zr<|zm<|zn<|zk<|Zg<|Zb<|Zi rfl rfl h) λ h=>Zj ?_
 refine zk<|zs<|zr<|zm<|zm<|yv h λ _ w h=>yb h λ _ w h=>yb h λ _ w h=>yb h λ _ w h=>yv h λ _ w h=>yv h λ _ w h=>yv h λ _ w h=>zm<|zn<|zk ?_
 exact Zg<|Zi rfl rfl h
def xN (e f c:Vl) (a:WPr) (R:RT) (w:Wd):Prop:=
 Zo (λ (b:Vl) (w:Wd)=>
 Zy c b (.bool false) λ g=>
 R (.returned g) w) λ d=>
 Zn c true (
 J0 120 e 1 a λ h=>
 I0 118 h a λ i=>
 C0 254 #[i,f] R w λ j w=>
 a w∧(
 qV Pg a (Op.unary .not j) λ b=>
 d b w)) (
 d undef w)
def xO (b c d e:Vl) (a:WPr) (R:RT) (w:Wd):Prop:=
 a w∧(
 opV Pg (buildSlice 170 2 #[(0,d),(1,e)]) (Zd R) w λ f w=>
 a w∧(
 C0 74 #[f] R w λ g w=>
 a w∧(
 xN b c g a R w)))
def xP (b c:Vl) (a:WPr) (R:RT) (w:Wd):Prop:=
 J0 120 b 0 a λ d=>
 I0 3 d a λ e=>
 J0 120 b 1 a λ f=>
 I0 118 f a λ g=>
 qV Pg a (Builtin.len_ #[118] 3 #[g]) λ h=>
 qV Pg a (ZF .leq 3 true h (.int .i64 4)) λ i=>
 C0 253 #[e] R w λ j w=>
 xO b c j i a R w
def Zgb (b:Vl) (R:RT) (w:Wd):Prop:=
 opV Pg (box 120 b) (Zd R) w λ c w=>
 opV Pg (Instr.makeMap 199 none) (Zd R) w λ d w=>
 opV Pg (alloc 199 true (.tuple #[])) (Zd R) w λ a w=>
 S0 199 a d R w λ w=>
 opV Pg (makeFunc (.func 252) #[] #[a]) (Zd R) w λ e w=>
 Yg w λ f w=>
 xP c e f R w
theorem Zgc {t0:Vl} {R:RT} {w:Wd} (h:Zgb t0 R w):Calls Pg 246 #[t0] w R:=by
 refine yD func246 ?_
 refine zs<|zr<|yv h λ _ w h=>zm<|zn<|zk<|zs<|zr<|yv h λ _ w h=>yv h λ _ w h=>yu h λ w h=>zn<|zk<|zs<|zr ?_
 refine yF h λ _ w h=>zm<|zn<|zk<|zs<|yh [2,7,8,9,10,11,12,13,14,15,16,17,18,19,20,21,22] h λ C hC h=>ye 0 hC h λ _ h=>?_
 refine ye 1 hC h λ _ h=>?_
 refine ye 3 hC h λ _ h=>?_
 refine ye 4 hC h λ _ h=>?_
 refine ye 5 hC h λ _ h=>?_
 refine ye 6 hC h λ _ h=>?_
 refine yo 2 ?_
 refine yc h Zfe λ _ w h=>zn ?_
 obtain ⟨hC,h⟩:=h
 refine ⟨hC,?_⟩
 refine yo 7 ?_
 refine yS h λ _ w h=>zn ?_
 obtain ⟨hC,h⟩:=h
 refine ⟨hC,?_⟩
 refine yo 8 ?_
 refine yc h c74 λ _ w h=>zn ?_
 obtain ⟨hC,h⟩:=h
 refine ⟨hC,?_⟩
 refine yw 9 hC ?_
 refine yj1 2 [14,13,12,11,10,9,8,7,2,6,5,4,3,1,0] [17,18,19,20,21] 21 h (λ _ hT hb h=>?_) (λ _ hT hb h=>?_) λ σ w hC h=>?_
 · refine ye 10 hC h λ _ h=>?_
   refine ye 11 hC h λ _ h=>?_
   refine yw 12 hC ?_
   refine yo 13 ?_
   refine yc h ZjA λ _ w h=>zn ?_
   obtain ⟨hC,h⟩:=h
   refine ⟨hC,?_⟩
   refine ye 14 hC h λ _ h=>?_
   exact yt hT hC h
 · refine yi 10 hC ?_
   refine yi 11 hC ?_
   refine yi 12 hC ?_
   refine yi 13 hC ?_
   refine yi 14 hC ?_
   exact yt hT hC h
 refine yP 15 hC h λ _ h=>?_
 refine yw 16 hC ?_
 exact yz<|zk<|Zg<|Zi rfl rfl h
def xH (a b c:Vl) (d:WPr) (R:RT) (w:Wd):Prop:=
 F0 123 a 0 R w λ e w=>
 L0 9 e R w λ f w=>
 L0 300 b R w λ g w=>
 opU Pg (mapUpdate 296 c f g) (Zd R) w λ w=>
 d w
def xI (d e f a:Vl) (Zx:KV) (R:RT) (w:Wd):Prop:=
 E0q a 0 R w λ g w=>
 E0q a 1 R w λ h w=>
 opV Pg (alloc 300 true (.tuple #[])) (Zd R) w λ b w=>
 S0 300 b g R w λ w=>
 B0 .eql 49 true h (.int .i64 0) R w λ i w=>
 Zo (λ (w:Wd)=>
 B0 .add 3 true f (.int .i64 1) R w λ j w=>
 Zx j w) λ c=>
 Zs i (
 xH d b e c R w) (
 c w)
def xJ (c d b:Vl) (Zx:KV) (R:RT) (w:Wd):Prop:=
 X0 72 c b R w λ e w=>
 L0 123 e R w λ f w=>
 opV Pg (alloc 123 true (.tuple #[])) (Zd R) w λ a w=>
 S0 123 a f R w λ w=>
 L0 123 a R w λ g w=>
 C0 255 #[g] R w λ h w=>
 xI a d b h Zx R w
def ZfR (a:Vl) (R:RT) (w:Wd):Prop:=
 opV Pg (Instr.makeMap 296 none) (Zd R) w λ b w=>
 G0 72 3 a R w λ d w=>
 Y6 (λ c w Zx=>
 B0 .lss 3 false c d R w λ e w=>
 Zs e (
 xJ a b c Zx R w) (
 R (.returned b) w)) (.int .i64 0) w
theorem ZfS {t0:Vl} {R:RT} {w:Wd} (h:ZfR t0 R w):Calls Pg 247 #[t0] w R:=by
 refine yD func247 ?_
 refine zs<|zr<|zm<|zn<|zk<|zs<|zr<|yv h λ _ w h=>zm<|zn<|zk<|zs<|zs<|zr<|zm ?_
 refine yx h λ _ w h=>zm<|zn<|zk<|Zl<|yl1 [5,6,7,11,12,13,14,15,16,17,18,19,20,21,22,23,24,25,26] 11 h λ σ w next h=>zs<|zr<|yb h λ _ w h=>zn<|zk<|zs<|yC h (λ h=>?_) λ h=>?_
 · refine Zj<|zk<|zs<|Zl<|zs<|zr<|yv h λ _ w h=>yv h λ _ w h=>yv h λ _ w h=>yu h λ w h=>zn<|zk<|zs<|zr<|yv h λ _ w h=>?_
   refine yc h ZjB λ _ w h=>zm<|yv h λ _ w h=>yv h λ _ w h=>yv h λ _ w h=>yu h λ w h=>zm<|zn<|zk<|zs<|zr<|zm<|yb h λ _ w h=>zn<|zk ?_
   refine yJ0 [22,23,24,25] h (λ _ _ hkK2 h=>?_) λ σ w h=>?_
   · refine yC h (λ h=>?_) λ h=>?_
     · refine zr<|zm<|yv h λ _ w h=>yv h λ _ w h=>yv h λ _ w h=>yu h λ w h=>zn<|zk ?_
       exact zt hkK2 h
     refine Zj<|zk ?_
     exact zt hkK2 h
   exact Zf<|zk<|zr<|yb h λ _ w h=>zm<|zn<|zk<|⟨rfl,h⟩
 exact ZM<|Ze<|Ze<|Zu<|zk<|zs<|zr<|zm<|zm<|zn<|zk<|Zg<|Zi rfl rfl h
def AT (a b:Vl) (c:WPr) (R:RT) (w:Wd):Prop:=
 F0 120 a 1 R w λ d w=>
 L0 118 d R w λ e w=>
 C0 256 #[e] R w λ f w=>
 S0 118 b f R w λ w=>
 c w
def Zf7 (d:Vl) (R:RT) (w:Wd):Prop:=
 opV Pg (box 120 d) (Zd R) w λ a w=>
 opV Pg (alloc 118 true (.tuple #[])) (Zd R) w λ b w=>
 L0 120 a R w λ e w=>
 C0 246 #[e] R w λ f w=>
 Zo (λ (w:Wd)=>
 opV Pg (makeFunc (.func 257) #[] #[b]) (Zd R) w λ g w=>
 R (.returned g) w) λ c=>
 Zs f (
 AT a b c R w) (
 c w)
theorem Zf8 {t0:Vl} {R:RT} {w:Wd} (h:Zf7 t0 R w):Calls Pg 248 #[t0] w R:=by
 refine yD func248 ?_
 refine zs<|zr<|yv h λ _ w h=>zm<|zn<|zk<|zs<|zr<|yv h λ _ w h=>zn<|zk<|zs<|zs<|zr<|yv h λ _ w h=>?_
 refine yc h ZdN λ _ w h=>zn<|zk<|yJ0 [6,7,8] h (λ _ _ hkK1 h=>?_) λ σ w h=>?_
 · refine yC h (λ h=>?_) λ h=>?_
   · refine zr<|yv h λ _ w h=>yv h λ _ w h=>yc h ZjC λ _ w h=>yu h λ w h=>zn<|zk ?_
     exact zt hkK1 h
   refine Zj<|zk ?_
   exact zt hkK1 h
 exact zk<|zs<|zr<|yF h λ _ w h=>zm<|zn<|zk<|Zg<|Zi rfl rfl h
def AR (a b c:Vl) (R:RT) (w:Wd):Prop:=
 opV Pg (build 300 #[(0,b),(1,c)]) (Zd R) w λ d w=>
 S0 300 a d R w λ w=>
 qW Pg 300 a w λ r0=>
 R (.returned (.tuple #[r0,(.int .i64 0)])) w
def AS (b c d:Vl) (R:RT) (w:Wd):Prop:=
 opV Pg (makeFunc (.func 260) #[] #[b,c]) (Zd R) w λ a w=>
 XW Pg a #[(.bool true)] (Zd R) w λ e w=>
 XW Pg a #[(.bool false)] (Zd R) w λ f w=>
 AR d e f R w
def xK (c d a b:Vl) (R:RT) (w:Wd):Prop:=
 B0 .neq 49 true b (.int .i64 0) R w λ e w=>
 Zs e (
 opV Pg (build 300 #[]) (Zd R) w λ f w=>
 S0 300 a f R w λ w=>
 qW Pg 300 a w λ r0=>
 R (.returned (.tuple #[r0,b])) w) (
 AS c d a R w)
def ZfV (c d:Vl) (R:RT) (w:Wd):Prop:=
 opV Pg (box 120 c) (Zd R) w λ a w=>
 opV Pg (box 296 d) (Zd R) w λ b w=>
 opV Pg (alloc 300 true (.tuple #[])) (Zd R) w λ e w=>
 L0 120 a R w λ f w=>
 L0 296 b R w λ g w=>
 ZV Pg 259 #[f,(.string { data := #[] }),g,(.func (.func 258) #[] #[])] (Zd R) w λ h w=>
 xK a b e h R w
theorem ZfW {t0 t1:Vl} {R:RT} {w:Wd} (h:ZfV t0 t1 R w):Calls Pg 249 #[t0,t1] w R:=by
 refine yD func249 ?_
 refine zs<|zr<|yv h λ _ w h=>yv h λ _ w h=>yv h λ _ w h=>zm<|zn<|zk<|zs<|zr<|zm<|zn<|zk<|zs<|zs ?_
 refine zr<|yv h λ _ w h=>yv h λ _ w h=>zm<|yc h ZjE λ _ w h=>zm<|zn<|zk<|zs<|zr<|zm<|yb h λ _ w h=>zn<|zk<|yC h (λ h=>zs<|zr<|yB h λ _ w h=>zm<|yu h λ w h=>zm<|zn<|zk<|Zg<|Zb<|YH rfl rfl rfl h) λ h=>?_
 refine Zj<|zk<|zs<|zr<|yF h λ _ w h=>zm<|zn<|zk<|zs<|zr<|zm<|yV h λ _ w h=>zm<|yV h λ _ w h=>yB h λ _ w h=>?_
 exact yu h λ w h=>zm<|zn<|zk<|Zg<|YH rfl rfl rfl h
def Zgz (a b:Vl) (R:RT) (w:Wd):Prop:=
 C0 199 #[a,b] R w λ c w=>
 B0 .geq 3 true c (.int .i64 0) R w λ d w=>
 R (.returned d) w
theorem ZgA {t0 t1:Vl} {R:RT} {w:Wd} (h:Zgz t0 t1 R w):Calls Pg 250 #[t0,t1] w R:=by
 refine yD func250 ?_
 refine zs<|zr<|zm<|zn<|zk<|zs<|zr<|zm<|zm<|yc h Zfa λ _ w h=>yb h λ _ w h=>zm<|zn<|zk<|Zg ?_
 exact Zi rfl rfl h
def n74 (e f:Vl) (R:RT) (w:Wd):Prop:=
 opV Pg (box 123 e) (Zd R) w λ b w=>
 F0 123 b 1 R w λ g w=>
 L0 117 g R w λ h w=>
 B0 .eql 117 true h (.int .i64 9) R w λ c w=>
 Zo (λ (a:Vl) (w:Wd)=>
 Zy c a (.bool false) λ i=>
 R (.returned i) w) λ d=>
 Zn c true (
 F0 123 b 9 R w λ j w=>
 L0 9 j R w λ k w=>
 F0 123 f 9 R w λ l w=>
 L0 9 l R w λ m w=>
 B0 .eql 9 false k m R w λ a w=>
 d a w) (
 d undef w)
theorem ZkM {t0 t1:Vl} {R:RT} {w:Wd} (h:n74 t0 t1 R w):Calls Pg 251 #[t0,t1] w R:=by
 refine yD func251 ?_
 refine zs<|zr<|yv h λ _ w h=>zm<|zn<|zk<|zs<|Zt<|yG 4<|yv h λ _ w h=>yv h λ _ w h=>yb h λ _ w h=>zm<|zn<|yg1 5 3 true [8,9,10,11,12] 12 h (λ _ T hT h=>?_) λ σ w h=>?_
 · refine yv h λ _ w h=>yv h λ _ w h=>yv h λ _ w h=>yv h λ _ w h=>yb h λ _ w h=>zn ?_
   exact zt hT h
 exact yG 2<|yp h λ _ h=>zm<|zn<|ZK<|zk<|Zg<|Zi rfl rfl h
def AW (b c d:Vl) (a:WPr) (e:KV) (R:RT) (w:Wd):Prop:=
 opV Pg (buildSlice 170 3 #[(0,b),(1,c),(2,d)]) (Zd R) w λ f w=>
 a w∧(
 C0 74 #[f] R w λ g w=>
 a w∧(
 qV Pg a (Op.unary .not g) λ h=>
 e h w))
def AX (b:Vl) (a:WPr) (c:KV) (R:RT) (w:Wd):Prop:=
 J0 128 b 0 a λ d=>
 I0 9 d a λ e=>
 J0 128 b 1 a λ f=>
 I0 3 f a λ g=>
 qV Pg a (ZF .neq 3 true g (.int .i64 0)) λ h=>
 J0 128 b 1 a λ i=>
 I0 3 i a λ j=>
 C0 35 #[e] R w λ k w=>
 a w∧(
 C0 253 #[j] R w λ l w=>
 a w∧(
 AW k h l a c R w))
def Zgd (e b:Vl) (R:RT) (w:Wd):Prop:=
 opV Pg (box 128 e) (Zd R) w λ a w=>
 L0 199 b R w λ f w=>
 F0 128 a 0 R w λ g w=>
 L0 9 g R w λ h w=>
 opV Pg (lookup 199 f h false) (Zd R) w λ c w=>
 L0 199 b R w λ i w=>
 F0 128 a 0 R w λ j w=>
 L0 9 j R w λ k w=>
 opU Pg (mapUpdate 199 i k (.bool true)) (Zd R) w λ w=>
 Yg w λ l w=>
 Zo (λ (m:Vl) (w:Wd)=>
 Zy c (.bool true) m λ n=>
 R (.returned n) w) λ d=>
 Zn c false (
 AX a l d R w) (
 d undef w)
theorem Zge {t0 t1:Vl} {R:RT} {w:Wd} (h:Zgd t0 t1 R w):Calls Pg 252 #[t0,t1] w R:=by
 refine yD func252 ?_
 refine zs<|zr<|yv h λ _ w h=>zm<|zn<|zk<|zs<|zr<|yv h λ _ w h=>yv h λ _ w h=>yv h λ _ w h=>yv h λ _ w h=>zm<|zn<|zk ?_
 refine zs<|zr<|yv h λ _ w h=>yv h λ _ w h=>yv h λ _ w h=>yu h λ w h=>zn<|zk<|zs<|yh [3,12,13,14,15,16,17,18,19,20,21,22,23,24,25,26] h λ C hC h=>yw 0 hC ?_
 refine yw 1 hC ?_
 refine yj1 2 [13,12,11,10,4,9,8,7,6,5,3,2,1,0] [14,15,16,17,18,19,20,21,22,23,24,25] 25 h (λ _ hT hb h=>?_) (λ _ hT hb h=>?_) λ σ w hC h=>?_
 · refine ye 2 hC h λ _ h=>?_
   refine ye 3 hC h λ _ h=>?_
   refine ye 5 hC h λ _ h=>?_
   refine ye 6 hC h λ _ h=>?_
   refine ye 7 hC h λ _ h=>?_
   refine ye 8 hC h λ _ h=>?_
   refine ye 9 hC h λ _ h=>?_
   refine yo 4 ?_
   refine yc h c35 λ _ w h=>zn ?_
   obtain ⟨hC,h⟩:=h
   refine ⟨hC,?_⟩
   refine yo 10 ?_
   refine yc h Zfe λ _ w h=>zn ?_
   obtain ⟨hC,h⟩:=h
   refine ⟨hC,?_⟩
   refine yo 11 ?_
   refine yS h λ _ w h=>zn ?_
   obtain ⟨hC,h⟩:=h
   refine ⟨hC,?_⟩
   refine yo 12 ?_
   refine yc h c74 λ _ w h=>zn ?_
   obtain ⟨hC,h⟩:=h
   refine ⟨hC,?_⟩
   refine ye 13 hC h λ _ h=>?_
   exact yt hT hC h
 · refine yi 2 hC ?_
   refine yi 3 hC ?_
   refine yi 5 hC ?_
   refine yi 6 hC ?_
   refine yi 7 hC ?_
   refine yi 8 hC ?_
   refine yi 9 hC ?_
   refine yi 4 hC ?_
   refine yi 10 hC ?_
   refine yi 11 hC ?_
   refine yi 12 hC ?_
   refine yi 13 hC ?_
   exact yt hT hC h
 refine yP 14 hC h λ _ h=>?_
 refine yw 15 hC ?_
 exact yz<|zk<|Zg<|Zi rfl rfl h
def Zgo (b:Vl) (R:RT) (w:Wd):Prop:=
 opV Pg (ZF .geq 3 true b (.int .i64 (-1048576))) (Zd R) w λ c w=>
 Zo (λ (a:Vl) (w:Wd)=>
 Zy c a (.bool false) λ e=>
 R (.returned e) w) λ d=>
 Zn c true (
 B0 .leq 3 true b (.int .i64 1048576) R w λ a w=>
 d a w) (
 d undef w)
theorem Zgp {t0:Vl} {R:RT} {w:Wd} (h:Zgo t0 R w):Calls Pg 253 #[t0] w R:=by
 refine yD func253 ?_
 refine zs<|zr<|zm<|zn<|zk<|zs<|Zt<|yG 3<|zm<|yb h λ _ w h=>zm<|zn<|yg1 2 2 true [6,7] 7 h (λ _ T hT h=>?_) λ σ w h=>?_
 · refine zm<|yb h λ _ w h=>zn ?_
   exact zt hT h
 exact yG 2<|yp h λ _ h=>zm<|zn<|ZK<|zk<|Zg<|Zi rfl rfl h
def ZgD (a b:Vl) (R:RT) (w:Wd):Prop:=
 C0 263 #[a,b] R w λ c w=>
 B0 .geq 3 true c (.int .i64 0) R w λ d w=>
 R (.returned d) w
theorem ZgE {t0 t1:Vl} {R:RT} {w:Wd} (h:ZgD t0 t1 R w):Calls Pg 254 #[t0,t1] w R:=by
 refine yD func254 ?_
 refine zs<|zr<|zm<|zn<|zk<|zs<|zr<|zm<|zm<|yc h ZjH λ _ w h=>yb h λ _ w h=>zm<|zn<|zk<|Zg ?_
 exact Zi rfl rfl h
def Do (a b:Vl) (R:RT) (w:Wd):Prop:=
 F0 123 a 5 R w λ c w=>
 L0 3 c R w λ d w=>
 F0 123 a 5 R w λ e w=>
 L0 3 e R w λ f w=>
 opV Pg (build 300 #[(0,d),(1,f)]) (Zd R) w λ g w=>
 S0 300 b g R w λ w=>
 qW Pg 300 b w λ r0=>
 R (.returned (.tuple #[r0,(.int .i64 0)])) w
def Dp (a b:Vl) (R:RT) (w:Wd):Prop:=
 F0 123 a 5 R w λ c w=>
 L0 3 c R w λ d w=>
 F0 123 a 6 R w λ e w=>
 L0 3 e R w λ f w=>
 opV Pg (build 300 #[(0,d),(1,f)]) (Zd R) w λ g w=>
 S0 300 b g R w λ w=>
 qW Pg 300 b w λ r0=>
 R (.returned (.tuple #[r0,(.int .i64 0)])) w
def Dq (a:Vl) (R:RT) (w:Wd):Prop:=
 opV Pg (build 300 #[]) (Zd R) w λ b w=>
 S0 300 a b R w λ w=>
 qW Pg 300 a w λ r0=>
 R (.returned (.tuple #[r0,(.int .i64 2)])) w
def Dr (a b:Vl) (R:RT) (w:Wd):Prop:=
 F0 123 a 1 R w λ c w=>
 L0 117 c R w λ d w=>
 B0 .eql 117 true d (.int .i64 2) R w λ e w=>
 Zs e (
 Do a b R w) (
 Dp a b R w)
def n67 (c:Vl) (R:RT) (w:Wd):Prop:=
 opV Pg (box 123 c) (Zd R) w λ a w=>
 opV Pg (alloc 300 true (.tuple #[])) (Zd R) w λ b w=>
 L0 123 a R w λ d w=>
 C0 264 #[d] R w λ e w=>
 N0 e R w λ f w=>
 Zs f (
 Dq b R w) (
 Dr a b R w)
theorem ZkG {t0:Vl} {R:RT} {w:Wd} (h:n67 t0 R w):Calls Pg 255 #[t0] w R:=by
 refine yD func255 ?_
 refine zs<|zr<|yv h λ _ w h=>yv h λ _ w h=>zm<|zn<|zk<|zs<|Zl<|zs<|zr<|yv h λ _ w h=>yc h ZjI λ _ w h=>yv h λ _ w h=>zm ?_
 refine zn<|zk<|yC h (λ h=>zs<|zr<|yB h λ _ w h=>yu h λ w h=>zm<|zn<|zk<|Zg<|Zh<|Zb<|YH rfl rfl rfl h) λ h=>zs<|zr<|yv h λ _ w h=>yv h λ _ w h=>yb h λ _ w h=>zm<|zn<|zk<|yC h (λ h=>zs<|zr<|yv h λ _ w h=>yv h λ _ w h=>yv h λ _ w h=>yv h λ _ w h=>yB h λ _ w h=>yu h λ w h=>zm<|zn<|zk<|Zg<|Zh<|Zb<|YH rfl rfl rfl h) λ h=>Zj ?_
 exact Zf<|zk<|zs<|zr<|yv h λ _ w h=>yv h λ _ w h=>yv h λ _ w h=>yv h λ _ w h=>yB h λ _ w h=>yu h λ w h=>zm<|zn<|zk<|Zg<|YH rfl rfl rfl h
def Zgv (a:Vl) (R:RT) (w:Wd):Prop:=
 opV Pg (ZF .eql 118 true a (Value.slice none 0 0)) (Zd R) w λ b w=>
 Zs b (
 R (.returned (Value.slice none 0 0)) w) (
 opV Pg (buildSlice 118 0 #[]) (Zd R) w λ c w=>
 opV Pg (Builtin.append_ #[118,118] 118 #[c,a]) (Zd R) w λ d w=>
 R (.returned d) w)
theorem Zgw {t0:Vl} {R:RT} {w:Wd} (h:Zgv t0 R w):Calls Pg 256 #[t0] w R:=by
 refine yD func256 ?_
 refine zs<|zr<|zm<|zn<|zk<|zs<|zs<|zr<|zm<|yb h λ _ w h=>zn<|zk<|yC h (λ h=>zs<|zr<|zm<|zn<|zk<|Zg<|Zb<|Zi rfl rfl h) λ h=>Zj ?_
 exact zk<|zs<|zr<|yS h λ _ w h=>zm<|yx h λ _ w h=>zm<|zn<|zk<|Zg<|Zi rfl rfl h
def AU (a b:Vl) (Zx:KV) (R:RT) (w:Wd):Prop:=
 N0 b R w λ c w=>
 Zs c (
 R (.returned (.tuple #[])) w) (
 B0 .add 3 true a (.int .i64 1) R w λ d w=>
 Zx d w)
def AV (c d a:Vl) (Zx:KV) (R:RT) (w:Wd):Prop:=
 X0 118 d a R w λ e w=>
 L0 128 e R w λ f w=>
 opV Pg (alloc 128 true (.tuple #[])) (Zd R) w λ b w=>
 S0 128 b f R w λ w=>
 F0 128 b 0 R w λ g w=>
 L0 9 g R w λ h w=>
 XW Pg c #[h] (Zd R) w λ i w=>
 AU a i Zx R w
def Zf9 (c d:Vl) (R:RT) (w:Wd):Prop:=
 L0 118 d R w λ a w=>
 G0 118 3 a R w λ e w=>
 Y6 (λ b w Zx=>
 B0 .lss 3 false b e R w λ f w=>
 Zs f (
 AV c a b Zx R w) (
 R (.returned (.tuple #[])) w)) (.int .i64 0) w
theorem Zga {t0 t1:Vl} {R:RT} {w:Wd} (h:Zf9 t0 t1 R w):Calls Pg 257 #[t0,t1] w R:=by
 refine yD func257 ?_
 refine zs<|zr<|yv h λ _ w h=>yx h λ _ w h=>zm<|zn<|zk<|Zl<|yl1 [4,7,8,9,10,11,12,13,14,15,16] 7 h λ σ w next h=>zs<|zr<|yb h λ _ w h=>zn<|zk<|zs ?_
 refine yC h (λ h=>?_) λ h=>?_
 · refine Zj<|zk<|zs<|Zl<|zs<|zr<|yv h λ _ w h=>yv h λ _ w h=>yv h λ _ w h=>yu h λ w h=>zn<|zk<|zs<|zr<|zm ?_
   refine yv h λ _ w h=>yv h λ _ w h=>yV h λ _ w h=>yv h λ _ w h=>zn<|zk<|yC h (λ h=>Zg<|Zh<|Zb<|Zb<|Zh<|ZQ rfl h) λ h=>Zj<|Zf<|zk<|zr<|yb h λ _ w h=>zm<|zn ?_
   exact zk<|⟨rfl,h⟩
 exact ZM<|Ze<|Ze<|Zu<|ZG<|ZQ rfl h
def ZfX (b:Vl) (R:RT) (w:Wd):Prop:=
 opV Pg (box 300 b) (Zd R) w λ a w=>
 F0 300 a 0 R w λ c w=>
 L0 3 c R w λ d w=>
 B0 .geq 3 true d (.int .i64 0) R w λ e w=>
 F0 300 a 0 R w λ f w=>
 L0 3 f R w λ g w=>
 F0 300 a 1 R w λ h w=>
 L0 3 h R w λ i w=>
 B0 .leq 3 false g i R w λ j w=>
 F0 300 a 1 R w λ k w=>
 L0 3 k R w λ l w=>
 B0 .lss 3 true l (.int .i64 34359738368) R w λ m w=>
 opV Pg (buildSlice 170 3 #[(0,e),(1,j),(2,m)]) (Zd R) w λ n w=>
 C0 74 #[n] R w λ o w=>
 R (.returned o) w
theorem ZfY {t0:Vl} {R:RT} {w:Wd} (h:ZfX t0 R w):Calls Pg 258 #[t0] w R:=by
 refine yD func258 ?_
 refine zs<|zr<|yv h λ _ w h=>zm<|zn<|zk<|zs<|zr<|yv h λ _ w h=>yv h λ _ w h=>yb h λ _ w h=>yv h λ _ w h=>yv h λ _ w h=>yv h λ _ w h=>yv h λ _ w h=>?_
 exact yb h λ _ w h=>yv h λ _ w h=>yv h λ _ w h=>yb h λ _ w h=>yS h λ _ w h=>yc h c74 λ _ w h=>zm<|zn<|zk<|Zg<|Zi rfl rfl h
def WN (b c d:Vl) (e:WPr) (a:PEn) (f:Nat→Wd→Prop) (R:RT) (w:Wd):Prop:=
 opV Pg (loadAt 311 b) a w λ g w=>
 opV Pg (loadAt 300 d) a w λ h w=>
 XW Pg g #[h] a w λ i w=>
 opV Pg (Op.unary .not i) a w λ j w=>
 Zs j (
 opU Pg (storeAt 49 c (.int .i64 2)) a w λ w=>
 f 0 w) (
 e w)
def WO (f g h i j c:Vl) (k:WPr) (a:PEn) (l:Nat→Wd→Prop) (R:RT) (w:Wd):Prop:=
 opV Pg (loadAt 296 g) a w λ m w=>
 opV Pg (lookup 296 m c true) a w λ d w=>
 opV Pg (extract d 0) a w λ n w=>
 opV Pg (extract d 1) a w λ o w=>
 opV Pg (alloc 300 true (.tuple #[])) a w λ e w=>
 opU Pg (storeAt 300 e n) a w λ w=>
 opV Pg (loadAt 9 f) a w λ p w=>
 opV Pg (ZF .eql 9 false c p) a w λ q w=>
 Zo (λ (w:Wd)=>
 k w) λ b=>
 Zs q (
 b w) (
 opV Pg (Op.unary .not o) a w λ r w=>
 Zs r (
 opU Pg (storeAt 4 j (.bool true)) a w λ w=>
 b w) (
 WN h i e b a l R w))
def WQ (a b:Vl) (ds:LDf) (R:RT) (w:Wd):Prop:=
 opV Pg (loadAt 4 b) (OQ0 ds 49 a R) w λ c w=>
 Zs c (
 opU Pg (storeAt 49 a (.int .i64 9)) (OQ0 ds 49 a R) w λ w=>
 Uc Pg ds [(some 49,a)] R w) (
 opU Pg (storeAt 49 a (.int .i64 0)) (OQ0 ds 49 a R) w λ w=>
 Uc Pg ds [(some 49,a)] R w)
def Ww (c d e a b f:Vl) (ds:LDf) (R:RT) (w:Wd):Prop:=
 BH Pg f ds (λ l1 g w h i j=>
 Aa l1 w λ w=>
 WO c d e a b g h j i R w) (λ ch ds w=>OQ0 ds 49 a R ch w) w (λ ds w=>
 WQ a b ds R w) [λ ds w=>
 Uc Pg ds [(some 49,a)] R w]
def WR (c d e f a:Vl) (ds:LDf) (R:RT) (w:Wd):Prop:=
 opV Pg (alloc 4 true (.tuple #[])) (OQ0 ds 49 a R) w λ b w=>
 opU Pg (storeAt 4 b (.bool false)) (OQ0 ds 49 a R) w λ w=>
 opV Pg (loadAt 120 c) (OQ0 ds 49 a R) w λ g w=>
 ZV Pg 248 #[g] (OQ0 ds 49 a R) w λ h w=>
 Ww d e f a b h ds R w
def WS (b c d e a f:Vl) (ds:LDf) (R:RT) (w:Wd):Prop:=
 opV Pg (Op.unary .not f) (OQ0 ds 49 a R) w λ g w=>
 Zs g (
 opU Pg (storeAt 49 a (.int .i64 2)) (OQ0 ds 49 a R) w λ w=>
 Uc Pg ds [(some 49,a)] R w) (
 WR b c d e a ds R w)
def Zed (c d e f:Vl) (R:RT) (w:Wd):Prop:=
 (λ (ds:LDf)=>
 opV Pg (box 120 c) (ZB Pg ds [(some 49,undef)] R) w λ b w=>
 opV Pg (box 9 d) (ZB Pg ds [(some 49,undef)] R) w λ g w=>
 opV Pg (box 296 e) (ZB Pg ds [(some 49,undef)] R) w λ h w=>
 opV Pg (box 311 f) (ZB Pg ds [(some 49,undef)] R) w λ i w=>
 opV Pg (alloc 49 true (.tuple #[])) (ZB Pg ds [(some 49,undef)] R) w λ a w=>
 opV Pg (loadAt 120 b) (OQ0 ds 49 a R) w λ j w=>
 ZV Pg 246 #[j] (OQ0 ds 49 a R) w λ k w=>
 WS b g h i a k ds R w) []
theorem Zgh {t0 t1 t2 t3:Vl} {R:RT} {w:Wd} (h:Zed t0 t1 t2 t3 R w):Calls Pg 259 #[t0,t1,t2,t3] w R:=by
 refine yE func259 ?_
 unfold Zed at h
 dsimp only at h
 refine zs<|zr<|yv h λ _ w h=>yv h λ _ w h=>yv h λ _ w h=>yv h λ _ w h=>yv h λ _ w h=>zn<|zk<|zs<|zs<|zr<|yv h λ _ w h=>yc h ZdN λ _ w h=>yv h λ _ w h=>?_
 refine zn<|zk<|yC h (λ h=>zs<|zr<|yu h λ w h=>zn<|zk<|Zg<|Zb<|X8 rfl h) λ h=>Zj<|zk<|zs<|zr<|yv h λ _ w h=>yu h λ w h=>zn<|zk<|zs<|zs<|zr ?_
 refine yv h λ _ w h=>yc h Zfd λ _ w h=>zn<|zk<|Zl<|Gt [.ret] h rfl (λ l1 t18 w Kr1 Xr1 Qr1 h=>?_) (λ ds w h=>?_) (λ c ds w h=>?_) (λ ch ds w h=>X7 rfl h)
 · refine zr<|zm<|zn<|zk ?_
   obtain ⟨hr,h⟩:=h
   refine ⟨rfl,hr,λ w hb=>?_⟩
   have h:=h w hb
   refine Zl<|zs<|zr<|yv h λ _ w h=>zm<|yv h λ _ w h=>zm<|yv h λ _ w h=>yv h λ _ w h=>yv h λ _ w h=>yu h λ w h=>zm<|zn<|zk<|Zl ?_
   refine zs<|zr<|zm<|yv h λ _ w h=>yb h λ _ w h=>zm<|zn<|zk<|yJ0 [29,30,31,32,33,34,35,36] h (λ _ _ hkK2 h=>?_) λ σ w h=>?_
   · refine yC h (λ h=>?_) λ h=>?_
     · refine Zj<|zk ?_
       exact zt hkK2 h
     refine zs<|zr<|zm<|yv h λ _ w h=>zm<|zn<|zk<|yC h (λ h=>?_) λ h=>?_
     · refine zr<|yu h λ w h=>zn<|zk ?_
       exact zt hkK2 h
     refine zs<|zr<|yv h λ _ w h=>yv h λ _ w h=>yV h λ _ w h=>yv h λ _ w h=>zm<|zn<|zk<|yC h (λ h=>zs<|zr<|yu h λ w h=>zn<|zk<|Zg<|Zb<|Zh<|Zh<|⟨rfl,0,rfl,h⟩) λ h=>Zj<|zk ?_
     exact zt hkK2 h
   exact Zf<|Zf<|⟨rfl,h⟩
 · refine Zf<|zk<|zs<|zs<|zr<|yv h λ _ w h=>zn<|zk<|yC h (λ h=>zs<|zr<|yu h λ w h=>zn<|zk<|Zg<|Zb<|X8 rfl h) λ h=>Zj<|zk<|zs<|zr<|yu h λ w h=>?_
   exact zn<|zk<|Zg<|X8 rfl h
 rcases c with _ | c
 · refine ⟨_,rfl,.inl ⟨rfl,?_⟩⟩
   exact Zh<|Zb<|X8 rfl h
 exact h.elim
def ZfZ (a b c:Vl) (R:RT) (w:Wd):Prop:=
 opV Pg (box 4 a) (Zd R) w λ d w=>
 L0 120 b R w λ e w=>
 opV Pg (makeFunc (.func 262) #[] #[c,d]) (Zd R) w λ f w=>
 C0 261 #[e,f] R w λ g w=>
 R (.returned g) w
theorem Zf0 {t0 t1 t2:Vl} {R:RT} {w:Wd} (h:ZfZ t0 t1 t2 R w):Calls Pg 260 #[t0,t1,t2] w R:=by
 refine yD func260 ?_
 refine zs<|zr<|yv h λ _ w h=>zm<|zn<|zk<|zs<|zr<|yv h λ _ w h=>yF h λ _ w h=>yc h ZjF λ _ w h=>zm<|zn<|zk<|Zg ?_
 exact Zi rfl rfl h
open Go.RowKit (intOf)
def Gl (c:UInt8):Bool:=(decide (65≤(c.toNat:Int))&&decide ((c.toNat:Int)≤90))||(decide (97≤(c.toNat:Int))&&decide ((c.toNat:Int)≤122))
def Ek (c:UInt8):Bool:=decide (48≤(c.toNat:Int))&&decide ((c.toNat:Int)≤57)
def Cc (c:UInt8):Bool:=Gl c||Ek c||((c.toNat:Int) == 95)
def zB (v:Int):Bool:=decide (-1048576≤v)&&decide (v≤1048576)
def Z4 (s:BAr):Bool:=decide (1≤(s.size:Int))&&decide ((s.size:Int)≤32)&&(match s.data.toList with | []=>false | c::_=>Gl c)&&s.data.toList.all Cc
theorem AG (w0:Wd) (c:UInt8):Ret Pg 72 #[.int .u8 c.toNat] w0 λ r w'=>r = .bool (Gl c)∧Ext w0 w':=by
 refine Zgl (R:=ZI _) ?_;unfold Zgk
 simp (disch:=try exact DI) only [↓PR,QR,simprocAttr,↓IZ,↓I1]
 unfold Gl
 have e:=Ext.refl w0
 generalize decide (65≤(c.toNat:Int))=b1
 generalize decide ((c.toNat:Int)≤90)=b2
 generalize decide (97≤(c.toNat:Int))=b3
 generalize decide ((c.toNat:Int)≤122)=b4
 cases b1<;>cases b2<;>cases b3<;>cases b4<;>simp (disch:=try exact DI) only [↓PR,QR,simprocAttr,↓IZ,↓I1]<;>exact ⟨by trivial,e⟩
theorem NI (w0:Wd) (c:UInt8):Ret Pg 73 #[.int .u8 c.toNat] w0 λ r w'=>r = .bool (Ek c)∧Ext w0 w':=by
 refine Zgj (R:=ZI _) ?_;unfold Zgi
 simp (disch:=try exact DI) only [↓PR,QR,simprocAttr,joinK_eq]
 unfold Ek
 have e:=Ext.refl w0
 generalize decide (48≤(c.toNat:Int))=b1
 generalize decide ((c.toNat:Int)≤57)=b2
 cases b1<;>cases b2<;>simp (disch:=try exact DI) only [↓PR,QR,simprocAttr,joinK_eq]<;>exact ⟨by trivial,e⟩
theorem DK (w0:Wd) (v:Int):Ret Pg 253 #[.int .i64 v] w0 λ r w'=>r = .bool (zB v)∧Ext w0 w':=by
 refine Zgp (R:=ZI _) ?_;unfold Zgo
 simp (disch:=try exact DI) only [↓PR,QR,simprocAttr,joinK_eq]
 unfold zB
 have e:=Ext.refl w0
 generalize decide (-1048576≤v)=b1
 generalize decide (v≤1048576)=b2
 cases b1<;>cases b2<;>simp (disch:=try exact DI) only [↓PR,QR,simprocAttr,joinK_eq]<;>exact ⟨by trivial,e⟩
def jA (w:Wd) (v:Vl) (l:List Bool):Prop:=Zc w 1 ZeN v l
theorem jQ (w0:Wd) (v:Vl) (l:List Bool) (x:Bool) (hs:jA w0 v l) :
 Ret Pg 137 #[v,.bool x] w0 λ r w'=>r = .int .i64 (idx (x == ·) l)∧Ext w0 w':=by
 obtain ⟨A,c,rfl,hlc,hcm,hlm,Y1⟩:=Zc.open hs
 refine Zhg (R:=ZI _) ?_;unfold Zhf
 simp (disch:=try exact DI) only [↓PR,QR,simprocAttr]
 refine ZJ (λ i w=>∃ k:Nat,i = .int .i64 k∧k≤l.length∧Ext w0 w∧∀ (j:Nat) y,j < k→l[j]?=some y→(x == y)=false) (λ i _=>l.length - (intOf i).toNat) ⟨0,rfl,by omega,Ext.refl _,λ j y h=>by omega⟩ ?_
 rintro i w ⟨k,rfl,hk,e,hb⟩
 by_cases Yq:k < l.length
 · obtain ⟨y,hy⟩:=getElem?_lt Yq
   obtain ⟨b,o,cs,rfl,hl,hA,rfl⟩:=Y1 k y hy
   have hd:decide ((k:Int) < (l.length:Int))=true:=by simp;omega
   have hc:w.cell? ⟨b,o+k*1,none⟩=some (.bool y):=(hA.ext e).cell 0 rfl
   simp (disch:=try exact DI) only [↓PR,QR,simprocAttr,hd,hc,↓I3]
   cases hp:(x == y) with
   | true=>
    simp (disch:=try exact DI) only [↓PR,QR,simprocAttr]
    exact ⟨by rw [Q2 hy hp hb],e⟩
   | false=>
    simp (disch:=try exact DI) only [↓PR,QR,simprocAttr]
    exact ⟨⟨k+1,rfl,by omega,e,before_succ hb hy hp⟩,by simp [intOf];omega⟩
 · have hd:decide ((k:Int) < (l.length:Int))=false:=by simp;omega
   simp (disch:=try exact DI) only [↓PR,QR,simprocAttr,hd,↓I3]
   exact ⟨by rw [Q3 λ j y hy=>hb j y (by have:=(List.getElem?_eq_some_iff.1 hy).1;omega) hy],e⟩
theorem zG (w0:Wd) (v:Vl) (l:List Bool) (x:Bool) (hs:jA w0 v l) :
 Ret Pg 107 #[v,.bool x] w0 λ r w'=>r = .bool (l.any (x == ·))∧Ext w0 w':=by
 refine ZgK (R:=ZI _) ?_;unfold ZgJ
 refine Zk (jQ _ _ l x hs) ?_
 rintro r w' ⟨rfl,e⟩
 simp (disch:=try exact DI) only [↓PR,QR,simprocAttr,joinK_eq]
 exact ⟨by rw [Vu],e⟩
theorem D0 (w0:Wd) (v:Vl) (l:List Bool) (hs:jA w0 v l) :
 Ret Pg 74 #[v] w0 λ r w'=>r = .bool (l.all id)∧Ext w0 w':=by
 refine Zgg (R:=ZI _) ?_;unfold Zgf
 refine Zk (zG _ _ l false hs) ?_
 rintro r w' ⟨rfl,e⟩
 simp (disch:=try exact DI) only [↓PR,QR,simprocAttr,joinK_eq]
 refine ⟨?_,e⟩
 congr 1
 clear hs
 induction l with
 | nil=>rfl
 | cons a l ih=>cases a<;>simp_all
theorem It (w0:Wd) (c:UInt8):Ret Pg 71 #[.int .u8 c.toNat] w0 λ r w'=>r = .bool (!Cc c)∧Ext w0 w':=by
 refine Zf6 (R:=ZI _) ?_;unfold Zf5
 refine Zk (AG _ c) ?_
 rintro r w' ⟨rfl,e⟩
 simp (disch:=try exact DI) only [↓PR,QR,simprocAttr,↓xL,↓xM]
 unfold Cc
 cases Gl c with
 | true=>simp (disch:=try exact DI) only [↓PR,QR,simprocAttr,↓xL,↓xM];exact ⟨by trivial,e⟩
 | false=>
  simp (disch:=try exact DI) only [↓PR,QR,simprocAttr,↓xL,↓xM]
  refine Zk (NI _ c) ?_
  rintro r w2 ⟨rfl,e2⟩
  have e3:=e.trans e2
  cases Ek c with
  | true=>simp (disch:=try exact DI) only [↓PR,QR,simprocAttr,↓xL,↓xM];exact ⟨by trivial,e3⟩
  | false=>simp (disch:=try exact DI) only [↓PR,QR,simprocAttr,↓xL,↓xM];exact ⟨by trivial,e3⟩
def zE (w:Wd) (v:Vl) (l:List UInt8):Prop:=Zc w 1 CI v l
theorem KI (w0:Wd) (v:Vl) (l:List UInt8) (g:FuncId) (caps:AVl) (p:UInt8→Bool) (hs:zE w0 v l) (hg:Callable Pg g) (hc:UK w0 (λ _ v x=>v = .int .u8 (x.toNat:Int)) g caps p l) :
 Ret Pg 75 #[v,.func (.func g) #[] caps] w0 λ r w'=>r = .bool (l.any p)∧Ext w0 w':=by
 refine ZgG (R:=ZI _) ?_;unfold ZgF
 refine Zk (GT _ _ l g caps p hs hg hc) ?_
 rintro r w' ⟨rfl,e⟩
 simp (disch:=try exact DI) only [↓PR,QR,simprocAttr,joinK_eq]
 exact ⟨by rw [Vu],e⟩
theorem j9 (w:Wd) (l:List Bool) (T:TypeId) (hl:l.length≤9223372036854775807):jA (w.alloc (.cells (l.map Value.bool).toArray T)) (.slice (some ⟨w.heap.size,0,none⟩) l.length l.length) l:=Zc.new1 _ (λ _ _=>rfl) w l T hl
theorem O0 {w:Wd} {p:Nat} (hp:p=w.heap.size) (a b:Bool) (T:TypeId):Ret Pg 74 #[.slice (some ⟨p,0,none⟩) 2 2] (w.alloc (.cells #[.bool a,.bool b] T)) λ r w'=>r = .bool (a&&b)∧Ext (w.alloc (.cells #[.bool a,.bool b] T)) w':=by
 subst hp
 have h:=D0 _ _ [a,b] (j9 w [a,b] T (by simp))
 simpa using h
theorem FE {w:Wd} {p:Nat} (hp:p=w.heap.size) (a b c:Bool) (T:TypeId):Ret Pg 74 #[.slice (some ⟨p,0,none⟩) 3 3] (w.alloc (.cells #[.bool a,.bool b,.bool c] T)) λ r w'=>r = .bool (a&&b&&c)∧Ext (w.alloc (.cells #[.bool a,.bool b,.bool c] T)) w':=by
 subst hp
 have h:=D0 _ _ [a,b,c] (j9 w [a,b,c] T (by simp))
 simpa [Bool.and_assoc] using h
theorem UG (w0:Wd) (s:BAr):Ret Pg 35 #[.string s] w0 λ r w'=>r = .bool (Z4 s)∧Ext w0 w':=by
 refine Zf4 (R:=ZI _) ?_;unfold Zf3
 simp (disch:=try exact DI) only [↓PR,QR,simprocAttr,↓G6,↓G7]
 have e1:Ext w0 (w0.alloc (.cells #[.bool (decide (1≤(s.size:Int))),.bool (decide ((s.size:Int)≤32))] 4)):=(Ext.refl w0).alloc _
 refine Zk (D0 _ _ [decide (1≤(s.size:Int)),decide ((s.size:Int)≤32)] (j9 w0 [decide (1≤(s.size:Int)),decide ((s.size:Int)≤32)] 4 (by simp))) ?_
 rintro r w1 ⟨rfl,e2⟩
 have e:=e1.trans e2
 have hall:[decide (1≤(s.size:Int)),decide ((s.size:Int)≤32)].all id=(decide (1≤(s.size:Int))&&decide ((s.size:Int)≤32)):=by simp
 rw [hall]
 unfold Z4
 cases h1:(decide (1≤(s.size:Int))&&decide ((s.size:Int)≤32)) with
 | false=>simp (disch:=try exact DI) only [↓PR,QR,simprocAttr,↓G6,↓G7];exact ⟨by trivial,e⟩
 | true=>
  simp (disch:=try exact DI) only [↓PR,QR,simprocAttr,↓G6,↓G7]
  have Y8:s.size≤9223372036854775807:=by simp only [Bool.and_eq_true,decide_eq_true_eq] at h1;omega
  obtain ⟨c,cs,hcs⟩:∃ c cs,s.data.toList=c::cs:=by
   simp only [Bool.and_eq_true,decide_eq_true_eq] at h1
   cases hd:s.data.toList with
   | nil=>
    have:s.data.size=0:=by rw [← Array.length_toList,hd];rfl
    have h0:s.size=s.data.size:=rfl
    omega
   | cons c cs=>exact ⟨c,cs,rfl⟩
  rw [Kp underlying9 s .i64 (b:=c) (by rw [hcs];rfl)]
  refine Zk (AG _ c) ?_
  rintro r w2 ⟨rfl,e3⟩
  have e:=e.trans e3
  rw [hcs]
  cases hl:Gl c with
  | false=>simp (disch:=try exact DI) only [↓PR,QR,simprocAttr,↓G6,↓G7];exact ⟨by rw [hl];rfl,e⟩
  | true=>
   simp (disch:=try exact DI) only [↓PR,QR,simprocAttr,↓G6,↓G7]
   refine By underlying9 underlying40 underlying5 s Y8 ?_
   rintro v w3 e4 ⟨A,cp,rfl,hc1,hc2,b,rfl,X4⟩
   have Jj:s.data.toList.length=s.size:=by rw [Array.length_toList];rfl
   have hB:zE w3 (.slice (some ⟨b,0,none⟩) s.size cp) s.data.toList:=by
    rw [← Jj]
    refine ⟨_,_,rfl,by omega,hc2,λ _=>⟨_,_,rfl,λ k x hx=>⟨[.int .u8 x.toNat],rfl,λ j v hv=>?_,rfl⟩⟩⟩
    cases j with
    | zero=>injection hv with hv;subst hv;simpa using X4 k x hx
    | succ j=>cases hv
   have e:=e.trans e4
   refine Zk (KI _ _ s.data.toList _ _ (λ x=>!Cc x) hB c71 ?_) ?_
   · rintro w v x _ _ rfl
     exact It w x
   · rintro r w4 ⟨rfl,e5⟩
     simp (disch:=try exact DI) only [↓PR,QR,simprocAttr,↓G6,↓G7]
     refine ⟨?_,e.trans e5⟩
     rw [hcs,hl]
     congr 1
     generalize c::cs=l
     clear hall
     induction l with
     | nil=>rfl
     | cons a l ih=>simp only [List.any_cons,List.all_cons,Bool.not_or,Bool.not_not,Bool.true_and] at *;rw [ih]
def ji (t:Xa):Bool:=Z4 t.field&&(t.factor != 0)&&zB t.factor
theorem FB (w:Wd) (t:Xa) (pb r:Nat) (names:List BAr) (X4:w.cell? ⟨pb,0,none⟩=some (.map (some r))) (hm:Kx w r names) :
 Ret Pg 252 #[Us t,.pointer (some ⟨pb,0,none⟩)] w λ v w'=>v = .bool (yd names t.field||!ji t)∧Kx w' r (names++[t.field])∧w'.cell? ⟨pb,0,none⟩=some (.map (some r)) ∧
  ∀ w0,Ext w0 w→w0.heap.size≤r→Ext w0 w':=by
 have hpb:pb < w.heap.size:=World.block_lt_of_cell? w _ X4
 obtain ⟨L,c,hM,hl⟩:=hm
 refine Zge (R:=ZI _) ?_;unfold Zgd
 unfold Us
 simp (disch:=try exact DI) only [↓PR,QR,simprocAttr,X4]
 have e1:Ext w (w.alloc (.cells #[.string t.field,.int .i64 t.factor] 128)):=(Ext.refl w).alloc _
 rw [ja underlying199 underlying9 ty4 (hM.ext e1)]
 simp (disch:=try exact DI) only [↓PR,QR,simprocAttr,X4]
 rw [GH underlying199 underlying9 (hM.ext e1)]
 obtain ⟨W,hW⟩:∃ W,((w.alloc (.cells #[.string t.field,.int .i64 t.factor] 128)).putObj r (Gm (Uz L c t.field (.bool true)) (U5 L c t.field)))=W:=⟨_,rfl⟩
 have hS:Kx W r (names++[t.field]):=by rw [← hW];exact Kx.put (hM.ext e1) hl _
 have hC:W.cell? ⟨pb,0,none⟩=some (.map (some r)):=by rw [← hW,Jc (hM.ext e1)];exact e1.cell X4
 have hE:∀ w0,Ext w0 w→w0.heap.size≤r→Ext w0 W:=λ w0 h0 hr=>by rw [← hW];exact (h0.trans e1).putObj hr _
 have hA0:W.cell? ⟨w.heap.size,0,none⟩=some (.string t.field):=by rw [← hW,Jc (hM.ext e1),QF];rfl
 have hA1:W.cell? ⟨w.heap.size,1,none⟩=some (.int .i64 t.factor):=by rw [← hW,Jc (hM.ext e1),QF];rfl
 rw [hW]
 refine ZE ?_
 have ht8:(Sw.look L t.field).getD (.bool false) = .bool (yd names t.field):=by rw [hl];cases yd names t.field<;>rfl
 rw [ht8]
 have fin:∀ b w',Ext W w'→b=(yd names t.field||!ji t)→(Value.bool b = .bool (yd names t.field||!ji t)∧Kx w' r (names++[t.field])∧w'.cell? ⟨pb,0,none⟩=some (.map (some r))∧∀ w0,Ext w0 w→w0.heap.size≤r→Ext w0 w'):=
  λ b w' e hb=>⟨by rw [hb],hS.ext e,e.cell hC,λ w0 h0 hr=>(hE w0 h0 hr).trans e⟩
 cases PF:yd names t.field with
 | true=>
  simp (disch:=try exact DI) only [↓PR,QR,simprocAttr,↓AW,↓AX]
  exact ⟨trivial,(fin (true||!ji t) _ (Ext.refl _).wdrew (by rw [PF])).2⟩
 | false=>
  simp (disch:=try exact DI) only [↓PR,QR,simprocAttr,↓AW,↓AX,hA0,hA1]
  refine zcr (UG _ t.field) λ w1 e2=>?_
  refine ⟨e2,?_⟩
  refine zcr (DK _ t.factor) λ w2 e3=>?_
  refine ⟨e2.trans e3,?_⟩
  simp (disch:=try exact DI) only [↓PR,QR,simprocAttr,↓AW,↓AX]
  have e:=e2.trans e3
  refine ⟨e.alloc _,?_⟩
  refine zcr (FE rfl _ _ _ _) λ w3 e4=>?_
  refine ⟨(e.alloc _).trans e4,?_⟩
  simp (disch:=try exact DI) only [↓PR,QR,simprocAttr,↓AW,↓AX]
  exact ⟨rfl,(fin (!ji t) w3 (((Ext.refl _).wdrew).trans ((e.alloc _).trans e4)) (by rw [PF];rfl)).2⟩
def B1:List BAr→List Xa→Bool
 | _,[]=>true
 | seen,t::ts=>!(yd seen t.field)&&ji t&&B1 (seen++[t.field]) ts
theorem B2:∀ (ts:List Xa) (seen:List BAr),B1 seen ts=true↔∀ k x,ts[k]?=some x→(yd (seen++(ts.take k).map (·.field)) x.field||!ji x)=false
 | [],seen=>by simp [B1]
 | t::ts,seen=>by
  simp only [B1,Bool.and_eq_true,B2 ts]
  constructor
  · rintro ⟨⟨h1,h2⟩,h3⟩ k x hx
    cases k with
    | zero=>simp at hx;subst hx;simpa using ⟨by simpa using h1,h2⟩
    | succ k=>have:=h3 k x (by simpa using hx);simpa using this
  · intro h
    refine ⟨?_,λ k x hx=>by simpa using h (k+1) x (by simpa using hx)⟩
    have:=h 0 t rfl
    simp at this
    exact ⟨by rw [this.1];rfl,this.2⟩
theorem KS (w0 w1:Wd) (v:Vl) (l:List Xa) (g:FuncId) (caps:AVl) (p:Nat→Bool) (J:Nat→Wd→Prop) (hs:ZZ w0 v l) (hg:Callable Pg g) (hJ:∀ k w,J k w→Ext w0 w) (h0:J 0 w1)
 (hc:∀ k x w u,l[k]?=some x→J k w→(λ _ v x=>v=Us x) w u x→Ret Pg g (#[u]++caps) w λ r w'=>r = .bool (p k)∧J (k+1) w') :
 Ret Pg 254 #[v,.func (.func g) #[] caps] w1 λ r w'=>r = .bool ((List.range l.length).any p)∧∃ k,J k w':=by
 refine ZgE (R:=ZI _) ?_;unfold ZgD
 refine Zk (zJ w0 _ _ l g caps p J hs hg hJ h0 hc) ?_
 rintro r w' ⟨rfl,e⟩
 simp (disch:=try exact DI) only [↓PR,QR,simprocAttr,joinK_eq]
 exact ⟨by rw [Vu],e⟩
def J9 (base:Int) (ts:List Xa):Bool:=zB base&&decide (ts.length≤4)&&B1 [] ts
theorem xj (w0:Wd) (v:Vl) (base:Int) (ts:List Xa) (hs:zK w0 v base ts) :
 Ret Pg 246 #[v] w0 λ r w'=>r = .bool (J9 base ts)∧Ext w0 w':=by
 obtain ⟨tv,rfl,hT⟩:=hs
 refine Zgc (R:=ZI _) ?_;unfold Zgb
 simp (disch:=try exact DI) only [↓PR,QR,simprocAttr]
 obtain ⟨A,c,rfl,hlc,hcm,hlm,Y1⟩:=Zc.open hT
 obtain ⟨W1,hW1⟩:∃ W1,w0.alloc (.cells #[.int .i64 base,.slice A ts.length c] 120)=W1:=⟨_,rfl⟩
 have e0:Ext w0 W1:=by rw [← hW1];exact (Ext.refl w0).alloc _
 have hc0:W1.cell? ⟨w0.heap.size,0,none⟩=some (.int .i64 base):=by rw [← hW1];simp (disch:=try exact DI) only [↓PR,QR,simprocAttr]
 have hc1:W1.cell? ⟨w0.heap.size,1,none⟩=some (.slice A ts.length c):=by rw [← hW1];simp (disch:=try exact DI) only [↓PR,QR,simprocAttr]
 have Jj:w0.heap.size+1=W1.heap.size:=by rw [← hW1];simp (disch:=try exact DI) only [↓PR,QR,simprocAttr]
 simp only [hW1,Jj]
 refine El (w1:=W1) (((Ext.refl W1).alloc _).alloc _) ?_
 simp (disch:=try exact DI) only [↓PR,QR,simprocAttr,↓xN,↓xO,↓xP,hc0,hc1]
 generalize hW:(World.drew _)=W
 have e1:Ext W1 W:=by rw [← hW];exact (((Ext.refl W1).alloc _).alloc _).wdrew
 have hpb:W.cell? ⟨W1.heap.size+1,0,none⟩=some (.map (some W1.heap.size)):=by rw [← hW];simp (disch:=try exact DI) only [↓PR,QR,simprocAttr]
 have hset:Kx W W1.heap.size []:=by
  rw [← hW]
  have h:=(jU.new W1).ext (((Ext.refl _).alloc (Obj.cells (#[Value.map none].setIfInBounds 0 (Value.map (some W1.heap.size))) 199)).wdrew)
  exact ⟨[],0,by simpa using h,λ s=>rfl⟩
 clear hW
 refine zcr (DK _ base) λ w1 e2=>?_
 refine ⟨e1.trans e2,?_⟩
 simp (disch:=try exact DI) only [↓PR,QR,simprocAttr]
 refine ⟨e1.trans (e2.alloc _),?_⟩
 refine zcr (O0 rfl _ _ _) λ w2 e3=>?_
 replace e2:=(e2.alloc _).trans e3
 refine ⟨e1.trans e2,?_⟩
 simp (disch:=try exact DI) only [↓PR,QR,simprocAttr,↓xN,↓xO,↓xP]
 unfold J9
 cases hb:(zB base&&decide (ts.length≤4)) with
 | false=>
  have hb':(zB base&&decide ((ts.length:Int)≤4))=false:=by rw [← hb];congr 1;simp;omega
  rw [hb']
  simp (disch:=try exact DI) only [↓PR,QR,simprocAttr,↓xN,↓xO,↓xP,hc0,hc1]
  exact ⟨by trivial,e0.trans (e1.trans e2)⟩
 | true=>
  have hb':(zB base&&decide ((ts.length:Int)≤4))=true:=by rw [← hb];congr 1;simp;omega
  rw [hb']
  simp (disch:=try exact DI) only [↓PR,QR,simprocAttr,↓xN,↓xO,↓xP,hc0,hc1]
  refine Zk (KS W1 w2 _ ts 252 _ (λ k=>match ts[k]? with | some t=>yd ((ts.take k).map (·.field)) t.field||!ji t | none=>true) (λ k w=>Kx w W1.heap.size ((ts.take k).map (·.field))∧w.cell? ⟨W1.heap.size+1,0,none⟩=some (.map (some W1.heap.size))∧Ext W1 w) (hT.ext e0) Zjz (λ k w h=>h.2.2) ⟨hset.ext e2,e2.cell hpb,e1.trans e2⟩ ?_) ?_
  · rintro k x w u hx ⟨h1,h2,h3⟩ rfl
    simp only [Jj]
    refine Ret.mono (FB w x _ _ _ h2 h1) ?_
    rintro v w' ⟨rfl,h4,h5,h6⟩
    refine ⟨by rw [hx],?_,h5,h6 _ h3 (Nat.le_refl _)⟩
    rw [List.take_add_one,hx]
    simpa using h4
  · rintro _ w3 ⟨rfl,k,h1,h2,h3⟩
    refine ⟨h3,?_⟩
    simp (disch:=try exact DI) only [↓PR,QR,simprocAttr,↓xN,↓xO,↓xP]
    refine ⟨?_,e0.trans h3⟩
    congr 1
    rw [Bool.eq_iff_iff,B2,Bool.not_eq_true',List.any_eq_false]
    simp only [List.mem_range,List.nil_append]
    constructor
    · intro h k x hx
      have:=h k (List.getElem?_eq_some_iff.1 hx).1
      rw [hx] at this
      simpa using this
    · intro h k hk
      rw [List.getElem?_eq_getElem hk]
      have:=h k _ (List.getElem?_eq_getElem hk)
      simpa using this
def Vw (f:Zq):Bool:=f.kind == 1||f.kind == 2||f.kind == 3
def Uw (f:Zq):Int:=if f.kind == 2 then f.low else f.high
abbrev Yz (lo hi:Int):Vl := .agg #[.int .i64 lo,.int .i64 hi]
theorem Iu (w0:Wd) (v:Vl) (f:Zq) (hf:Z0 w0 v f):Ret Pg 264 #[v] w0 λ r w'=>r = .bool (Vw f)∧Ext w0 w':=by
 obtain ⟨tv,cv,rfl,hT,hC⟩:=hf
 refine ZkF (R:=ZI _) ?_;unfold n66
 simp (disch:=try exact DI) only [↓PR,QR,simprocAttr,↓Zda]
 exact ⟨by first | trivial | rfl,ee⟩
theorem Nm (w0:Wd) (v:Vl) (f:Zq) (hf:Z0 w0 v f):Ret Pg 255 #[v] w0 λ r w'=>r = .tuple #[if Vw f then Yz f.low (Uw f) else Yz 0 0,.int .i64 (if Vw f then 0 else 2)]∧Ext w0 w':=by
 obtain ⟨tv,cv,rfl,hT,hC⟩:=hf
 refine ZkG (R:=ZI _) ?_;unfold n67
 simp (disch:=try exact DI) only [↓PR,QR,simprocAttr,↓Do,↓Dp,↓Dq,↓Dr]
 refine zcr (Iu _ _ f ⟨tv,cv,rfl,ZZ.ext hT ee,Yl.ext hC ee⟩) λ w1 e1=>?_
 have s1:=e1.size
 try simp only [World.size_alloc,World.size_setCell,World.size_drew,World.putObj_size,Sw.putW_size] at s1
 cases hn:Vw f with
 | false=>
  simp (disch:=try exact DI) only [↓PR,QR,simprocAttr,↓Do,↓Dp,↓Dq,↓Dr,e1.cellQ,e1.frozenQ]
  exact ⟨by first | trivial | rfl,ee⟩
 | true=>
  simp (disch:=try exact DI) only [↓PR,QR,simprocAttr,↓Do,↓Dp,↓Dq,↓Dr,e1.cellQ,e1.frozenQ]
  unfold Uw
  cases f.kind == 2
  · simp (disch:=try exact DI) only [↓PR,QR,simprocAttr,↓Do,↓Dp,↓Dq,↓Dr,e1.cellQ,e1.frozenQ]
    exact ⟨by first | trivial | rfl,ee⟩
  · simp (disch:=try exact DI) only [↓PR,QR,simprocAttr,↓Do,↓Dp,↓Dq,↓Dr,e1.cellQ,e1.frozenQ]
    exact ⟨by first | trivial | rfl,ee⟩
theorem zY (w0:Wd) (v:Vl) (l:List YT) (g:FuncId) (caps:AVl) (p:YT→Bool) (hs:Vg w0 v l) (hg:Callable Pg g) (hc:UK w0 Wa g caps p l) :
 Ret Pg 138 #[v,.func (.func g) #[] caps] w0 λ r w'=>r = .tuple #[.int .i64 (if idx p l < 0 then 0 else idx p l),.bool (l.any p)]∧Ext w0 w':=by
 refine ZkX (R:=ZI _) ?_;unfold n84
 refine zcr (KJ _ _ l g caps p hs hg hc) λ w1 e1=>?_
 have s1:=e1.size
 try simp only [World.size_alloc,World.size_setCell,World.size_drew,World.putObj_size,Sw.putW_size] at s1
 simp (disch:=try exact DI) only [↓PR,QR,simprocAttr,↓Zdl]
 exact ⟨by rw [Vu],e1⟩
theorem jq (w0:Wd) (v:Vl) (l:List Zq) (g:FuncId) (caps:AVl) (p:Zq→Bool) (hs:YR w0 v l) (hg:Callable Pg g) (hc:UK w0 Z0 g caps p l) :
 Ret Pg 164 #[v,.func (.func g) #[] caps] w0 λ r w'=>r = .tuple #[.int .i64 (if idx p l < 0 then 0 else idx p l),.bool (l.any p)]∧Ext w0 w':=by
 refine ZkW (R:=ZI _) ?_;unfold n83
 refine zcr (Vm _ _ l g caps p hs hg hc) λ w1 e1=>?_
 have s1:=e1.size
 try simp only [World.size_alloc,World.size_setCell,World.size_drew,World.putObj_size,Sw.putW_size] at s1
 simp (disch:=try exact DI) only [↓PR,QR,simprocAttr,↓Zdk]
 exact ⟨by rw [Vu],e1⟩
def NU {α:Type} (p:α→Bool) (l:List α):Int:=if idx p l < 0 then 0 else idx p l
theorem Fz (w0:Wd) (v:Vl) (f:Zq) (pb:Nat) (s:BAr) (hf:Z0 w0 v f) (hp:w0.cell? ⟨pb,0,none⟩=some (.string s)):Ret Pg 165 #[v,.pointer (some ⟨pb,0,none⟩)] w0 λ r w'=>r = .bool (decide (f.name=s))∧Ext w0 w':=by
 obtain ⟨tv,cv,rfl,hT,hC⟩:=hf
 have hb:=World.block_lt_of_cell? w0 _ hp
 simp only at hb
 refine ZkC (R:=ZI _) ?_;unfold n63
 simp (disch:=try exact DI) only [↓PR,QR,simprocAttr,joinK_eq,hp]
 exact ⟨by first | trivial | rfl,ee⟩
theorem Is (w0:Wd) (v:Vl) (m:YT) (pb:Nat) (s:BAr) (hf:Wa w0 v m) (hp:w0.cell? ⟨pb,0,none⟩=some (.string s)):Ret Pg 139 #[v,.pointer (some ⟨pb,0,none⟩)] w0 λ r w'=>r = .bool (decide (m.name=s))∧Ext w0 w':=by
 obtain ⟨fv,rfl,hF⟩:=hf
 have hb:=World.block_lt_of_cell? w0 _ hp
 simp only at hb
 refine ZkE (R:=ZI _) ?_;unfold n65
 simp (disch:=try exact DI) only [↓PR,QR,simprocAttr,joinK_eq,hp]
 exact ⟨by first | trivial | rfl,ee⟩
theorem xe (w0:Wd) (v:Vl) (m:YT) (s:BAr) (hm:Wa w0 v m):Ret Pg 140 #[v,.string s] w0 λ r w'=>r = .tuple #[.int .i64 (NU (λ f=>decide (f.name=s)) m.fields),.bool (m.fields.any λ f=>decide (f.name=s))]∧Ext w0 w':=by
 obtain ⟨fv,rfl,hF⟩:=hm
 refine ZkB (R:=ZI _) ?_;unfold n62
 simp (disch:=try exact DI) only [↓PR,QR,simprocAttr,joinK_eq]
 refine Zk (jq _ _ m.fields _ _ (λ f=>decide (f.name=s)) (hF.ext ee) ZiZ ?_) ?_
 · intro w v f hf e hv
   exact Fz w v f _ s hv (e.cell (by simp (disch:=try exact DI) only [↓PR,QR,simprocAttr]))
 rintro _ w1 ⟨rfl,e1⟩
 simp (disch:=try exact DI) only [↓PR,QR,simprocAttr,joinK_eq]
 exact ⟨by first | trivial | rfl,ee⟩
theorem OT (w0:Wd) (v:Vl) (d:Xv) (s:BAr) (hd:Xk w0 v d):Ret Pg 109 #[v,.string s] w0 λ r w'=>r = .tuple #[.int .i64 (NU (λ m=>decide (m.name=s)) d.msgs),.bool (d.msgs.any λ m=>decide (m.name=s))]∧Ext w0 w':=by
 obtain ⟨fv,rfl,hF⟩:=hd
 refine ZkD (R:=ZI _) ?_;unfold n64
 simp (disch:=try exact DI) only [↓PR,QR,simprocAttr,joinK_eq]
 refine Zk (zY _ _ d.msgs _ _ (λ m=>decide (m.name=s)) (hF.ext ee) ZiR ?_) ?_
 · intro w v f hf e hv
   exact Is w v f _ s hv (e.cell (by simp (disch:=try exact DI) only [↓PR,QR,simprocAttr]))
 rintro _ w1 ⟨rfl,e1⟩
 simp (disch:=try exact DI) only [↓PR,QR,simprocAttr,joinK_eq]
 exact ⟨by first | trivial | rfl,ee⟩
open Go.RowKit (intOf Below)
theorem jL (w0:Wd) (v:Vl) (css:List (Cs 2)) (hs:Zc w0 2 (λ _ cs x=>cs=x.1) v css) (h1:∀ x∈css,∀ u∈x.1,u.oneCell'=true) (hb:css.length≤1048576) :
 Ret Pg 256 #[v] w0 λ r w'=>ZW w' w0.heap.size 128 2 Subtype.val r css∧Ext w0 w':=by
 obtain ⟨A,c,rfl,hlc,hcm,hlm,Y1⟩:=Zc.open hs
 refine Zgw (R:=ZI _) ?_;unfold Zgv
 simp (disch:=try exact DI) only [↓PR,QR,simprocAttr]
 cases A with
 | none=>
  have:css=[]:=by
   cases css with
   | nil=>rfl
   | cons x l=>obtain ⟨_,_,_,h,_⟩:=Y1 0 x rfl;cases h
  subst this
  simp only [Option.isNone_none]
  simp (disch:=try exact DI) only [↓PR,QR,simprocAttr]
  exact ⟨ZW.nil _ _ _ _ _,ee⟩
 | some a=>
  simp only [Option.isNone_some]
  simp (disch:=try exact DI) only [↓PR,QR,simprocAttr]
  have hO:=ZW.new w0 128 2 (Subtype.val:Cs 2→List Vl) [] (λ x=>x.2) (by simp)
  simp only [List.flatMap_nil,List.length_nil] at hO
  have eW:Ext w0 (w0.alloc (.cells #[] 128)):=ee
  have Jj:w0.heap.size≤(w0.alloc (.cells #[] 128)).heap.size:=eW.size
  generalize w0.alloc (.cells #[] 128)=W at hO eW Jj ⊢
  cases hcs:css with
  | nil=>
   subst hcs
   simp only [List.length_nil]
   rw [Ly underlying118 GP _ _ _ _ _ (Nat.le_refl 0)]
   simp (disch:=try exact DI) only [↓PR,QR,simprocAttr]
   exact ⟨hO,eW⟩
  | cons x0 l0=>
   obtain ⟨b,o,_,hA,_⟩:=Y1 0 x0 (by rw [hcs];rfl)
   injection hA with hA
   subst hA
   rw [← hcs]
   refine We underlying118 GP rfl (by decide) (λ x=>x.2) h1 hO (λ j x hx=>?_) Jj ?_ (by simp;omega) ?_
   · obtain ⟨b',o',cs,hA',hl',hE,rfl⟩:=Y1 j x hx
     injection hA' with hA'
     injection hA' with h3 h4
     subst h3 h4
     exact hE.ext eW
   · have:=ZeZ
     rw [List.length_nil,Nat.zero_add]
     exact Nat.le_trans (Nat.mul_le_mul hb this) (by decide)
   · intro v' w' ho hg
     simp (disch:=try exact DI) only [↓PR,QR,simprocAttr]
     refine ⟨ho,eW.grown hg ?_⟩
     intro k hk
     have h:=hO.lt k hk
     exact h.1
theorem Ir.one {w:Wd} {cs:List Vl} {m:YT} (h:Ir w cs m):∀ u∈cs,u.oneCell'=true:=by
 obtain ⟨fv,rfl,h1⟩:=h
 have:=h1.oneCell
 intro u hu
 simp only [List.mem_cons,List.not_mem_nil,or_false] at hu
 rcases hu with rfl | rfl
 · rfl
 · exact this
theorem qo.one {w:Wd} {cs:List Vl} {t:Xa} (h:qo w cs t):∀ u∈cs,u.oneCell'=true:=by
 obtain rfl:=h
 intro u hu
 simp only [List.mem_cons,List.not_mem_nil,or_false] at hu
 rcases hu with rfl | rfl<;>rfl
def Qb (l:List Zq):List (BAr×Vl):=(l.filter Vw).map λ f=>(f.name,Yz f.low (Uw f))
theorem GF (l:List Zq) (f:Zq):Qb (l++[f])=Qb l++(if Vw f then [(f.name,Yz f.low (Uw f))] else []):=by
 unfold Qb
 rw [List.filter_append,List.map_append]
 cases h:Vw f<;>simp [List.filter_cons,h]
theorem Qw {α:Type} {l:List α} {k:Nat} {x:α} (hx:l[k]?=some x):l.take (k+1)=l.take k++[x]:=by
 rw [List.take_add_one,hx];rfl
theorem Kt (w0:Wd) (v:Vl) (l:List Zq) (hs:YR w0 v l) :
 Ret Pg 247 #[v] w0 λ r w'=>∃ m,r = .map (some m)∧w0.heap.size≤m∧Y7 w' m (Qb l)∧Ext w0 w':=by
 obtain ⟨A,c,rfl,hlc,hcm,hlm,Y1⟩:=Zc.open hs
 refine ZfS (R:=ZI _) ?_;unfold ZfR
 simp (disch:=try exact DI) only [↓PR,QR,simprocAttr]
 have hM0:=Y7.new w0
 have e0:Ext w0 (w0.alloc (.map #[] 0)):=ee
 refine ZJ (λ a0 w=>∃ (k:Nat) , a0 = .int .i64 (k:Int)∧k≤l.length∧Ext w0 w∧Y7 w w0.heap.size (Qb (l.take k))) (λ a0 _=>l.length - (intOf a0).toNat) ⟨0,rfl,Nat.zero_le _,ee,hM0⟩ ?_
 rintro _ w ⟨k,rfl,hk,e,hI⟩
 have se:=e.size
 rcases ZT hk with ⟨x,hx,hd,Yq,ZY⟩ | ⟨hk,hd,ZY⟩
 · obtain ⟨b,o,cs,rfl,hl,hA,hE⟩:=Y1 k x hx
   obtain ⟨tv,cv,rfl,hT,hC,ht1,hc1⟩:=hE.op
   have hlt2:=hI.lt
   simp (disch:=try exact DI) only [↓PR,QR,simprocAttr,↓xH,↓xI,↓xJ,ZY,hA.c15]
   refine zcr (Nm _ _ x ⟨tv,cv,rfl,ZZ.ext hT ee,Yl.ext hC ee⟩) λ w1 e1=>?_
   have s1:=e1.size
   try simp only [World.size_alloc,World.size_setCell,World.size_drew,World.putObj_size,Sw.putW_size] at s1
   have hI1:=(hI.ext ((Ext.refl w).alloc _)).ext e1
   have hI2:∀ o,Y7 (w1.alloc o) w0.heap.size (Qb (l.take k)):=λ o=>hI1.ext ((Ext.refl w1).alloc _)
   cases hn:Vw x with
   | false=>
    simp (disch:=try exact DI) only [↓PR,QR,simprocAttr,↓xH,↓xI,↓xJ,e1.cellQ,e1.frozenQ,Yz]
    have hf:=hI2 (.cells #[.int .i64 0,.int .i64 0] 300)
    rw [show Qb (l.take k)=Qb (l.take (k+1)) by rw [Qw hx,GF,hn];simp] at hf
    exact ⟨⟨k+1,rfl,by omega,ee,hf⟩,Ya (kd := .i64) Yq⟩
   | true=>
    simp (disch:=try exact DI) only [↓PR,QR,simprocAttr,↓xH,↓xI,↓xJ,e1.cellQ,e1.frozenQ,Yz]
    have hf:=hI2 (.cells #[.int .i64 x.low,.int .i64 (Uw x)] 300)
    rw [LH underlying296 underlying9 hf]
    have hg:=hf.put x.name (Yz x.low (Uw x))
    have eg:Ext w0 (putW (w1.alloc (.cells #[.int .i64 x.low,.int .i64 (Uw x)] 300)) w0.heap.size (Qb (l.take k)) x.name (Yz x.low (Uw x))):=Ext.putW ee (Nat.le_refl _) _ _
    rw [show Qb (l.take k)++[(x.name,Yz x.low (Uw x))]=Qb (l.take (k+1)) by rw [Qw hx,GF,hn];simp] at hg
    simp (disch:=try exact DI) only [↓PR,QR,simprocAttr,↓xH,↓xI,↓xJ]
    exact ⟨⟨k+1,rfl,by omega,ee,hg⟩,Ya (kd := .i64) Yq⟩
 · subst hk
   simp (disch:=try exact DI) only [↓PR,QR,simprocAttr,↓xH,↓xI,↓xJ,ZY]
   rw [List.take_length] at hI
   exact ⟨_,rfl,Nat.le_refl _,hI,e⟩
def QA (w:Wd) (pb:Nat) (tv:Vl) (ts:List Xa):Prop:=w.cell? ⟨pb,0,none⟩=some tv∧ZZ w tv ts∧∀ A m c,tv = .slice (some A) m c→pb < A.block
theorem QA.ext {w w':Wd} {pb:Nat} {tv:Vl} {ts:List Xa} (h:QA w pb tv ts) (e:Ext w w'):QA w' pb tv ts:=⟨e.cell h.1,ZZ.ext h.2.1 e,h.2.2⟩
theorem QA.set {w:Wd} {pb:Nat} {tv:Vl} {ts:List Xa} (h:QA w pb tv ts) {b o:Nat} (hb:b < pb) (u:Vl):QA (w.setCell ⟨b,o,none⟩ u) pb tv ts:=
 ⟨by rw [YJ (by omega)];exact h.1,Zc.setOther h.2.1 u (λ A m c e=>by have:=h.2.2 A m c e;omega) (λ _ _ h=>h),h.2.2⟩
theorem CJ (w0:Wd) (v:Vl) (base:Int) (ts:List Xa) (hs:zK w0 v base ts) (hb:ts.length≤1048576) :
 Ret Pg 248 #[v] w0 λ r w'=>∃ pb tv,r = .func (.func 257) #[] #[.pointer (some ⟨pb,0,none⟩)]∧QA w' pb tv (if J9 base ts then ts else [])∧w0.heap.size≤pb∧Ext w0 w':=by
 obtain ⟨tv,rfl,hT⟩:=hs
 have ht1:=Zc.oneCell hT
 refine Zf8 (R:=ZI _) ?_;unfold Zf7
 simp (disch:=try exact DI) only [↓PR,QR,simprocAttr,↓AT]
 refine zcr (xj _ _ base ts ⟨tv,rfl,ZZ.ext hT ee⟩) λ w1 e1=>?_
 have s1:=e1.size
 try simp only [World.size_alloc,World.size_setCell,World.size_drew,World.putObj_size,Sw.putW_size] at s1
 cases hv:J9 base ts with
 | false=>
  simp (disch:=try exact DI) only [↓PR,QR,simprocAttr,↓AT]
  refine ⟨_,_,rfl,⟨e1.cell (by simp (disch:=try exact DI) only [↓PR,QR,simprocAttr]),Zc.nil _ _ _,λ A m c e=>by cases e⟩,by omega,ee⟩
 | true=>
  simp (disch:=try exact DI) only [↓PR,QR,simprocAttr,↓AT,e1.cellQ,e1.frozenQ]
  obtain ⟨cssT,hrawT,hmatesT⟩:=Zc.raw hT
  refine Zk (jL _ tv cssT (hrawT.ext ZaI ee) (λ y hy=>by obtain ⟨m,_,hm⟩:=hmatesT.mem hy;exact hm.one) (by rw [hmatesT.1];exact hb)) ?_
  rintro t8 w2 ⟨hO,e2⟩
  have s2:=e2.size
  have hO':=ZW.mates hO (hmatesT.imp λ _ _ h=>h)
  have hS:=hO'.slice (E:=qo) (λ _=>rfl) (λ _ _=>rfl)
  have h8:=Zc.oneCell hS
  have hTy:GU w2 (w0.heap.size+1) 118:=(GU.ext (w:=(w0.alloc _).alloc (.cells #[.slice none 0 0] 118)) ⟨_,_,by have:=Zv (w0.alloc (.cells #[.int .i64 base,tv] 120)) #[.slice none 0 0] 118;rw [World.size_alloc] at this;exact this⟩ (e1.trans e2))
  simp (disch:=try exact DI) only [↓PR,QR,simprocAttr,↓AT,e1.cellQ,e1.frozenQ,e2.cellQ,e2.frozenQ]
  have hS2:=((hO'.range.only (YG.setCell w2 (w0.heap.size+1) 0 t8) (.inr (.inl (by omega)))).1).slice (E:=qo) (λ _=>rfl) (λ _ _=>rfl)
  refine ⟨_,t8,rfl,⟨?_,hS2,λ A m c e=>by subst e;have:=hO'.lt A.block rfl;omega⟩,by omega,ee⟩
  simp (disch:=try exact DI) only [↓PR,QR,simprocAttr,e1.cellQ,e1.frozenQ,e2.cellQ,e2.frozenQ]
def Km (ts:List Xa) (k:Nat):Vl:=match ts[k]? with
 | some t => .string t.field
 | none=>undef
theorem CK (pb:Nat) (tv:Vl) (ts:List Xa):Mt Pg 257 #[.pointer (some ⟨pb,0,none⟩)] ts.length (Km ts) (λ w=>QA w pb tv ts):=by
 intro yv J Jx Jp w hFP hJe hJx XY h0
 obtain ⟨hc,hT,_⟩:=hFP 0 w h0
 obtain ⟨A,c,rfl,hlc,hcm,hlm,Y1⟩:=Zc.open hT
 refine Zga (t0:=yv) (t1 := .pointer (some ⟨pb,0,none⟩)) ?_
 unfold Zf9
 simp (disch:=try exact DI) only [↓PR,QR,simprocAttr,hc]
 refine ZJ (λ i w=>∃ k:Nat,i = .int .i64 k∧k≤ts.length∧J k w) (λ i _=>ts.length - (intOf i).toNat) ⟨0,rfl,by omega,h0⟩ ?_
 rintro i w' ⟨k,rfl,hk,hJ⟩
 rcases ZT hk with ⟨x,hx,hd,Yq,ZY⟩ | ⟨hk,hd,ZY⟩
 · obtain ⟨_,hT',_⟩:=hFP k w' hJ
   obtain ⟨A',c',hv,_,_,_,hel'⟩:=Zc.open hT'
   injection hv with hv _ hv'
   subst hv hv'
   obtain ⟨b,o,cs,rfl,hl,hA,rfl⟩:=hel' k x hx
   have er:=Ext.refl w'
   simp (disch:=try exact DI) only [↓PR,QR,simprocAttr,↓AU,↓AV,ZY,hA.c2]
   have hs:=XY k Yq _ (hJe k w' _ hJ ((Ext.refl w').alloc (.cells #[.string x.field,.int .i64 x.factor] 128)))
   rw [show Km ts k = .string x.field by unfold Km;rw [hx]] at hs
   refine Kb hs (λ ch w h=>h) ?_
   rintro v w2 (⟨rfl,h2⟩ | ⟨rfl,h2⟩)
   · simp (disch:=try exact DI) only [↓PR,QR,simprocAttr,↓AU,↓AV]
     exact ⟨⟨k+1,rfl,by omega,h2⟩,Ya (kd := .i64) Yq⟩
   · simp (disch:=try exact DI) only [↓PR,QR,simprocAttr,↓AU,↓AV]
     exact .inr h2
 · subst hk
   simp (disch:=try exact DI) only [↓PR,QR,simprocAttr,↓AU,↓AV,ZY]
   exact .inl hJ
theorem QA.lasts (B pb:Nat) (tv:Vl) (ts:List Xa):ZP B (λ w=>QA w pb tv ts):=
 ZP.and (ZP.cell B) (ZP.and ⟨λ _ _ h e=>ZZ.ext h e,λ _ _ _ _ _ h hl=>Zc.putLoop (λ _ _ h=>h) hl h⟩ (ZP.const _ _))
def Qp (but:BAr) (ps:List (BAr×Vl)) (p:Vl→Bool):List Xa→Bool→Int
 | [],no=>if no then 9 else 0
 | t::ts,no=>if t.field=but then Qp but ps p ts no else match Yw ps t.field with
  | none=>Qp but ps p ts true
  | some v=>if p v then Qp but ps p ts no else 2
theorem zR (w0:Wd) (v:Vl) (base:Int) (ts:List Xa) (but:BAr) (m:Nat) (ps:List (BAr×Vl)) (g:FuncId) (caps:AVl) (p:Vl→Bool) (hs:zK w0 v base ts) (hb:ts.length≤1048576)
 (hm:Y7 w0 m ps) (hr:∀ k v,Yw ps k=some v→∃ lo hi,v=Yz lo hi) (hg:Callable Pg g) (hc:∀ w lo hi,Ext w0 w→Ret Pg g (#[Yz lo hi]++caps) w λ r w'=>r = .bool (p (Yz lo hi))∧Ext w w') :
 Ret Pg 259 #[v,.string but,.map (some m),.func (.func g) #[] caps] w0 λ r w'=>r = .int .i64 (if J9 base ts then Qp but ps p ts false else 2)∧Ext w0 w':=by
 obtain ⟨tv,rfl,hT⟩:=hs
 have ht1:=Zc.oneCell hT
 have hmlt:=hm.lt
 refine Zgh (R:=ZI _) ?_;unfold Zed
 simp (disch:=try exact DI) only [↓PR,QR,simprocAttr,↓WN,↓WO,↓WQ,↓Ww,↓WR,↓WS]
 refine zcr (xj _ _ base ts ⟨tv,rfl,ZZ.ext hT ee⟩) λ w1 e1=>?_
 have s1:=e1.size
 try simp only [World.size_alloc,World.size_setCell,World.size_drew,World.putObj_size,Sw.putW_size] at s1
 cases hv:J9 base ts with
 | false=>
  simp (disch:=try exact DI) only [↓PR,QR,simprocAttr,↓WN,↓WO,↓WQ,↓Ww,↓WR,↓WS,e1.cellQ,e1.frozenQ,Wz,yW,XT]
  exact ⟨by first | trivial | rfl,ee⟩
 | true=>
  simp (disch:=try exact DI) only [↓PR,QR,simprocAttr,↓WN,↓WO,↓WQ,↓Ww,↓WR,↓WS,e1.cellQ,e1.frozenQ]
  refine Zk (CJ _ _ base ts ⟨tv,rfl,ZZ.ext hT ee⟩ hb) ?_
  rintro _ w2 ⟨pb,tv2,rfl,hTA,hpb,e2⟩
  rw [hv] at hTA
  simp only [if_true] at hTA
  have s2:=e2.size
  simp only [World.size_alloc] at s2 hpb
  have o5:w2.heap[w0.heap.size+1]?=some (.cells #[.string but] 9 (0,0)):=by simp (disch:=try exact DI) only [↓PR,QR,simprocAttr,e1.heapQ,e2.heapQ]
  have o6:w2.heap[w0.heap.size+1+1]?=some (.cells #[.map (some m)] 296 (0,0)):=by simp (disch:=try exact DI) only [↓PR,QR,simprocAttr,e1.heapQ,e2.heapQ]
  have o7:w2.heap[w0.heap.size+1+1+1]?=some (.cells #[.func (.func g) #[] caps] 311 (0,0)):=by simp (disch:=try exact DI) only [↓PR,QR,simprocAttr,e1.heapQ,e2.heapQ]
  have o8:w2.heap[w0.heap.size+1+1+1+1]?=some (.cells #[.int .i64 0] 49 (0,0)):=by simp (disch:=try exact DI) only [↓PR,QR,simprocAttr,e1.heapQ,e2.heapQ]
  have o9:w2.heap[w1.heap.size]?=some (.cells #[.bool false] 4 (0,0)):=by simp (disch:=try exact DI) only [↓PR,QR,simprocAttr,e1.heapQ,e2.heapQ]
  have eW:Ext w0 w2:=ee
  simp only [World.size_alloc]
  unfold Ww
  let I:Nat→Wd→Prop:=λ k w=>Ext w0 w∧w.heap[w0.heap.size+1]?=some (.cells #[.string but] 9 (0,0))∧w.heap[w0.heap.size+1+1]?=some (.cells #[.map (some m)] 296 (0,0)) ∧
   w.heap[w0.heap.size+1+1+1]?=some (.cells #[.func (.func g) #[] caps] 311 (0,0))∧QA w pb tv2 ts ∧
   ∃ nb x,w.heap[w0.heap.size+1+1+1+1]?=some (.cells #[.int .i64 x] 49 (0,0))∧w.heap[w1.heap.size]?=some (.cells #[.bool nb] 4 (0,0))∧Qp but ps p (ts.drop k) nb=Qp but ps p ts false
  let Ix:Nat→Wd→Prop:=λ c w=>c=0∧Ext w0 w∧w.heap[w0.heap.size+1+1+1+1]?=some (.cells #[.int .i64 2] 49 (0,0))∧Qp but ps p ts false=2
  have hLI:∀ k,ZP w2.heap.size (I k):=λ k=>ZP.and (ZP.from (by omega)) (ZP.and (ZP.has _ (by simp)) (ZP.and (ZP.has _ (by simp)) (ZP.and (ZP.has _ (by simp)) (ZP.and (QA.lasts _ _ _ _)
   (ZP.ex λ nb=>ZP.ex λ x=>ZP.and (ZP.has _ (by simp)) (ZP.and (ZP.has _ (by simp)) (ZP.const _ _)))))))
  have hLX:∀ k,ZP w2.heap.size (Ix k):=λ k=>ZP.and (ZP.const _ _)<|ZP.and (ZP.from (by omega)) (ZP.and (ZP.has _ (by simp)) (ZP.const _ _))
  refine ⟨_,_,ts.length,Km ts,λ w=>QA w pb tv2 ts,I,Ix,λ _ _=>False,rfl,Zff,CK pb tv2 ts,⟨eW,o5,o6,o7,hTA,false,0,o8,o9,rfl⟩,λ k w h=>h.2.2.2.2.1,hLI,hLX,?_,?_,?_,?_⟩
  · intro rec j w3 hj hI3 hrec hready
    refine ⟨hready,λ w4 hbz=>?_⟩
    have hrec4:=hrec.busied hbz
    have hI4:=(hLI j).busied hbz (Nat.le_succ _) hI3
    clear hI3 hrec hready hbz
    obtain ⟨e4,o5,o6,o7,hTA4,nb,x,o8,o9,hF⟩:=hI4
    obtain ⟨t,hx⟩:=getElem?_lt hj
    rw [show Km ts j = .string t.field by unfold Km;rw [hx]]
    have hd:ts.drop j=t::ts.drop (j+1):=by
     rw [List.drop_eq_getElem_cons hj]
     congr 1
     exact (List.getElem?_eq_some_iff.1 hx).2
    rw [hd] at hF
    simp only [Qp] at hF
    have hm4:=hm.ext e4
    have s4:=e4.size
    have l9:w1.heap.size < w4.heap.size:=(Array.getElem?_eq_some_iff.1 o9).1
    have l8:w0.heap.size+1+1+1+1 < w4.heap.size:=(Array.getElem?_eq_some_iff.1 o8).1
    simp (disch:=try exact DI) only [↓PR,QR,simprocAttr,↓WN,↓WO,↓WQ,↓Ww,↓WR,↓WS,(Za o5).1,(Za o6).1]
    rw [VW underlying296 underlying9 Uu hm4]
    have next:∀ nb' w5,Ext w4 w5→Qp but ps p (ts.drop (j+1)) nb'=Qp but ps p ts false→nb'=nb→I (j+1) w5:=λ nb' w5 e5 h hn=>(hLI (j+1)).ext _ _ ⟨e4,o5,o6,o7,hTA4,nb,x,o8,o9,hn ▸ h⟩ e5
    cases hl:Yw ps t.field with
    | none=>
     rw [hl] at hF
     simp (disch:=try exact DI) only [↓PR,QR,simprocAttr,↓WN,↓WO,↓WQ,↓Ww,↓WR,↓WS,(Za o5).1]
     by_cases hbut:t.field=but
     · rw [if_pos hbut] at hF
       simp only [hbut,decide_true]
       simp (disch:=try exact DI) only [↓PR,QR,simprocAttr]
       exact ⟨hrec4.alloc _,next nb _ ee hF rfl⟩
     · rw [if_neg hbut] at hF
       simp only [hbut,decide_false]
       simp (disch:=try exact DI) only [↓PR,QR,simprocAttr,↓WN,↓WO,↓WQ,↓Ww,↓WR,↓WS,(Za o9).1,(Za o9).2]
       refine ⟨(hrec4.setCell _ _).alloc _,ee,by simp (disch:=try exact DI) only [↓PR,QR,simprocAttr,o5],by simp (disch:=try exact DI) only [↓PR,QR,simprocAttr,o6],by simp (disch:=try exact DI) only [↓PR,QR,simprocAttr,o7],(hTA4.set (by omega) _).ext ((Ext.refl _).alloc _),true,x,by simp (disch:=try exact DI) only [↓PR,QR,simprocAttr,o8],?_,hF⟩
       have:=((Ext.refl _).alloc (.cells #[.int .i64 0,.int .i64 0] 300)).obj (Zw (o:=0) o9 (.bool true))
       simpa using this
    | some v=>
     obtain ⟨lo,hi,rfl⟩:=hr _ _ hl
     rw [hl] at hF
     simp (disch:=try exact DI) only [↓PR,QR,simprocAttr,↓WN,↓WO,↓WQ,↓Ww,↓WR,↓WS,(Za o5).1,Yz]
     by_cases hbut:t.field=but
     · rw [if_pos hbut] at hF
       simp only [hbut,decide_true]
       simp (disch:=try exact DI) only [↓PR,QR,simprocAttr]
       exact ⟨hrec4.alloc _,next nb _ ee hF rfl⟩
     · rw [if_neg hbut] at hF
       simp only [hbut,decide_false]
       simp (disch:=try exact DI) only [↓PR,QR,simprocAttr,↓WN,↓WO,↓WQ,↓Ww,↓WR,↓WS,(Za o7).1]
       rw [YI hg]
       refine zcr (hc _ lo hi ee) λ w6 e6=>?_
       have s6:=e6.size
       simp only [World.size_alloc] at s6
       cases hp:p (Yz lo hi) with
       | true=>
        simp only [hp,if_true] at hF
        simp (disch:=try exact DI) only [↓PR,QR,simprocAttr,↓WN,↓WO,↓WQ,↓Ww,↓WR,↓WS]
        exact ⟨(hrec4.alloc _).ext e6,next nb _ ee hF rfl⟩
       | false=>
        simp only [hp,Bool.false_eq_true,if_false] at hF
        simp (disch:=try exact DI) only [↓PR,QR,simprocAttr,↓WN,↓WO,↓WQ,↓Ww,↓WR,↓WS,e6.cellQ,e6.frozenQ,(Za o8).1,(Za o8).2]
        refine ⟨((hrec4.alloc _).ext e6).setCell _ _,rfl,ee,?_,hF.symm⟩
        have:=Zw (o:=0) ((((Ext.refl w4).alloc (.cells #[.int .i64 lo,.int .i64 hi] 300)).trans e6).obj o8) (.int .i64 2)
        simpa using this
  · rintro w3 ⟨e3,o5,o6,o7,hTA3,nb,x,o8,o9,hF⟩ hmk
    rw [List.drop_length] at hF
    simp only [Qp] at hF
    have l2:w2.heap.size < w3.heap.size:=(Array.getElem?_eq_some_iff.1 hmk).1
    cases nb with
    | true=>
     simp (disch:=try exact DI) only [↓PR,QR,simprocAttr,↓WN,↓WO,↓WQ,↓Ww,↓WR,↓WS,(Za o8).1,(Za o8).2,(Za o9).1]
     refine Wm (hmk.setCell _ _) ?_
     simp (disch:=try exact DI) only [↓PR,QR,simprocAttr,Wz,yW,XT,Kd (hmk.setCell _ _),(Za o8).1]
     exact ⟨by rw [← hF];rfl,ee⟩
    | false=>
     simp (disch:=try exact DI) only [↓PR,QR,simprocAttr,↓WN,↓WO,↓WQ,↓Ww,↓WR,↓WS,(Za o8).1,(Za o8).2,(Za o9).1]
     refine Wm (hmk.setCell _ _) ?_
     simp (disch:=try exact DI) only [↓PR,QR,simprocAttr,Wz,yW,XT,Kd (hmk.setCell _ _),(Za o8).1]
     exact ⟨by rw [← hF];rfl,ee⟩
  · rintro c w3 ⟨rfl,e3,o8,hF⟩ hmk
    have l2:w2.heap.size < w3.heap.size:=(Array.getElem?_eq_some_iff.1 hmk).1
    show Uc _ _ _ _ _
    refine Wm hmk ?_
    simp (disch:=try exact DI) only [↓PR,QR,simprocAttr,Wz,yW,XT,Kd hmk,(Za o8).1]
    exact ⟨by rw [hF],ee⟩
  · rintro _ _ h
    exact h.elim
def N7 (base:Int) (vf:Xa→Int) (ts:List Xa):Int:=ts.foldl (λ n t=>IntKind.i64.wrap (n+IntKind.i64.wrap (t.factor*vf t))) base
theorem Lw (w0:Wd) (v:Vl) (base:Int) (ts:List Xa) (g:FuncId) (caps:AVl) (vf:Xa→Int) (hs:zK w0 v base ts) (hg:Callable Pg g)
 (hc:∀ w t,Ext w0 w→Ret Pg g (#[Us t]++caps) w λ r w'=>r = .int .i64 (vf t)∧Ext w w') :
 Ret Pg 261 #[v,.func (.func g) #[] caps] w0 λ r w'=>r = .int .i64 (N7 base vf ts)∧Ext w0 w':=by
 obtain ⟨tv,rfl,hT⟩:=hs
 obtain ⟨A,c,rfl,hlc,hcm,hlm,Y1⟩:=Zc.open hT
 refine Zgn (R:=ZI _) ?_;unfold Zgm
 simp (disch:=try exact DI) only [↓PR,QR,simprocAttr,↓xQ,↓xR,↓xS]
 refine Wh (λ a0 a1 w=>∃ (k:Nat) (n:Int),a0 = .int .i64 n∧a1 = .int .i64 (k:Int)∧k≤ts.length∧Ext w0 w∧N7 n vf (ts.drop k)=N7 base vf ts) (λ a0 a1 _=>ts.length - (intOf a1).toNat) ⟨0,base,rfl,rfl,Nat.zero_le _,ee,rfl⟩ ?_
 rintro _ _ w ⟨k,n,rfl,rfl,hk,e,hI⟩
 have se:=e.size
 rcases ZT hk with ⟨x,hx,hd,Yq,ZY⟩ | ⟨hk,hd,ZY⟩
 · obtain ⟨b,o,cs,rfl,hl,hA,rfl⟩:=Y1 k x hx
   rw [hd] at hI
   simp (disch:=try exact DI) only [↓PR,QR,simprocAttr,↓xQ,↓xR,↓xS,ZY,hA.c2]
   refine ZE ?_
   simp (disch:=try exact DI) only [↓PR,QR,simprocAttr,↓xQ,↓xR,↓xS]
   rw [YI hg]
   refine zcr (hc _ x ee) λ w1 e1=>?_
   refine ⟨e1,?_⟩
   simp (disch:=try exact DI) only [↓PR,QR,simprocAttr,↓xQ,↓xR,↓xS]
   exact ⟨⟨k+1,_,rfl,rfl,by omega,ee,hI⟩,Ya (kd := .i64) Yq⟩
 · subst hk
   simp (disch:=try exact DI) only [↓PR,QR,simprocAttr,↓xQ,↓xR,↓xS,ZY]
   rw [hd] at hI
   exact ⟨by rw [← hI];rfl,e⟩
def RP (rp:List (BAr×Int×Int)):List (BAr×Vl):=rp.map λ p=>(p.1,Yz p.2.1 p.2.2)
def Wg (rp:List (BAr×Int×Int)) (s:BAr):Option (Int×Int):=(rp.reverse.find? (λ p=>decide (p.1=s))).map (·.2)
theorem Vy (rp:List (BAr×Int×Int)) (s:BAr):Yw (RP rp) s=(Wg rp s).map λ q=>Yz q.1 q.2:=by
 unfold Yw RP Wg
 rw [← List.map_reverse,List.find?_map]
 simp only [Option.map_map]
 rfl
def X3 (l:List Zq):List (BAr×Int×Int):=(l.filter Vw).map λ f=>(f.name,f.low,Uw f)
theorem Ul (l:List Zq):Qb l=RP (X3 l):=by
 unfold Qb RP X3
 rw [List.map_map]
 rfl
def NK (rp:List (BAr×Int×Int)) (least:Bool) (t:Xa):Int:=match Wg rp t.field with
 | some (lo,hi)=>if least == decide (t.factor > 0) then lo else hi
 | none=>0
theorem Zaq (w0:Wd) (t:Xa) (pm pl m:Nat) (rp:List (BAr×Int×Int)) (least:Bool) (h1:w0.cell? ⟨pm,0,none⟩=some (.map (some m))) (h2:w0.cell? ⟨pl,0,none⟩=some (.bool least)) (hm:Y7 w0 m (RP rp)) :
 Ret Pg 262 #[Us t,.pointer (some ⟨pm,0,none⟩),.pointer (some ⟨pl,0,none⟩)] w0 λ r w'=>r = .int .i64 (NK rp least t)∧Ext w0 w':=by
 have hb1:=World.block_lt_of_cell? w0 _ h1
 have hb2:=World.block_lt_of_cell? w0 _ h2
 simp only at hb1 hb2
 unfold Us
 refine Zf2 (R:=ZI _) ?_;unfold Zf1
 simp (disch:=try exact DI) only [↓PR,QR,simprocAttr,h1,h2]
 rw [W8 underlying296 underlying9 Uu (hm.ext ee),Vy]
 unfold NK
 cases hl:Wg rp t.field with
 | none=>
  simp (disch:=try exact DI) only [↓PR,QR,simprocAttr,↓Ki,h1,h2,Option.map_none]
  cases (least == decide (0 < t.factor)) with
  | true=>simp (disch:=try exact DI) only [↓PR,QR,simprocAttr,↓Ki,h1,h2];exact ⟨by first | trivial | rfl,ee⟩
  | false=>
   simp (disch:=try exact DI) only [↓PR,QR,simprocAttr,↓Ki,h1,h2]
   rw [W8 underlying296 underlying9 Uu (hm.ext ee),Vy,hl]
   simp (disch:=try exact DI) only [↓PR,QR,simprocAttr,↓Ki,Option.map_none]
   exact ⟨by first | trivial | rfl,ee⟩
 | some q=>
  obtain ⟨lo,hi⟩:=q
  simp (disch:=try exact DI) only [↓PR,QR,simprocAttr,↓Ki,h1,h2,Yz]
  cases (least == decide (0 < t.factor)) with
  | true=>simp (disch:=try exact DI) only [↓PR,QR,simprocAttr,↓Ki,h1,h2];exact ⟨by first | trivial | rfl,ee⟩
  | false=>
   simp (disch:=try exact DI) only [↓PR,QR,simprocAttr,↓Ki,h1,h2]
   rw [W8 underlying296 underlying9 Uu (hm.ext ee),Vy,hl]
   simp (disch:=try exact DI) only [↓PR,QR,simprocAttr,↓Ki,Yz]
   exact ⟨by first | trivial | rfl,ee⟩
def Zin (lo hi:Int):Bool:=decide (0≤lo)&&decide (lo≤hi)&&decide (hi < 34359738368)
def TT:Vl→Bool
 | .agg a=>match a.toList with
  | [.int _ lo,.int _ hi]=>Zin lo hi
  | _=>false
 | _=>false
theorem Ps (w0:Wd) (lo hi:Int):Ret Pg 258 #[Yz lo hi] w0 λ r w'=>r = .bool (TT (Yz lo hi))∧Ext w0 w':=by
 unfold Yz
 refine ZfY (R:=ZI _) ?_;unfold ZfX
 simp (disch:=try exact DI) only [↓PR,QR,simprocAttr,joinK_eq]
 refine zcr (FE (by simp only [World.size_alloc]) _ _ _ _) λ w1 e1=>?_
 have s1:=e1.size
 try simp only [World.size_alloc,World.size_setCell,World.size_drew,World.putObj_size,Sw.putW_size] at s1
 simp (disch:=try exact DI) only [↓PR,QR,simprocAttr,joinK_eq]
 exact ⟨rfl,ee⟩
theorem FS (w0:Wd) (pm ps m:Nat) (rp:List (BAr×Int×Int)) (least:Bool) (base:Int) (tv:Vl) (ts:List Xa) (h0:w0.cell? ⟨ps,0,none⟩=some (.int .i64 base)) (h0':w0.cell? ⟨ps,1,none⟩=some tv) (hT:ZZ w0 tv ts)
 (h1:w0.cell? ⟨pm,0,none⟩=some (.map (some m))) (hm:Y7 w0 m (RP rp)) :
 Ret Pg 260 #[.bool least,.pointer (some ⟨ps,0,none⟩),.pointer (some ⟨pm,0,none⟩)] w0 λ r w'=>r = .int .i64 (N7 base (NK rp least) ts)∧Ext w0 w':=by
 have hb1:=World.block_lt_of_cell? w0 _ h0
 have hb2:=World.block_lt_of_cell? w0 _ h1
 simp only at hb1 hb2
 refine Zf0 (R:=ZI _) ?_;unfold ZfZ
 simp (disch:=try exact DI) only [↓PR,QR,simprocAttr,h0,h0']
 refine Zk (Lw _ _ base ts _ _ (NK rp least) ⟨tv,rfl,ZZ.ext hT ee⟩ ZjG ?_) ?_
 · intro w t e
   exact Zaq w t pm w0.heap.size m rp least (((Ext.refl w0).alloc _).trans e |>.cell h1) (e.cell (by simp (disch:=try exact DI) only [↓PR,QR,simprocAttr])) (hm.ext (((Ext.refl w0).alloc _).trans e))
 rintro _ w1 ⟨rfl,e1⟩
 simp (disch:=try exact DI) only [↓PR,QR,simprocAttr,joinK_eq]
 exact ⟨by first | trivial | rfl,ee⟩
def WL (base:Int) (ts:List Xa) (rp:List (BAr×Int×Int)):Int:=if J9 base ts then Qp ByteArray.empty (RP rp) TT ts false else 2
def Gh (base:Int) (ts:List Xa) (rp:List (BAr×Int×Int)):Int:=if WL base ts rp=0 then N7 base (NK rp true) ts else 0
def Gg (base:Int) (ts:List Xa) (rp:List (BAr×Int×Int)):Int:=if WL base ts rp=0 then N7 base (NK rp false) ts else 0
theorem DT (w0:Wd) (v:Vl) (base:Int) (ts:List Xa) (m:Nat) (rp:List (BAr×Int×Int)) (hs:zK w0 v base ts) (hb:ts.length≤1048576) (hm:Y7 w0 m (RP rp)) :
 Ret Pg 249 #[v,.map (some m)] w0 λ r w'=>r = .tuple #[Yz (Gh base ts rp) (Gg base ts rp),.int .i64 (WL base ts rp)]∧Ext w0 w':=by
 obtain ⟨tv,rfl,hT⟩:=hs
 have hT1:=Zc.oneCell hT
 have hmlt:=hm.lt
 refine ZfW (R:=ZI _) ?_;unfold ZfV
 simp (disch:=try exact DI) only [↓PR,QR,simprocAttr,↓AR,↓AS,↓xK]
 refine Zk (zR _ _ base ts ByteArray.empty m (RP rp) _ _ TT ⟨tv,rfl,ZZ.ext hT ee⟩ hb (hm.ext ee) (λ k v hv=>?_) ZjD (λ w lo hi e=>by simpa using Ps w lo hi)) ?_
 · rw [Vy] at hv
   obtain ⟨q,_,rfl⟩:=Option.map_eq_some_iff.1 hv
   exact ⟨q.1,q.2,rfl⟩
 rintro _ w1 ⟨rfl,e1⟩
 have s1:=e1.size
 simp only [World.size_alloc] at s1
 show xK _ _ _ (.int .i64 (WL base ts rp)) _ w1
 unfold Gh Gg
 by_cases hE:WL base ts rp=0
 · rw [hE]
   simp (disch:=try exact DI) only [↓PR,QR,simprocAttr,↓AR,↓AS,↓xK]
   have c0:w1.cell? ⟨w0.heap.size,0,none⟩=some (.int .i64 base):=by simp (disch:=try exact DI) only [↓PR,QR,simprocAttr,e1.cellQ]
   have c1:w1.cell? ⟨w0.heap.size,1,none⟩=some tv:=by simp (disch:=try exact DI) only [↓PR,QR,simprocAttr,e1.cellQ]
   have c2:w1.cell? ⟨w0.heap.size+1,0,none⟩=some (.map (some m)):=by simp (disch:=try exact DI) only [↓PR,QR,simprocAttr,e1.cellQ]
   have eW:Ext w0 w1:=ee
   rw [YI Zfg]
   refine zcr (FS w1 _ _ m rp true base tv ts c0 c1 (hT.ext eW) c2 (hm.ext eW)) λ w2 e2=>?_
   have s2:=e2.size
   simp only [World.size_alloc]
   rw [YI Zfg]
   refine zcr (FS w2 _ _ m rp false base tv ts (e2.cell c0) (e2.cell c1) ((ZZ.ext hT eW).ext e2) (e2.cell c2) ((hm.ext eW).ext e2)) λ w3 e3=>?_
   have s3:=e3.size
   simp (disch:=try exact DI) only [↓PR,QR,simprocAttr,↓AR,↓AS,↓xK,e1.cellQ,e1.frozenQ,e2.cellQ,e2.frozenQ,e3.cellQ,e3.frozenQ]
   exact ⟨by first | trivial | rfl,ee⟩
 · have YN:(WL base ts rp != 0)=true:=by simpa using hE
   simp (disch:=try exact DI) only [↓PR,QR,simprocAttr,↓AR,↓AS,↓xK,YN,e1.cellQ,e1.frozenQ]
   simp only [hE,if_false]
   exact ⟨by first | trivial | rfl,ee⟩
def Zef (R:RT) (w:Wd):Prop:=
 opV Pg (makeInterface 9 (.string { data := #[99,97,110,110,111,116,32,98,101,32,108,101,115,115,32,116,104,97,110,32,49] })) (Zd R) w λ a w=>
 opV Pg (Instr.panic a) (Zd R) w λ _ w=>
 False
def Zgr (b c:Vl) (R:RT) (w:Wd):Prop:=
 opV Pg (box 40 b) (Zd R) w λ d w=>
 opV Pg (box 3 c) (Zd R) w λ a w=>
 L0 3 a R w λ e w=>
 B0 .lss 3 true e (.int .i64 1) R w λ f w=>
 Zs f (
 Zef R w) (
 opV Pg (makeFunc (.func 154) #[] #[d,a]) (Zd R) w λ g w=>
 R (.returned g) w)
theorem Zgs {t0 t1:Vl} {R:RT} {w:Wd} (h:Zgr t0 t1 R w):Calls Pg 126 #[t0,t1] w R:=by
 refine yD func126 ?_
 refine zs<|zr<|yv h λ _ w h=>yv h λ _ w h=>zm<|zn<|zk<|zs<|zs<|zr<|yv h λ _ w h=>yb h λ _ w h=>zn<|zk<|yC h (λ h=>zr<|yv h λ _ w h=>yv h λ _ w h=>zn<|h.elim) λ h=>?_
 exact Zj<|zk<|zs<|zr<|yF h λ _ w h=>zm<|zn<|zk<|Zg<|Zi rfl rfl h
def Rf (b c a:Vl) (Zx:KV) (R:RT) (w:Wd):Prop:=
 X0 94 b a R w λ d w=>
 L0 9 d R w λ e w=>
 XW Pg c #[e] (Zd R) w λ f w=>
 Zs f (
 R (.returned a) w) (
 B0 .add 3 true a (.int .i64 1) R w λ g w=>
 Zx g w)
def Zhd (a c:Vl) (R:RT) (w:Wd):Prop:=
 G0 94 3 a R w λ d w=>
 Y6 (λ b w Zx=>
 B0 .lss 3 false b d R w λ e w=>
 Zs e (
 Rf a c b Zx R w) (
 R (.returned (.int .i64 (-1))) w)) (.int .i64 0) w
theorem Zhe {t0 t1:Vl} {R:RT} {w:Wd} (h:Zhd t0 t1 R w):Calls Pg 129 #[t0,t1] w R:=by
 refine yD func129 ?_
 refine zs<|zr<|zm<|zn<|zk<|zs<|zs<|zr<|zm<|yx h λ _ w h=>zm<|zn<|zk<|Zl<|yl1 [4,5,8,9,10,11,12,13,14,15,16,17,18] 8 h λ σ w next h=>?_
 refine zs<|zr<|yb h λ _ w h=>zn<|zk<|zs<|yC h (λ h=>?_) λ h=>?_
 · refine Zj<|zk<|zs<|Zl<|zs<|zr<|zm<|zm<|zn<|zk<|zs<|zr<|zm<|zm<|zm ?_
   refine yv h λ _ w h=>yv h λ _ w h=>yV h λ _ w h=>zn<|zk<|yC h (λ h=>zs<|zr<|zm<|zm<|zn<|zk<|Zg<|Zh<|Zb<|Zb<|Zh<|Zb<|Zi rfl rfl h) λ h=>Zj<|Zf<|zk<|zr<|yb h λ _ w h=>zm<|zn<|zk ?_
   exact ⟨rfl,h⟩
 exact ZM<|Ze<|Ze<|Zu<|zk<|zs<|zr<|zm<|zn<|zk<|Zg<|Zi rfl rfl h
def Zdj (d a b:Vl) (e:WPr) (R:RT) (w:Wd):Prop:=
 opV Pg (Instr.typeAssert b 20 131 true) (Zd R) w λ c w=>
 E0q c 0 R w λ f w=>
 E0q c 1 R w λ g w=>
 S0 131 d f R w λ w=>
 S0 4 a g R w λ w=>
 L0 4 a R w λ h w=>
 N0 h R w λ i w=>
 Zs i (
 opV Pg (Instr.panic b) (Zd R) w λ _ w=>
 False) (
 e w)
def n82 (c d a:Vl) (R:RT) (w:Wd):Prop:=
 opV Pg (ZF .neq 20 true a .nilIface) (Zd R) w λ e w=>
 Zo (λ (w:Wd)=>
 R (.returned (.tuple #[])) w) λ b=>
 Zs e (
 Zdj c d a b R w) (
 b w)
theorem Zht {t0 t1:Vl} {u:FrameMode} {R:Ending→FrameMode→Wd→Prop} {w:Wd} (h:n82 t0 t1 (Sw.recM u).1 (λ e w=>R e (Sw.recM u).2 w) w):CallsDIn Fence.wide 0 Pg 134 #[t0,t1] u w R:=by
 refine GB (args:=[t0,t1]) (d:=3) func134 rfl (Nat.le_of_ble_eq_true rfl) rfl rfl rfl rfl ?_
 generalize (recM u).1=t3 at h ⊢
 generalize hR:(λ e w=>R e (recM u).2 w)=R' at h ⊢
 clear hR
 revert h
 generalize R'=R
 intro h
 unfold n82 at h
 refine zm<|zn<|zs<|zr<|zm<|yb h λ _ w h=>zn<|zk<|yJ0 [6,7,8,9,10,11,12,13] h (λ _ _ hkK1 h=>?_) λ σ w h=>?_
 · refine yC h (λ h=>?_) λ h=>?_
   · refine zs<|zr<|zm<|yv h λ _ w h=>zm<|yv h λ _ w h=>yv h λ _ w h=>yu h λ w h=>yu h λ w h=>zn<|zk<|zs<|zr<|yv h λ _ w h=>yv h λ _ w h=>?_
     refine zn<|zk<|yC h (λ h=>zr<|zm<|yv h λ _ w h=>zn<|h.elim) λ h=>Zj<|zk ?_
     exact zt hkK1 h
   refine Zj<|zk ?_
   exact zt hkK1 h
 exact ZG<|ZQ rfl h
def MT (b c:Vl) (a:WPr) (R:RT) (w:Wd):Prop:=
 qN Pg a (Y2 b) λ d=>
 J0 201 d 3 a λ e=>
 I0 3 e a λ f=>
 qN Pg a (Y2 b) λ g=>
 J0 201 g 4 a λ h=>
 I0 3 h a λ i=>
 qV Pg a (build 131 #[(0,f),(1,i),(2,c)]) λ j=>
 qV Pg a (makeInterface 131 j) λ k=>
 opV Pg (Instr.panic k) (Zd R) w λ _ w=>
 False
def n76 (a b c:Vl) (R:RT) (w:Wd):Prop:=
 N0 b R w λ d w=>
 Zs d (
 Yg w λ e w=>
 MT a c e R w) (
 R (.returned (.tuple #[])) w)
theorem ZkO {t0 t1 t2:Vl} {R:RT} {w:Wd} (h:n76 t0 t1 t2 R w):Calls Pg 135 #[t0,t1,t2] w R:=by
 refine yD func135 ?_
 refine zs<|zr<|zm<|yv h λ _ w h=>zn<|zk<|yC h (λ h=>?_) λ h=>?_
 · refine yh [8,9,10,11,12,13,14,15,16,17,18] h λ C hC h=>yw 0 hC ?_
   refine yn 1 hC h λ _ h=>?_
   refine ye 2 hC h λ _ h=>?_
   refine ye 3 hC h λ _ h=>?_
   refine yw 4 hC ?_
   refine yn 5 hC h λ _ h=>?_
   refine ye 6 hC h λ _ h=>?_
   refine ye 7 hC h λ _ h=>?_
   refine yw 8 hC ?_
   refine ye 9 hC h λ _ h=>?_
   refine ye 10 hC h λ _ h=>?_
   refine yo 11 ?_
   exact yv h λ _ w h=>zn<|h.elim
 exact Zj<|ZG<|ZQ rfl h
def Zdc (b:Vl) (a:WPr) (R:RT) (w:Wd):Prop:=
 qN Pg a (Y2 b) λ c=>
 J0 201 c 5 a λ d=>
 J0 74 d 1 a λ e=>
 I0 72 e a λ f=>
 qN Pg a (Y2 b) λ g=>
 J0 201 g 4 a λ h=>
 I0 3 h a λ i=>
 qV Pg a (sliceAt 72 f none (some i) none) λ j=>
 R (.returned j) w
def n71 (a:Vl) (R:RT) (w:Wd):Prop:=
 Yg w λ b w=>
 Zdc a b R w
theorem ZkJ {t0:Vl} {R:RT} {w:Wd} (h:n71 t0 R w):Calls Pg 195 #[t0] w R:=by
 refine yD func195 ?_
 refine zs<|zr<|zm<|zn<|zk<|zs<|yh [2,3,4,5,6,7,8,9,10,11,12] h λ C hC h=>yw 0 hC ?_
 refine yn 1 hC h λ _ h=>?_
 refine ye 2 hC h λ _ h=>?_
 refine ye 3 hC h λ _ h=>?_
 refine ye 4 hC h λ _ h=>?_
 refine yw 5 hC ?_
 refine yn 6 hC h λ _ h=>?_
 refine ye 7 hC h λ _ h=>?_
 refine ye 8 hC h λ _ h=>?_
 refine ye 9 hC h λ _ h=>?_
 refine yw 10 hC ?_
 exact yz<|zk<|Zg<|Zi rfl rfl h
def n85 (R:RT) (w:Wd):Prop:=
 opV Pg (Instr.makeMap 257 none) (Zd R) w λ a w=>
 opV Pg (build 255 #[(0,(.func (.func 212) #[] #[])),(1,(.func (.func 213) #[] #[]))]) (Zd R) w λ b w=>
 opU Pg (mapUpdate 257 a (.int .i64 1) b) (Zd R) w λ w=>
 opV Pg (build 255 #[(0,(.func (.func 216) #[] #[])),(1,(.func (.func 217) #[] #[]))]) (Zd R) w λ c w=>
 opU Pg (mapUpdate 257 a (.int .i64 2) c) (Zd R) w λ w=>
 opV Pg (build 255 #[(0,(.func (.func 218) #[] #[])),(1,(.func (.func 219) #[] #[]))]) (Zd R) w λ d w=>
 opU Pg (mapUpdate 257 a (.int .i64 3) d) (Zd R) w λ w=>
 opV Pg (build 255 #[(0,(.func (.func 220) #[] #[])),(1,(.func (.func 221) #[] #[]))]) (Zd R) w λ e w=>
 opU Pg (mapUpdate 257 a (.int .i64 4) e) (Zd R) w λ w=>
 opV Pg (build 255 #[(0,(.func (.func 222) #[] #[])),(1,(.func (.func 223) #[] #[]))]) (Zd R) w λ f w=>
 opU Pg (mapUpdate 257 a (.int .i64 5) f) (Zd R) w λ w=>
 opV Pg (build 255 #[(0,(.func (.func 224) #[] #[])),(1,(.func (.func 225) #[] #[]))]) (Zd R) w λ g w=>
 opU Pg (mapUpdate 257 a (.int .i64 6) g) (Zd R) w λ w=>
 opV Pg (build 255 #[(0,(.func (.func 226) #[] #[])),(1,(.func (.func 227) #[] #[]))]) (Zd R) w λ h w=>
 opU Pg (mapUpdate 257 a (.int .i64 7) h) (Zd R) w λ w=>
 opV Pg (build 255 #[(0,(.func (.func 229) #[] #[])),(1,(.func (.func 230) #[] #[]))]) (Zd R) w λ i w=>
 opU Pg (mapUpdate 257 a (.int .i64 8) i) (Zd R) w λ w=>
 opV Pg (build 255 #[(0,(.func (.func 231) #[] #[])),(1,(.func (.func 232) #[] #[]))]) (Zd R) w λ j w=>
 opU Pg (mapUpdate 257 a (.int .i64 9) j) (Zd R) w λ w=>
 opV Pg (build 255 #[(0,(.func (.func 233) #[] #[])),(1,(.func (.func 234) #[] #[]))]) (Zd R) w λ k w=>
 opU Pg (mapUpdate 257 a (.int .i64 10) k) (Zd R) w λ w=>
 opV Pg (build 255 #[(0,(.func (.func 235) #[] #[])),(1,(.func (.func 236) #[] #[]))]) (Zd R) w λ l w=>
 opU Pg (mapUpdate 257 a (.int .i64 11) l) (Zd R) w λ w=>
 opV Pg (build 255 #[(0,(.func (.func 237) #[] #[])),(1,(.func (.func 238) #[] #[]))]) (Zd R) w λ m w=>
 opU Pg (mapUpdate 257 a (.int .i64 12) m) (Zd R) w λ w=>
 R (.returned a) w
theorem ZkY {R:RT} {w:Wd} (h:n85 R w):Calls Pg 196 #[] w R:=by
 refine yD func196 ?_
 refine zs<|zr<|zm<|zn<|zk<|zs<|zr<|yv h λ _ w h=>yB h λ _ w h=>yu h λ w h=>yB h λ _ w h=>yu h λ w h=>yB h λ _ w h=>yu h λ w h=>yB h λ _ w h=>?_
 refine yu h λ w h=>yB h λ _ w h=>yu h λ w h=>yB h λ _ w h=>yu h λ w h=>yB h λ _ w h=>yu h λ w h=>yB h λ _ w h=>yu h λ w h=>yB h λ _ w h=>yu h λ w h=>yB h λ _ w h=>yu h λ w h=>yB h λ _ w h=>yu h λ w h=>?_
 exact yB h λ _ w h=>yu h λ w h=>zm<|zm<|zn<|zk<|Zg<|Zi rfl rfl h
def Jq (e f g h:Vl) (a:WPr) (R:RT) (w:Wd):Prop:=
 Zy g h (.bool false) λ c=>
 Zo (λ (b:Vl) (w:Wd)=>
 Zy c b (.bool false) λ i=>
 R (.returned i) w) λ d=>
 Zn c true (
 J0 123 e 11 a λ j=>
 I0 121 j a λ k=>
 J0 123 f 11 a λ l=>
 I0 121 l a λ m=>
 C0 241 #[k,m] R w λ b w=>
 a w∧(
 d b w)) (
 d undef w)
def Jr (c d g h:Vl) (a:WPr) (R:RT) (w:Wd):Prop:=
 qV Pg a (ZF .eql 287 false g h) λ e=>
 Zo (λ (b:Vl) (w:Wd)=>
 Jq c d e b a R w) λ f=>
 Zn e true (
 J0 123 c 7 a λ i=>
 J0 120 i 1 a λ j=>
 I0 118 j a λ k=>
 J0 123 d 7 a λ l=>
 J0 120 l 1 a λ m=>
 I0 118 m a λ n=>
 C0 240 #[k,n] R w λ b w=>
 a w∧(
 f b w)) (
 f undef w)
def Js (b c:Vl) (a:WPr) (R:RT) (w:Wd):Prop:=
 I0 123 b a λ d=>
 I0 123 c a λ e=>
 C0 239 #[d] R w λ f w=>
 a w∧(
 C0 239 #[e] R w λ g w=>
 a w∧(
 Jr b c f g a R w))
def ZfT (a b:Vl) (R:RT) (w:Wd):Prop:=
 opV Pg (box 123 a) (Zd R) w λ c w=>
 opV Pg (box 123 b) (Zd R) w λ d w=>
 Yg w λ e w=>
 Js c d e R w
theorem ZfU {t0 t1:Vl} {R:RT} {w:Wd} (h:ZfT t0 t1 R w):Calls Pg 197 #[t0,t1] w R:=by
 refine yD func197 ?_
 refine zs<|zr<|yv h λ _ w h=>yv h λ _ w h=>zm<|zn<|zk<|zs<|yh [4,5,6,7,8,9,10,11,12,13,14,15,16,17,18,19,20,21,22,23,24,25] h λ C hC h=>ye 0 hC h λ _ h=>?_
 refine ye 2 hC h λ _ h=>?_
 refine yo 1 ?_
 refine yc h Zfc λ _ w h=>zn ?_
 obtain ⟨hC,h⟩:=h
 refine ⟨hC,?_⟩
 refine yo 3 ?_
 refine yc h Zfc λ _ w h=>zn ?_
 obtain ⟨hC,h⟩:=h
 refine ⟨hC,?_⟩
 refine ye 4 hC h λ _ h=>?_
 refine yw 5 hC ?_
 refine yj1 9 [12,11,10,9,8,7,6,5,4,3,1,2,0] [11,12,13,14,15,16,17] 17 h (λ _ hT hb h=>?_) (λ _ hT hb h=>?_) λ σ w hC h=>?_
 · refine ye 6 hC h λ _ h=>?_
   refine ye 7 hC h λ _ h=>?_
   refine ye 8 hC h λ _ h=>?_
   refine ye 9 hC h λ _ h=>?_
   refine ye 10 hC h λ _ h=>?_
   refine ye 11 hC h λ _ h=>?_
   refine yo 12 ?_
   refine yc h Zjs λ _ w h=>zn ?_
   obtain ⟨hC,h⟩:=h
   refine ⟨hC,?_⟩
   exact yt hT hC h
 · refine yi 6 hC ?_
   refine yi 7 hC ?_
   refine yi 8 hC ?_
   refine yi 9 hC ?_
   refine yi 10 hC ?_
   refine yi 11 hC ?_
   refine yi 12 hC ?_
   exact yt hT hC h
 refine yP 13 hC h λ _ h=>?_
 refine yw 14 hC ?_
 refine yj1 2 [19,18,17,16,15,14,13,12,11,10,9,8,7,6,5,4,3,1,2,0] [20,21,22,23,24] 24 h (λ _ hT hb h=>?_) (λ _ hT hb h=>?_) λ σ w hC h=>?_
 · refine ye 15 hC h λ _ h=>?_
   refine ye 16 hC h λ _ h=>?_
   refine ye 17 hC h λ _ h=>?_
   refine ye 18 hC h λ _ h=>?_
   refine yo 19 ?_
   refine yc h Zjt λ _ w h=>zn ?_
   obtain ⟨hC,h⟩:=h
   refine ⟨hC,?_⟩
   exact yt hT hC h
 · refine yi 15 hC ?_
   refine yi 16 hC ?_
   refine yi 17 hC ?_
   refine yi 18 hC ?_
   refine yi 19 hC ?_
   exact yt hT hC h
 refine yP 20 hC h λ _ h=>?_
 refine yw 21 hC ?_
 exact yz<|zk<|Zg<|Zi rfl rfl h
def n53 (a:Vl) (R:RT) (w:Wd):Prop:=
 Zs (.bool false) (
 opV Pg (Go.convert 197 273 a) (Zd R) w λ b w=>
 C0 244 #[b] R w λ c w=>
 R (.returned c) w) (
 C0 245 #[a] R w λ d w=>
 R (.returned d) w)
theorem Zks {t0:Vl} {R:RT} {w:Wd} (h:n53 t0 R w):Calls Pg 211 #[t0] w R:=by
 refine yD func211 ?_
 refine zs<|zr<|zm<|zn<|zk<|zs<|yC h (λ h=>zs<|zr<|zm<|yv h λ _ w h=>yc h Zju λ _ w h=>zm<|zn<|zk<|Zg<|Zb<|Zi rfl rfl h) λ h=>Zj<|zk<|zs<|zr<|zm<|yc h Zjv λ _ w h=>zm ?_
 exact zn<|zk<|Zg<|Zi rfl rfl h
def n86 (a:Vl) (R:RT) (w:Wd):Prop:=
 opN Pg (Y2 a) (Zd R) w λ b w=>
 F0 123 b 2 R w λ c w=>
 opU Pg (storeAt 3 c (.int .i64 0)) (Zd R) w λ w=>
 opN Pg (Y2 a) (Zd R) w λ d w=>
 F0 123 d 3 R w λ e w=>
 opU Pg (storeAt 4 e (.bool false)) (Zd R) w λ w=>
 opN Pg (Y2 a) (Zd R) w λ f w=>
 F0 123 f 5 R w λ g w=>
 opU Pg (storeAt 3 g (.int .i64 0)) (Zd R) w λ w=>
 opN Pg (Y2 a) (Zd R) w λ h w=>
 F0 123 h 6 R w λ i w=>
 opU Pg (storeAt 3 i (.int .i64 0)) (Zd R) w λ w=>
 R (.returned (.tuple #[])) w
theorem ZkZ {t0:Vl} {R:RT} {w:Wd} (h:n86 t0 R w):Calls Pg 212 #[t0] w R:=by
 refine yD func212 ?_
 refine zr<|zm<|zm<|zm<|zm<|yN h λ _ w h=>yv h λ _ w h=>yu h λ w h=>yN h λ _ w h=>yv h λ _ w h=>yu h λ w h=>yN h λ _ w h=>yv h λ _ w h=>yu h λ w h=>yN h λ _ w h=>?_
 exact yv h λ _ w h=>yu h λ w h=>zn<|ZG<|ZQ rfl h
def Zdu (c b:Vl) (a:WPr) (R:RT) (w:Wd):Prop:=
 J0 123 b 2 a λ d=>
 I0 3 d a λ e=>
 qV Pg a (ZF .shl 3 true (.int .i64 1) e) λ f=>
 qV Pg a (ZF .sub 3 true f (.int .i64 1)) λ g=>
 J0 123 b 5 a λ h=>
 I0 3 h a λ i=>
 J0 123 b 6 a λ j=>
 I0 3 j a λ k=>
 opV Pg (buildSlice 61 2 #[(0,i),(1,k)]) (Zd R) w λ l w=>
 a w∧(
 C0 215 #[c,(.int .i64 0),g,l] R w λ m w=>
 a w∧(
 R (.returned (.tuple #[])) w))
def n97 (a c:Vl) (R:RT) (w:Wd):Prop:=
 opV Pg (box 123 c) (Zd R) w λ b w=>
 L0 123 b R w λ d w=>
 C0 214 #[a,d] R w λ f w=>
 Yg w λ e w=>
 Zdu a b e R w
theorem Zla {t0 t1:Vl} {R:RT} {w:Wd} (h:n97 t0 t1 R w):Calls Pg 213 #[t0,t1] w R:=by
 refine yD func213 ?_
 refine zs<|zr<|yv h λ _ w h=>zn<|zk<|zs<|zr<|zm<|yv h λ _ w h=>yc h Zfb λ _ w h=>zn<|zk<|yh [7,8,9,10,11,12,13,14,15,16,17] h λ C hC h=>yw 0 hC ?_
 refine ye 1 hC h λ _ h=>?_
 refine ye 2 hC h λ _ h=>?_
 refine ye 3 hC h λ _ h=>?_
 refine ye 4 hC h λ _ h=>?_
 refine ye 5 hC h λ _ h=>?_
 refine ye 6 hC h λ _ h=>?_
 refine ye 7 hC h λ _ h=>?_
 refine ye 8 hC h λ _ h=>?_
 refine yo 9 ?_
 refine yS h λ _ w h=>zn ?_
 obtain ⟨hC,h⟩:=h
 refine ⟨hC,?_⟩
 refine yo 10 ?_
 refine yc h D4 λ _ w h=>zn ?_
 obtain ⟨hC,h⟩:=h
 refine ⟨hC,?_⟩
 exact yz<|ZG<|ZQ rfl h
def Sv (d b e f:Vl) (R:RT) (w:Wd):Prop:=
 Zo (λ (a:Vl) (w:Wd)=>
 Zy b a (.bool false) λ g=>
 C0 135 #[d,g,(.int .i64 6)] R w λ h w=>
 R (.returned (.tuple #[])) w) λ c=>
 Zn b true (
 Zy e (.bool true) f λ a=>
 c a w) (
 c undef w)
def Sx (g h i c d:Vl) (R:RT) (w:Wd):Prop:=
 Zo (λ (a:Vl) (w:Wd)=>
 Zo (λ (b:Vl) (w:Wd)=>
 Sv g i c b R w) λ e=>
 Zn c false (
 Zy d a (.bool false) λ b=>
 e b w) (
 e undef w)) λ f=>
 Zn d true (
 F0 123 h 2 R w λ j w=>
 L0 3 j R w λ k w=>
 B0 .rem 3 true k (.int .i64 8) R w λ l w=>
 B0 .eql 3 true l (.int .i64 0) R w λ a w=>
 f a w) (
 f undef w)
def Sy (d a e b:Vl) (R:RT) (w:Wd):Prop:=
 Zo (λ (f:Vl) (w:Wd)=>
 Sx d a e b f R w) λ c=>
 Zn b false (
 F0 123 a 2 R w λ g w=>
 L0 3 g R w λ h w=>
 B0 .gtr 3 true h (.int .i64 8) R w λ i w=>
 c i w) (
 c undef w)
def Sz (d a e f:Vl) (R:RT) (w:Wd):Prop:=
 Zy e f (.bool false) λ b=>
 Zo (λ (g:Vl) (w:Wd)=>
 Sy d a b g R w) λ c=>
 Zn b true (
 F0 123 a 3 R w λ h w=>
 L0 4 h R w λ i w=>
 N0 i R w λ j w=>
 c j w) (
 c undef w)
def n72 (e f:Vl) (R:RT) (w:Wd):Prop:=
 opV Pg (box 123 f) (Zd R) w λ a w=>
 F0 123 a 2 R w λ g w=>
 L0 3 g R w λ h w=>
 B0 .geq 3 true h (.int .i64 1) R w λ c w=>
 Zo (λ (b:Vl) (w:Wd)=>
 Sz e a c b R w) λ d=>
 Zn c true (
 F0 123 a 2 R w λ i w=>
 L0 3 i R w λ j w=>
 B0 .leq 3 true j (.int .i64 32) R w λ b w=>
 d b w) (
 d undef w)
theorem ZkK {t0 t1:Vl} {R:RT} {w:Wd} (h:n72 t0 t1 R w):Calls Pg 214 #[t0,t1] w R:=by
 refine yD func214 ?_
 refine zs<|zr<|yv h λ _ w h=>zn<|zk<|Zt<|yG 5<|zm<|yv h λ _ w h=>yv h λ _ w h=>yb h λ _ w h=>zm<|zn<|yg1 3 4 true [9,10,11] 11 h (λ _ T hT h=>?_) λ σ w h=>?_
 · refine yv h λ _ w h=>yv h λ _ w h=>yb h λ _ w h=>zn ?_
   exact zt hT h
 refine yG 2<|yp h λ _ h=>zm<|zn<|yg1 4 9 true [14,15,16,17] 17 h (λ _ T hT h=>?_) λ σ w h=>?_
 · refine yv h λ _ w h=>yv h λ _ w h=>yv h λ _ w h=>zm<|zn ?_
   exact zt hT h
 refine yg1 4 13 false [18,19,20,21] 21 h (λ _ T hT h=>?_) λ σ w h=>?_
 · refine yv h λ _ w h=>yv h λ _ w h=>yb h λ _ w h=>zm<|zn ?_
   exact zt hT h
 refine yg1 4 17 true [22,23,24,25] 25 h (λ _ T hT h=>?_) λ σ w h=>?_
 · refine yv h λ _ w h=>yv h λ _ w h=>yb h λ _ w h=>yb h λ _ w h=>zn ?_
   exact zt hT h
 refine yg1 1 13 false [26] 26 h (λ _ T hT h=>?_) λ σ w h=>?_
 · refine yp h λ _ h=>zn ?_
   exact zt hT h
 refine yg1 1 9 true [27] 27 h (λ _ T hT h=>?_) λ σ w h=>?_
 · refine yp h λ _ h=>zn ?_
   exact zt hT h
 exact yG 2<|yp h λ _ h=>yc h Ua λ _ w h=>zn<|ZK<|ZG<|ZQ rfl h
def MV (a b c d e:Vl) (Zx:KW) (R:RT) (w:Wd):Prop:=
 Zy d e (.bool false) λ f=>
 C0 135 #[a,f,(.int .i64 7)] R w λ h w=>
 B0 .add 3 true b (.int .i64 1) R w λ g w=>
 Zx c g w
def MW (f g h i c:Vl) (Zx:KW) (R:RT) (w:Wd):Prop:=
 X0 61 i c R w λ j w=>
 L0 3 j R w λ a w=>
 B0 .geq 3 false a g R w λ d w=>
 Zo (λ (b:Vl) (w:Wd)=>
 MV f c a d b Zx R w) λ e=>
 Zn d true (
 B0 .leq 3 false a h R w λ b w=>
 e b w) (
 e undef w)
def n80 (d a e b:Vl) (R:RT) (w:Wd):Prop:=
 G0 61 3 b R w λ f w=>
 Kz (λ a c w Zx=>
 B0 .lss 3 false c f R w λ g w=>
 Zs g (
 MW d a e b c Zx R w) (
 R (.returned (.tuple #[])) w)) a (.int .i64 0) w
theorem ZkU {t0 t1 t2 t3:Vl} {R:RT} {w:Wd} (h:n80 t0 t1 t2 t3 R w):Calls Pg 215 #[t0,t1,t2,t3] w R:=by
 refine yD func215 ?_
 refine zs<|zr<|zm<|yx h λ _ w h=>zm<|zn<|zk<|Zl<|yl2 [1,9,12,13,14,15,16,17,18,19,20,21,22,23,24,25,26,27] 1 12 h λ σ w next h=>zs<|zr<|yb h λ _ w h=>zn<|zk<|zs ?_
 refine yC h (λ h=>?_) λ h=>?_
 · refine Zj<|zk<|zs<|Zl<|zs<|zr<|yv h λ _ w h=>yv h λ _ w h=>zm<|zn<|zk<|zs<|Zt<|yG 5<|zm ?_
   refine zm<|zm<|yb h λ _ w h=>zm<|zn<|yg1 3 4 true [21,22,23] 23 h (λ _ T hT h=>?_) λ σ w h=>?_
   · refine zm<|zm<|yb h λ _ w h=>zn ?_
     exact zt hT h
   refine yG 2<|yp h λ _ h=>yc h Ua λ _ w h=>zn<|ZK<|zk<|zr<|zm<|zm<|zn<|Zf<|zk<|zr<|yb h λ _ w h=>zm ?_
   exact zn<|zk<|⟨rfl,h⟩
 exact ZM<|Ze<|Ze<|Zu<|ZG<|ZQ rfl h
def ZfB (a:Vl) (R:RT) (w:Wd):Prop:=
 opN Pg (Y2 a) (Zd R) w λ b w=>
 F0 123 b 2 R w λ c w=>
 opU Pg (storeAt 3 c (.int .i64 0)) (Zd R) w λ w=>
 opN Pg (Y2 a) (Zd R) w λ d w=>
 F0 123 d 3 R w λ e w=>
 opU Pg (storeAt 4 e (.bool false)) (Zd R) w λ w=>
 opN Pg (Y2 a) (Zd R) w λ f w=>
 F0 123 f 5 R w λ g w=>
 opU Pg (storeAt 3 g (.int .i64 0)) (Zd R) w λ w=>
 R (.returned (.tuple #[])) w
theorem ZfC {t0:Vl} {R:RT} {w:Wd} (h:ZfB t0 R w):Calls Pg 216 #[t0] w R:=by
 refine yD func216 ?_
 refine zr<|zm<|zm<|zm<|yN h λ _ w h=>yv h λ _ w h=>yu h λ w h=>yN h λ _ w h=>yv h λ _ w h=>yu h λ w h=>yN h λ _ w h=>yv h λ _ w h=>yu h λ w h=>zn<|ZG ?_
 exact ZQ rfl h
def P3 (c b:Vl) (a:WPr) (R:RT) (w:Wd):Prop:=
 J0 123 b 2 a λ d=>
 I0 3 d a λ e=>
 qV Pg a (ZF .shl 3 true (.int .i64 1) e) λ f=>
 qV Pg a (ZF .sub 3 true f (.int .i64 1)) λ g=>
 J0 123 b 5 a λ h=>
 I0 3 h a λ i=>
 opV Pg (buildSlice 61 1 #[(0,i)]) (Zd R) w λ j w=>
 a w∧(
 C0 215 #[c,(.int .i64 0),g,j] R w λ k w=>
 a w∧(
 R (.returned (.tuple #[])) w))
def ZfD (a c:Vl) (R:RT) (w:Wd):Prop:=
 opV Pg (box 123 c) (Zd R) w λ b w=>
 L0 123 b R w λ d w=>
 C0 214 #[a,d] R w λ f w=>
 Yg w λ e w=>
 P3 a b e R w
theorem ZfE {t0 t1:Vl} {R:RT} {w:Wd} (h:ZfD t0 t1 R w):Calls Pg 217 #[t0,t1] w R:=by
 refine yD func217 ?_
 refine zs<|zr<|yv h λ _ w h=>zn<|zk<|zs<|zr<|zm<|yv h λ _ w h=>yc h Zfb λ _ w h=>zn<|zk<|yh [7,8,9,10,11,12,13,14,15] h λ C hC h=>yw 0 hC ?_
 refine ye 1 hC h λ _ h=>?_
 refine ye 2 hC h λ _ h=>?_
 refine ye 3 hC h λ _ h=>?_
 refine ye 4 hC h λ _ h=>?_
 refine ye 5 hC h λ _ h=>?_
 refine ye 6 hC h λ _ h=>?_
 refine yo 7 ?_
 refine yS h λ _ w h=>zn ?_
 obtain ⟨hC,h⟩:=h
 refine ⟨hC,?_⟩
 refine yo 8 ?_
 refine yc h D4 λ _ w h=>zn ?_
 obtain ⟨hC,h⟩:=h
 refine ⟨hC,?_⟩
 exact yz<|ZG<|ZQ rfl h
def ZfF (a:Vl) (R:RT) (w:Wd):Prop:=
 opN Pg (Y2 a) (Zd R) w λ b w=>
 F0 123 b 4 R w λ c w=>
 opU Pg (storeAt 4 c (.bool false)) (Zd R) w λ w=>
 opN Pg (Y2 a) (Zd R) w λ d w=>
 F0 123 d 5 R w λ e w=>
 opU Pg (storeAt 3 e (.int .i64 0)) (Zd R) w λ w=>
 opN Pg (Y2 a) (Zd R) w λ f w=>
 F0 123 f 6 R w λ g w=>
 opU Pg (storeAt 3 g (.int .i64 0)) (Zd R) w λ w=>
 R (.returned (.tuple #[])) w
theorem ZfG {t0:Vl} {R:RT} {w:Wd} (h:ZfF t0 R w):Calls Pg 218 #[t0] w R:=by
 refine yD func218 ?_
 refine zr<|zm<|zm<|zm<|yN h λ _ w h=>yv h λ _ w h=>yu h λ w h=>yN h λ _ w h=>yv h λ _ w h=>yu h λ w h=>yN h λ _ w h=>yv h λ _ w h=>yu h λ w h=>zn<|ZG ?_
 exact ZQ rfl h
def ZfH (b c:Vl) (R:RT) (w:Wd):Prop:=
 opV Pg (box 123 c) (Zd R) w λ a w=>
 F0 123 a 5 R w λ d w=>
 L0 3 d R w λ e w=>
 F0 123 a 6 R w λ f w=>
 L0 3 f R w λ g w=>
 opV Pg (buildSlice 61 2 #[(0,e),(1,g)]) (Zd R) w λ h w=>
 C0 215 #[b,(.int .i64 0),(.int .i64 34359738367),h] R w λ i w=>
 R (.returned (.tuple #[])) w
theorem ZfI {t0 t1:Vl} {R:RT} {w:Wd} (h:ZfH t0 t1 R w):Calls Pg 219 #[t0,t1] w R:=by
 refine yD func219 ?_
 refine zs<|zr<|yv h λ _ w h=>zn<|zk<|zr<|zm<|yv h λ _ w h=>yv h λ _ w h=>yv h λ _ w h=>yv h λ _ w h=>yS h λ _ w h=>yc h D4 λ _ w h=>zn<|ZG ?_
 exact ZQ rfl h
def ZfJ (a:Vl) (R:RT) (w:Wd):Prop:=
 opV Pg (build 120 #[]) (Zd R) w λ b w=>
 opN Pg (Y2 a) (Zd R) w λ c w=>
 F0 123 c 7 R w λ d w=>
 S0 120 d b R w λ w=>
 R (.returned (.tuple #[])) w
theorem ZfK {t0:Vl} {R:RT} {w:Wd} (h:ZfJ t0 R w):Calls Pg 220 #[t0] w R:=by
 refine yD func220 ?_
 exact zr<|zm<|yB h λ _ w h=>yN h λ _ w h=>yv h λ _ w h=>yu h λ w h=>zn<|ZG<|ZQ rfl h
def JL (c d e:Vl) (f:WPr) (a:PEn) (R:RT) (w:Wd):Prop:=
 opV Pg (loadAt 296 d) a w λ g w=>
 opV Pg (lookup 296 g e true) a w λ b w=>
 opV Pg (extract b 0) a w λ h w=>
 opV Pg (extract b 1) a w λ i w=>
 opV Pg (alloc 300 true (.tuple #[])) a w λ j w=>
 opU Pg (storeAt 300 j h) a w λ w=>
 opV Pg (loadAt 167 c) a w λ k w=>
 ZV Pg 135 #[k,i,(.int .i64 8)] a w λ l w=>
 f w
def JM (d e f g:Vl) (ds:LDf) (R:RT) (w:Wd):Prop:=
 Zy f g (.bool false) λ b=>
 Zo (λ (a:Vl) (w:Wd)=>
 Zy b a (.bool false) λ h=>
 ZV Pg 135 #[e,h,(.int .i64 9)] (ZB Pg ds [] R) w λ k w=>
 Uc Pg ds [] R w) λ c=>
 Zn b true (
 opV Pg (fieldAt 300 d 1) (ZB Pg ds [] R) w λ i w=>
 opV Pg (loadAt 3 i) (ZB Pg ds [] R) w λ j w=>
 opV Pg (ZF .leq 3 true j (.int .i64 1048576)) (ZB Pg ds [] R) w λ a w=>
 c a w) (
 c undef w)
def JN (f c:Vl) (ds:LDf) (R:RT) (w:Wd):Prop:=
 opV Pg (extract c 0) (ZB Pg ds [] R) w λ g w=>
 opV Pg (extract c 1) (ZB Pg ds [] R) w λ h w=>
 opV Pg (alloc 300 true (.tuple #[])) (ZB Pg ds [] R) w λ a w=>
 opU Pg (storeAt 300 a g) (ZB Pg ds [] R) w λ w=>
 opV Pg (loadAt 167 f) (ZB Pg ds [] R) w λ i w=>
 opV Pg (ZF .eql 49 true h (.int .i64 0)) (ZB Pg ds [] R) w λ d w=>
 Zo (λ (b:Vl) (w:Wd)=>
 JM a i d b ds R w) λ e=>
 Zn d true (
 opV Pg (fieldAt 300 a 0) (ZB Pg ds [] R) w λ j w=>
 opV Pg (loadAt 3 j) (ZB Pg ds [] R) w λ k w=>
 opV Pg (ZF .geq 3 true k (.int .i64 0)) (ZB Pg ds [] R) w λ b w=>
 e b w) (
 e undef w)
def KA (a b c:Vl) (ds:LDf) (R:RT) (w:Wd):Prop:=
 opV Pg (fieldAt 123 b 7) (ZB Pg ds [] R) w λ d w=>
 opV Pg (loadAt 120 d) (ZB Pg ds [] R) w λ e w=>
 opV Pg (loadAt 296 c) (ZB Pg ds [] R) w λ f w=>
 ZV Pg 249 #[e,f] (ZB Pg ds [] R) w λ g w=>
 JN a g ds R w
def KC (a c b d:Vl) (ds:LDf) (R:RT) (w:Wd):Prop:=
 BH Pg d ds (λ l2 e w f h g=>
 Aa l2 w λ w=>
 JL a b e f g R w) (λ ch ds w=>ZB Pg ds [] R ch w) w (λ ds w=>
 KA a c b ds R w) []
def JO (c a d:Vl) (ds:LDf) (R:RT) (w:Wd):Prop:=
 opV Pg (alloc 296 true (.tuple #[])) (ZB Pg ds [] R) w λ b w=>
 opU Pg (storeAt 296 b d) (ZB Pg ds [] R) w λ w=>
 opV Pg (fieldAt 123 a 7) (ZB Pg ds [] R) w λ e w=>
 opV Pg (loadAt 120 e) (ZB Pg ds [] R) w λ f w=>
 ZV Pg 248 #[f] (ZB Pg ds [] R) w λ g w=>
 KC c a b g ds R w
def JP (a b:Vl) (ds:LDf) (R:RT) (w:Wd):Prop:=
 opV Pg (loadAt 167 a) (ZB Pg ds [] R) w λ c w=>
 ZV Pg 195 #[c] (ZB Pg ds [] R) w λ d w=>
 ZV Pg 247 #[d] (ZB Pg ds [] R) w λ e w=>
 JO a b e ds R w
def JQ (b c:Vl) (a:WPr) (ds:LDf) (R:RT) (w:Wd):Prop:=
 I0 167 b a λ d=>
 J0 123 c 7 a λ e=>
 I0 120 e a λ f=>
 ZV Pg 246 #[f] (ZB Pg ds [] R) w λ g w=>
 a w∧(
 ZV Pg 135 #[d,g,(.int .i64 9)] (ZB Pg ds [] R) w λ h w=>
 a w∧(
 JP b c ds R w))
def n79 (a b:Vl) (R:RT) (w:Wd):Prop:=
 (λ (ds:LDf)=>
 opV Pg (box 167 a) (ZB Pg ds [] R) w λ c w=>
 opV Pg (box 123 b) (ZB Pg ds [] R) w λ d w=>
 Yg w λ e w=>
 JQ c d e ds R w) []
theorem ZkR {t0 t1:Vl} {R:RT} {w:Wd} (h:n79 t0 t1 R w):Calls Pg 221 #[t0,t1] w R:=by
 refine yE func221 ?_
 unfold n79 at h
 dsimp only at h
 refine zs<|zr<|yv h λ _ w h=>yv h λ _ w h=>zn<|zk<|zs<|yh [10,11,12,13,14] h λ C hC h=>ye 0 hC h λ _ h=>?_
 refine ye 1 hC h λ _ h=>?_
 refine ye 2 hC h λ _ h=>?_
 refine yo 3 ?_
 refine yc h ZdN λ _ w h=>zn ?_
 obtain ⟨hC,h⟩:=h
 refine ⟨hC,?_⟩
 refine yo 4 ?_
 refine yc h Ua λ _ w h=>zn ?_
 obtain ⟨hC,h⟩:=h
 refine ⟨hC,?_⟩
 refine yz<|zk<|zs<|zr<|yv h λ _ w h=>yc h Nu λ _ w h=>yc h Zaa λ _ w h=>yv h λ _ w h=>yu h λ w h=>zn<|zk<|zs<|zs<|zr<|yv h λ _ w h=>?_
 refine yv h λ _ w h=>yc h Zfd λ _ w h=>zn<|zk<|Zl<|Gt [] h rfl (λ l2 t21 w Kr2 Xr2 Qr2 h=>?_) (λ ds w h=>?_) (λ c ds w h=>?_) (λ ch ds w h=>X7 rfl h)
 · refine zr<|zm<|zn<|zk ?_
   obtain ⟨hr,h⟩:=h
   refine ⟨rfl,hr,λ w hb=>?_⟩
   have h:=h w hb
   refine Zl<|zs<|zr<|yv h λ _ w h=>zm<|yv h λ _ w h=>zm<|yv h λ _ w h=>yv h λ _ w h=>yv h λ _ w h=>yu h λ w h=>zm<|zn<|zk<|zr ?_
   exact yv h λ _ w h=>zm<|yc h Ua λ _ w h=>zn<|Zf<|⟨rfl,h⟩
 · refine Zf<|zk<|zs<|zr<|yv h λ _ w h=>yv h λ _ w h=>yv h λ _ w h=>yc h Zjw λ _ w h=>zm<|yv h λ _ w h=>yv h λ _ w h=>yv h λ _ w h=>yu h λ w h=>zm<|zn ?_
   refine zk<|Zt<|yG 4<|yv h λ _ w h=>zm<|yb h λ _ w h=>zm<|zn<|yg1 3 3 true [42,43,44] 44 h (λ _ T hT h=>?_) λ σ w h=>?_
   · refine yv h λ _ w h=>yv h λ _ w h=>yb h λ _ w h=>zn ?_
     exact zt hT h
   refine yG 2<|yp h λ _ h=>zm<|zn<|yg1 3 8 true [47,48,49] 49 h (λ _ T hT h=>?_) λ σ w h=>?_
   · refine yv h λ _ w h=>yv h λ _ w h=>yb h λ _ w h=>zn ?_
     exact zt hT h
   exact yG 2<|yp h λ _ h=>yc h Ua λ _ w h=>zn<|ZK<|zM<|X8 rfl h
 exact h.elim
def ZfL (a:Vl) (R:RT) (w:Wd):Prop:=
 opN Pg (Y2 a) (Zd R) w λ b w=>
 F0 123 b 5 R w λ c w=>
 opU Pg (storeAt 3 c (.int .i64 0)) (Zd R) w λ w=>
 opN Pg (Y2 a) (Zd R) w λ d w=>
 F0 123 d 6 R w λ e w=>
 opU Pg (storeAt 3 e (.int .i64 0)) (Zd R) w λ w=>
 R (.returned (.tuple #[])) w
theorem ZfM {t0:Vl} {R:RT} {w:Wd} (h:ZfL t0 R w):Calls Pg 222 #[t0] w R:=by
 refine yD func222 ?_
 exact zr<|zm<|zm<|yN h λ _ w h=>yv h λ _ w h=>yu h λ w h=>yN h λ _ w h=>yv h λ _ w h=>yu h λ w h=>zn<|ZG<|ZQ rfl h
def P4 (a b:Vl) (R:RT) (w:Wd):Prop:=
 F0 123 b 6 R w λ c w=>
 L0 3 c R w λ d w=>
 opV Pg (buildSlice 61 1 #[(0,d)]) (Zd R) w λ e w=>
 C0 215 #[a,(.int .i64 0),(.int .i64 1048576),e] R w λ f w=>
 R (.returned (.tuple #[])) w
def ZfN (a c:Vl) (R:RT) (w:Wd):Prop:=
 opV Pg (box 123 c) (Zd R) w λ b w=>
 F0 123 b 5 R w λ d w=>
 L0 3 d R w λ e w=>
 opV Pg (buildSlice 61 1 #[(0,e)]) (Zd R) w λ f w=>
 C0 215 #[a,(.int .i64 0),(.int .i64 255),f] R w λ g w=>
 P4 a b R w
theorem ZfO {t0 t1:Vl} {R:RT} {w:Wd} (h:ZfN t0 t1 R w):Calls Pg 223 #[t0,t1] w R:=by
 refine yD func223 ?_
 refine zs<|zr<|yv h λ _ w h=>zn<|zk<|zs<|zr<|zm<|yv h λ _ w h=>yv h λ _ w h=>yS h λ _ w h=>yc h D4 λ _ w h=>zn<|zk<|zr ?_
 exact zm<|yv h λ _ w h=>yv h λ _ w h=>yS h λ _ w h=>yc h D4 λ _ w h=>zn<|ZG<|ZQ rfl h
def n87 (a:Vl) (R:RT) (w:Wd):Prop:=
 opN Pg (Y2 a) (Zd R) w λ b w=>
 F0 123 b 4 R w λ c w=>
 opU Pg (storeAt 4 c (.bool false)) (Zd R) w λ w=>
 opN Pg (Y2 a) (Zd R) w λ d w=>
 F0 123 d 6 R w λ e w=>
 opU Pg (storeAt 3 e (.int .i64 0)) (Zd R) w λ w=>
 R (.returned (.tuple #[])) w
theorem Zk0 {t0:Vl} {R:RT} {w:Wd} (h:n87 t0 R w):Calls Pg 224 #[t0] w R:=by
 refine yD func224 ?_
 exact zr<|zm<|zm<|yN h λ _ w h=>yv h λ _ w h=>yu h λ w h=>yN h λ _ w h=>yv h λ _ w h=>yu h λ w h=>zn<|ZG<|ZQ rfl h
def n88 (a b:Vl) (R:RT) (w:Wd):Prop:=
 opV Pg (box 123 b) (Zd R) w λ c w=>
 F0 123 c 6 R w λ d w=>
 L0 3 d R w λ e w=>
 opV Pg (buildSlice 61 1 #[(0,e)]) (Zd R) w λ f w=>
 C0 215 #[a,(.int .i64 2),(.int .i64 1048576),f] R w λ g w=>
 R (.returned (.tuple #[])) w
theorem Zk1 {t0 t1:Vl} {R:RT} {w:Wd} (h:n88 t0 t1 R w):Calls Pg 225 #[t0,t1] w R:=by
 refine yD func225 ?_
 exact zs<|zr<|yv h λ _ w h=>zn<|zk<|zr<|zm<|yv h λ _ w h=>yv h λ _ w h=>yS h λ _ w h=>yc h D4 λ _ w h=>zn<|ZG<|ZQ rfl h
def n89 (a:Vl) (R:RT) (w:Wd):Prop:=
 opV Pg (build 120 #[]) (Zd R) w λ b w=>
 opN Pg (Y2 a) (Zd R) w λ c w=>
 F0 123 c 8 R w λ d w=>
 opU Pg (storeAt 9 d (.string { data := #[] })) (Zd R) w λ w=>
 opN Pg (Y2 a) (Zd R) w λ e w=>
 F0 123 e 7 R w λ f w=>
 S0 120 f b R w λ w=>
 R (.returned (.tuple #[])) w
theorem Zk2 {t0:Vl} {R:RT} {w:Wd} (h:n89 t0 R w):Calls Pg 226 #[t0] w R:=by
 refine yD func226 ?_
 exact zr<|zm<|zm<|yB h λ _ w h=>yN h λ _ w h=>yv h λ _ w h=>yu h λ w h=>yN h λ _ w h=>yv h λ _ w h=>yu h λ w h=>zn<|ZG<|ZQ rfl h
def n90 (a c:Vl) (R:RT) (w:Wd):Prop:=
 opV Pg (box 123 c) (Zd R) w λ b w=>
 F0 123 b 8 R w λ d w=>
 L0 9 d R w λ e w=>
 C0 228 #[a,e] R w λ g w=>
 L0 123 b R w λ f w=>
 C0 221 #[a,f] R w λ h w=>
 R (.returned (.tuple #[])) w
theorem Zk3 {t0 t1:Vl} {R:RT} {w:Wd} (h:n90 t0 t1 R w):Calls Pg 227 #[t0,t1] w R:=by
 refine yD func227 ?_
 refine zs<|zr<|yv h λ _ w h=>zn<|zk<|zs<|zr<|zm<|yv h λ _ w h=>yv h λ _ w h=>yc h ZdM λ _ w h=>zn<|zk<|zr<|zm ?_
 exact yv h λ _ w h=>yc h ZdL λ _ w h=>zn<|ZG<|ZQ rfl h
def n78 (a c:Vl) (R:RT) (w:Wd):Prop:=
 opN Pg (Y2 a) (Zd R) w λ d w=>
 F0 201 d 1 R w λ e w=>
 L0 198 e R w λ f w=>
 opV Pg (lookup 198 f c true) (Zd R) w λ b w=>
 E0q b 0 R w λ h w=>
 E0q b 1 R w λ g w=>
 C0 135 #[a,g,(.int .i64 8)] R w λ i w=>
 R (.returned (.tuple #[])) w
theorem ZkQ {t0 t1:Vl} {R:RT} {w:Wd} (h:n78 t0 t1 R w):Calls Pg 228 #[t0,t1] w R:=by
 refine yD func228 ?_
 refine zs<|zr<|zm<|yN h λ _ w h=>yv h λ _ w h=>yv h λ _ w h=>zm<|yv h λ _ w h=>zm<|yv h λ _ w h=>yv h λ _ w h=>zm<|zm<|zn<|zk ?_
 exact zr<|zm<|zm<|yc h Ua λ _ w h=>zn<|ZG<|ZQ rfl h
def n91 (a:Vl) (R:RT) (w:Wd):Prop:=
 opN Pg (Y2 a) (Zd R) w λ b w=>
 F0 123 b 8 R w λ c w=>
 opU Pg (storeAt 9 c (.string { data := #[] })) (Zd R) w λ w=>
 R (.returned (.tuple #[])) w
theorem Zk4 {t0:Vl} {R:RT} {w:Wd} (h:n91 t0 R w):Calls Pg 229 #[t0] w R:=by
 refine yD func229 ?_
 exact zr<|zm<|yN h λ _ w h=>yv h λ _ w h=>yu h λ w h=>zn<|ZG<|ZQ rfl h
def n92 (a b:Vl) (R:RT) (w:Wd):Prop:=
 opV Pg (box 123 b) (Zd R) w λ c w=>
 F0 123 c 8 R w λ d w=>
 L0 9 d R w λ e w=>
 C0 228 #[a,e] R w λ f w=>
 R (.returned (.tuple #[])) w
theorem Zk5 {t0 t1:Vl} {R:RT} {w:Wd} (h:n92 t0 t1 R w):Calls Pg 230 #[t0,t1] w R:=by
 refine yD func230 ?_
 exact zs<|zr<|yv h λ _ w h=>zn<|zk<|zr<|zm<|yv h λ _ w h=>yv h λ _ w h=>yc h ZdM λ _ w h=>zn<|ZG<|ZQ rfl h
def n93 (a:Vl) (R:RT) (w:Wd):Prop:=
 opN Pg (Y2 a) (Zd R) w λ b w=>
 F0 123 b 9 R w λ c w=>
 opU Pg (storeAt 9 c (.string { data := #[] })) (Zd R) w λ w=>
 opN Pg (Y2 a) (Zd R) w λ d w=>
 F0 123 d 11 R w λ e w=>
 opU Pg (storeAt 121 e (Value.slice none 0 0)) (Zd R) w λ w=>
 R (.returned (.tuple #[])) w
theorem Zk6 {t0:Vl} {R:RT} {w:Wd} (h:n93 t0 R w):Calls Pg 231 #[t0] w R:=by
 refine yD func231 ?_
 exact zr<|zm<|zm<|yN h λ _ w h=>yv h λ _ w h=>yu h λ w h=>yN h λ _ w h=>yv h λ _ w h=>yu h λ w h=>zn<|ZG<|ZQ rfl h
def Ds (a b:Vl) (QJ:KW) (R:RT) (w:Wd):Prop:=
 F0 213 a 1 R w λ c w=>
 L0 3 c R w λ d w=>
 B0 .add 3 true d (.int .i64 1) R w λ e w=>
 B0 .add 3 true b (.int .i64 1) R w λ f w=>
 QJ e f w
def Dt (b a c:Vl) (QJ:KW) (R:RT) (w:Wd):Prop:=
 F0 213 a 2 R w λ d w=>
 L0 9 d R w λ e w=>
 C0 228 #[b,e] R w λ f w=>
 Ds a c QJ R w
def Du (b d e f c:Vl) (QJ:KW) (R:RT) (w:Wd):Prop:=
 X0 121 f c R w λ g w=>
 L0 213 g R w λ h w=>
 opV Pg (alloc 213 true (.tuple #[])) (Zd R) w λ a w=>
 S0 213 a h R w λ w=>
 F0 300 d 1 R w λ i w=>
 L0 3 i R w λ j w=>
 F0 213 a 0 R w λ k w=>
 L0 3 k R w λ l w=>
 F0 213 a 1 R w λ m w=>
 L0 3 m R w λ n w=>
 opV Pg (buildSlice 61 2 #[(0,l),(1,n)]) (Zd R) w λ o w=>
 C0 215 #[b,e,j,o] R w λ p w=>
 Dt b a c QJ R w
def Br (d e a:Vl) (R:RT) (w:Wd):Prop:=
 F0 300 a 0 R w λ f w=>
 L0 3 f R w λ g w=>
 F0 123 e 11 R w λ h w=>
 L0 121 h R w λ b w=>
 G0 121 3 b R w λ i w=>
 Kz (λ j c w QJ=>
 B0 .lss 3 false c i R w λ k w=>
 Zs k (
 Du d a j b c QJ R w) (
 R (.returned (.tuple #[])) w)) g (.int .i64 0) w
def Bs (c a f:Vl) (R:RT) (w:Wd):Prop:=
 F0 123 a 11 R w λ g w=>
 L0 121 g R w λ h w=>
 G0 121 3 h R w λ i w=>
 B0 .geq 3 true i (.int .i64 1) R w λ d w=>
 Zo (λ (b:Vl) (w:Wd)=>
 Zy d b (.bool false) λ j=>
 C0 135 #[c,j,(.int .i64 3)] R w λ n w=>
 Br c a f R w) λ e=>
 Zn d true (
 F0 123 a 11 R w λ k w=>
 L0 121 k R w λ l w=>
 G0 121 3 l R w λ m w=>
 B0 .leq 3 true m (.int .i64 40) R w λ b w=>
 e b w) (
 e undef w)
def Bt (b e f c g:Vl) (R:RT) (w:Wd):Prop:=
 Zo (λ (a:Vl) (w:Wd)=>
 Zy c a (.bool false) λ h=>
 C0 135 #[b,h,(.int .i64 8)] R w λ i w=>
 Bs b e f R w) λ d=>
 Zn c true (
 N0 g R w λ a w=>
 d a w) (
 d undef w)
def JK (a b c d:Vl) (R:RT) (w:Wd):Prop:=
 C0 195 #[a] R w λ e w=>
 opV Pg (makeFunc (.func 251) #[] #[b]) (Zd R) w λ f w=>
 C0 250 #[e,f] R w λ g w=>
 Bt a b c d g R w
def Bu (d e:Vl) (a:WPr) (f:KW) (R:RT) (w:Wd):Prop:=
 qV Pg a (lookup 296 d e true) λ b=>
 qV Pg a (extract b 0) λ g=>
 qV Pg a (extract b 1) λ h=>
 opV Pg (alloc 300 true (.tuple #[])) (Zd R) w λ c w=>
 a w∧(
 S0 300 c g R w λ w=>
 a w∧(
 f c h w))
def ym (b d e:Vl) (a:WPr) (f:KW) (R:RT) (w:Wd):Prop:=
 qV Pg a (lookup 296 d e true) λ c=>
 qV Pg a (extract c 0) λ g=>
 qV Pg a (extract c 1) λ h=>
 S0 300 b g R w λ w=>
 a w∧(
 f b h w)
def zo (c d:Vl) (a:WPr) (e:KW) (R:RT) (w:Wd):Prop:=
 (
 C0 247 #[c] R w λ b w=>
 Qk a w λ f w=>
 Bu b d f e R w)∧(
 opV Pg (alloc 300 true (.tuple #[])) (Zd R) w λ g w=>
 a w∧(
 C0 247 #[c] R w λ b w=>
 Qk a w λ h w=>
 ym g b d h e R w))
def xY (b d e:Vl) (a:WPr) (f:KW) (R:RT) (w:Wd):Prop:=
 qV Pg a (lookup 296 d e true) λ c=>
 qV Pg a (extract c 0) λ g=>
 qV Pg a (extract c 1) λ h=>
 S0 300 b g R w λ w=>
 a w∧(
 f b h w)
def zp (a b c:Vl) (d:WPr) (e:KW) (R:RT) (w:Wd):Prop:=
 C0 195 #[a] R w λ f w=>
 Qk d w λ g w=>
 C0 247 #[f] R w λ h w=>
 Qk g w λ i w=>
 xY b h c i e R w
def zq (b d:Vl) (a:WPr) (R:RT) (w:Wd):Prop:=
 J0 123 d 9 a λ g=>
 I0 9 g a λ e=>
 Zo (λ (c:Vl) (h:Vl) (w:Wd)=>
 JK b d c h R w) λ f=>
 (
 C0 195 #[b] R w λ i w=>
 Qk a w λ j w=>
 zo i e j f R w)∧(
 opV Pg (alloc 300 true (.tuple #[])) (Zd R) w λ c w=>
 a w∧(
 zp b c e a f R w))
def n73 (a b:Vl) (R:RT) (w:Wd):Prop:=
 opV Pg (box 123 b) (Zd R) w λ c w=>
 Yg w λ d w=>
 zq a c d R w
set_option maxHeartbeats 40000000 in
theorem ZkL {t0 t1:Vl} {R:RT} {w:Wd} (h:n73 t0 t1 R w):Calls Pg 232 #[t0,t1] w R:=by
 refine yD func232 ?_
 refine zs<|zr<|yv h λ _ w h=>zn<|zk<|zs<|yh [4,5,10,11,12,13,14,15,16,17,18] h λ C hC h=>yw 0 hC ?_
 refine ye 3 hC h λ _ h=>?_
 refine ye 4 hC h λ _ h=>?_
 refine QH h (λ K2 hK h=>?_)
 refine Wo [4,5,10,12,13,16,17,18] (λ ρ w=>K2 (ρ 4) (ρ 5) w) (λ T hT=>?_) (λ σ w h=>?_)
 · obtain ⟨h0,h1⟩:=h
   refine Xm 1 9 rfl rfl (by kernel_rfl) (λ _ _=>rfl) (λ _ _=>rfl) ?_ ?_
   · have h:=h0
     refine yc h Nu λ _ w h=>zn ?_
     obtain ⟨C6,hs,hC,h⟩:=h
     refine ⟨C6,hs,hC,?_⟩
     obtain ⟨h0,h1⟩:=h
     refine Xm 2 9 rfl rfl (by kernel_rfl) (λ _ _=>rfl) (λ _ _=>rfl) ?_ ?_
     · have h:=h0
       refine yc h Zaa λ _ w h=>zn ?_
       obtain ⟨C7,hs,hC,h⟩:=h
       refine ⟨C7,hs,hC,?_⟩
       refine ye 5 hC h λ _ h=>?_
       refine yw 6 hC ?_
       refine ye 7 hC h λ _ h=>?_
       refine ye 8 hC h λ _ h=>?_
       refine yo 9 ?_
       refine yv h λ _ w h=>zn ?_
       obtain ⟨hC,h⟩:=h
       refine ⟨hC,?_⟩
       refine yo 10 ?_
       refine yu h λ w h=>zn ?_
       obtain ⟨hC,h⟩:=h
       refine ⟨hC,?_⟩
       refine yw 11 hC ?_
       refine yz ?_
       exact zt hT h
     have h:=h1
     refine yv h λ _ w h=>zn ?_
     obtain ⟨hC,h⟩:=h
     refine ⟨_,λ _ h=>h,hC,?_⟩
     refine yr 2 ?_
     refine yc h Zaa λ _ w h=>zn ?_
     obtain ⟨C8,hs,hC,h⟩:=h
     refine ⟨C8,hs,hC,?_⟩
     refine ye 5 hC h λ _ h=>?_
     refine yw 6 hC ?_
     refine ye 7 hC h λ _ h=>?_
     refine ye 8 hC h λ _ h=>?_
     refine yo 10 ?_
     refine yu h λ w h=>zn ?_
     obtain ⟨hC,h⟩:=h
     refine ⟨hC,?_⟩
     refine yw 11 hC ?_
     refine yz ?_
     exact zt hT h
   have h:=h1
   refine yv h λ _ w h=>zn ?_
   obtain ⟨hC,h⟩:=h
   refine ⟨_,λ _ h=>h,hC,?_⟩
   refine yr 1 ?_
   refine yc h Nu λ _ w h=>zn ?_
   obtain ⟨C9,hs,hC,h⟩:=h
   refine ⟨C9,hs,hC,?_⟩
   refine yr 2 ?_
   refine yc h Zaa λ _ w h=>zn ?_
   obtain ⟨C10,hs,hC,h⟩:=h
   refine ⟨C10,hs,hC,?_⟩
   refine ye 5 hC h λ _ h=>?_
   refine yw 6 hC ?_
   refine ye 7 hC h λ _ h=>?_
   refine ye 8 hC h λ _ h=>?_
   refine yo 10 ?_
   refine yu h λ w h=>zn ?_
   obtain ⟨hC,h⟩:=h
   refine ⟨hC,?_⟩
   refine yw 11 hC ?_
   refine yz ?_
   exact zt hT h
 subst hK
 refine zk<|zs<|zr<|zm<|yc h Nu λ _ w h=>yF h λ _ w h=>yc h Zjx λ _ w h=>zm<|zn<|zk<|zs<|Zt<|yG 3<|zm<|zm ?_
 refine zm<|zn<|yg1 2 2 true [26,27] 27 h (λ _ T hT h=>?_) λ σ w h=>?_
 · refine zm<|yv h λ _ w h=>zn ?_
   exact zt hT h
 refine yG 2<|yp h λ _ h=>yc h Ua λ _ w h=>zn<|ZK<|zk<|zs<|Zt<|yG 6<|zm<|yv h λ _ w h=>yv h λ _ w h=>yx h λ _ w h=>yb h λ _ w h=>zm ?_
 refine zn<|yg1 4 5 true [36,37,38,39] 39 h (λ _ T hT h=>?_) λ σ w h=>?_
 · refine yv h λ _ w h=>yv h λ _ w h=>yx h λ _ w h=>yb h λ _ w h=>zn ?_
   exact zt hT h
 refine yG 2<|yp h λ _ h=>yc h Ua λ _ w h=>zn<|ZK<|zk<|zs<|zr<|yv h λ _ w h=>yv h λ _ w h=>zm<|zn<|zk<|zs<|zr ?_
 refine yv h λ _ w h=>yv h λ _ w h=>yx h λ _ w h=>zm<|zn<|zk<|Zl<|yl2 [7,9,47,48,49,50,51,52,53,54,55,56,57,58,59,60,61,62,63,64,65,66,67,68] 7 47 h λ σ w next h=>zs<|zr<|yb h λ _ w h=>zn<|zk<|zs<|yC h (λ h=>?_) λ h=>?_
 · refine Zj<|zk<|zs<|Zl<|zs<|zr<|yv h λ _ w h=>yv h λ _ w h=>yv h λ _ w h=>yu h λ w h=>zn<|zk<|zs<|zr<|zm ?_
   refine zm<|yv h λ _ w h=>yv h λ _ w h=>yv h λ _ w h=>yv h λ _ w h=>yv h λ _ w h=>yv h λ _ w h=>yS h λ _ w h=>yc h D4 λ _ w h=>zn<|zk<|zs<|zr<|zm<|yv h λ _ w h=>?_
   refine yv h λ _ w h=>yc h ZdM λ _ w h=>zn<|zk<|zr<|yv h λ _ w h=>yv h λ _ w h=>yb h λ _ w h=>zm<|zn<|Zf<|zk<|zr<|yb h λ _ w h=>zm ?_
   exact zn<|zk<|⟨rfl,h⟩
 exact ZM<|Ze<|Ze<|Zu<|ZG<|ZQ rfl h
abbrev Vt (a f c:Int):Vl := .agg #[.int .i64 a,.int .i64 f,.int .i64 c]
def XG (a f c:Int):PanicEntry:={ v := .iface 131 (Vt a f c),recovered:=false }
def Qi (w:Wd) (a f c:Int):Ending→Wd→Prop:=λ e w'=>Ext w w'∧(c=0∧e = .returned (.tuple #[])∨c≠0∧e = .panicked [XG a f c])
theorem ZR {f:FuncId} {args:AVl} {QP:PEn} {w:Wd} {k:KV} {a fl c:Int} (h:Calls Pg f args w (Qi w a fl c)) (hk:∀ w',Ext w w'→c=0→k (.tuple #[]) w') (hp:∀ w',Ext w w'→c≠0→QP [XG a fl c] w'):ZV Pg f args QP w k:=
 Uf h (λ v w' h=>by rcases h with ⟨e,⟨h1,h2⟩ | ⟨_,h2⟩⟩<;>cases h2;exact hk w' e h1) (λ ch w' h=>by rcases h with ⟨e,⟨_,h2⟩ | ⟨h1,h2⟩⟩<;>cases h2;exact hp w' e h1) (λ w' h=>by rcases h with ⟨_,⟨_,h2⟩ | ⟨_,h2⟩⟩<;>cases h2)
theorem Xp {w w':Wd} {a f c:Int} (e:Ext w w') (h:c=0):Qi w a f c (.returned (.tuple #[])) w':=⟨e,.inl ⟨h,rfl⟩⟩
theorem Ye {w w':Wd} {a f c c':Int} (e:Ext w w') (h:c=c') (h0:c'≠0):Zd (Qi w a f c) [XG a f c'] w':=⟨e,.inr ⟨by rw [h];exact h0,by rw [h]⟩⟩
def orC (a b:Int):Int:=if a=0 then b else a
theorem Xe (b:Int):orC 0 b=b:=rfl
theorem Qz {a b:Int} (h:a≠0):orC a b=a:=by unfold orC;rw [if_neg h]
def Yr (b:Bool) (c:Int):Int:=if b then 0 else c
structure Chk (w:Wd) (cb md ms:Nat) (Zr:List (BAr×Vl)) (ZC:List (BAr×Vl)) (at_ fld:Int) (fs:List Zq):Prop where
 obj:∃ dn mv ds mn fv,w.heap[cb]?=some (.cells #[.string dn,mv,.string ds,.map (some md),.map (some ms),.int .i64 at_,.int .i64 fld,.string mn,fv] 201 (0,0))∧YR w fv fs
 mdeps:Y7 w md Zr
 mstrs:Y7 w ms ZC
 dint:∀ k v,Yw Zr k=some v→∃ n,v = .int .i64 n
 sbool:∀ k v,Yw ZC k=some v→∃ b,v = .bool b
def Ig (ZC:List (BAr×Vl)) (s:BAr):Bool:=match Yw ZC s with
 | some (.bool b)=>b
 | _=>false
theorem Chk.strV {w:Wd} {cb md ms:Nat} {Zr ZC:List (BAr×Vl)} {at_ fld:Int} {fs:List Zq} (h:Chk w cb md ms Zr ZC at_ fld fs) (s:BAr):(Yw ZC s).getD (.bool false) = .bool (Ig ZC s):=by
 unfold Ig
 cases hl:Yw ZC s with
 | none=>rfl
 | some v=>obtain ⟨b,rfl⟩:=h.sbool s v hl;rfl
theorem Chk.ext {w w':Wd} {cb md ms:Nat} {Zr ZC:List (BAr×Vl)} {at_ fld:Int} {fs:List Zq} (h:Chk w cb md ms Zr ZC at_ fld fs) (e:Ext w w'):Chk w' cb md ms Zr ZC at_ fld fs:=by
 obtain ⟨⟨dn,mv,ds,mn,fv,h1,h2⟩,h3,h4,h5,h6⟩:=h
 exact ⟨⟨dn,mv,ds,mn,fv,e.obj h1,h2.ext e⟩,h3.ext e,h4.ext e,h5,h6⟩
section
variable {w0:Wd} {cb md ms:Nat} {Zr ZC:List (BAr×Vl)} {at_ fld:Int} {fs:List Zq}
theorem YK (h:Chk w0 cb md ms Zr ZC at_ fld fs) (b:Bool) (c:Int) (hc:c≠0):Calls Pg 135 #[.pointer (some ⟨cb,0,none⟩),.bool b,.int .i64 c] w0 (Qi w0 at_ fld (Yr b c)):=by
 obtain ⟨⟨dn,mv,ds,mn,fv,h1,h2⟩,h3,h4,h5,h6⟩:=h
 refine ZkO ?_;unfold n76
 cases b with
 | true=>
  simp (disch:=try exact DI) only [↓PR,QR,simprocAttr,↓MT]
  exact Xp (Ext.refl _) rfl
 | false=>
  simp (disch:=try exact DI) only [↓PR,QR,simprocAttr,↓MT]
  refine ZE ?_
  simp (disch:=try exact DI) only [↓PR,QR,simprocAttr,↓MT,(Za h1).1]
  rw [HO]
  exact Ye (Ext.refl _).drew rfl hc
theorem WH (h:Chk w0 cb md ms Zr ZC at_ fld fs) (i:Nat) (hi:fld=i) (Yq:i < fs.length):Ret Pg 195 #[.pointer (some ⟨cb,0,none⟩)] w0 λ r w'=>YR w' r (fs.take i)∧Ext w0 w':=by
 obtain ⟨⟨dn,mv,ds,mn,fv,h1,h2⟩,h3,h4,h5,h6⟩:=h
 obtain ⟨A,c,rfl,hlc,hcm,hlm,Y1⟩:=Zc.open h2
 obtain ⟨x,hx⟩:=getElem?_lt Yq
 obtain ⟨b,o,_,rfl,_⟩:=Y1 i x hx
 subst hi
 refine ZkJ (R:=ZI _) ?_;unfold n71
 refine ZE ?_
 simp (disch:=try exact DI) only [↓PR,QR,simprocAttr,↓Zdc,(Za h1).1]
 rw [Ym λ QP w' k=>VZ underlying72 Ve b o fs.length c .i64 i (by omega)]
 simp (disch:=try exact DI) only [↓PR,QR,simprocAttr]
 refine ⟨?_,ee⟩
 have Y8:(fs.take i).length=i:=by rw [List.length_take];omega
 refine ⟨_,c,by rw [Y8],by rw [Y8];omega,hcm,λ _=>⟨b,o,rfl,λ k y hy=>?_⟩⟩
 rw [List.getElem?_take] at hy
 split at hy
 · obtain ⟨b',o',cs,hA,hl,hA2,hE⟩:=Y1 k y hy
   injection hA with hA
   injection hA with h5 h6
   subst h5 h6
   have e:Ext w0 (drew w0):=(Ext.refl w0).drew
   exact ⟨cs,hl,hA2.ext e,xx _ _ _ _ e hE⟩
 · cases hy
theorem qf (h:Chk w0 cb md ms Zr ZC at_ fld fs) (s:BAr):Calls Pg 228 #[.pointer (some ⟨cb,0,none⟩),.string s] w0 (Qi w0 at_ fld (Yr (Yw Zr s).isSome 8)):=by
 have h':=h
 obtain ⟨⟨dn,mv,ds,mn,fv,h1,h2⟩,h3,h4,h5,h6⟩:=h
 refine ZkQ ?_;unfold n78
 simp (disch:=try exact DI) only [↓PR,QR,simprocAttr,joinK_eq,(Za h1).1]
 rw [VW underlying198 underlying9 ty3 h3]
 simp (disch:=try exact DI) only [↓PR,QR,simprocAttr]
 refine ZR (YK h' _ 8 (by decide)) (λ w' e h0=>?_) (λ w' e h0=>?_)
 · exact Xp e h0
 · exact Ye e rfl h0
def YC (high:Int):Int→List Int→Int
 | _,[]=>0
 | low,n::l=>orC (Yr (decide (low≤n)&&decide (n≤high)) 7) (YC high n l)
def VA (w:Wd) (v:Vl) (l:List Int):Prop:=Zc w 1 ZdE v l
theorem Db {w:Wd} {p:Nat} (hp:p=w.heap.size) (a:Int) (T:TypeId):VA (w.alloc (.cells #[.int .i64 a] T)) (.slice (some ⟨p,0,none⟩) 1 1) [a]:=by
 subst hp;exact Zc.new1 (E:=ZdE) (λ n:Int => .int .i64 n) (λ _ _=>rfl) w [a] T (by simp)
theorem PJ {w:Wd} {p:Nat} (hp:p=w.heap.size) (a b:Int) (T:TypeId):VA (w.alloc (.cells #[.int .i64 a,.int .i64 b] T)) (.slice (some ⟨p,0,none⟩) 2 2) [a,b]:=by
 subst hp;exact Zc.new1 (E:=ZdE) (λ n:Int => .int .i64 n) (λ _ _=>rfl) w [a,b] T (by simp)
theorem Qn (h:Chk w0 cb md ms Zr ZC at_ fld fs) (low high:Int) (v:Vl) (l:List Int) (hs:VA w0 v l):Calls Pg 215 #[.pointer (some ⟨cb,0,none⟩),.int .i64 low,.int .i64 high,v] w0 (Qi w0 at_ fld (YC high low l)):=by
 obtain ⟨A,c,rfl,hlc,hcm,hlm,Y1⟩:=Zc.open hs
 refine ZkU ?_;unfold n80
 simp (disch:=try exact DI) only [↓PR,QR,simprocAttr]
 refine Wh (λ a0 a1 w=>∃ (k:Nat) (n:Int),a0 = .int .i64 n∧a1 = .int .i64 (k:Int)∧k≤l.length∧Ext w0 w∧YC high n (l.drop k)=YC high low l) (λ a0 a1 _=>l.length - (intOf a1).toNat) ⟨0,low,rfl,rfl,Nat.zero_le _,ee,rfl⟩ ?_
 rintro _ _ w ⟨k,n,rfl,rfl,hk,e,hI⟩
 have se:=e.size
 rcases ZT hk with ⟨x,hx,hd,Yq,ZY⟩ | ⟨hk,hd,ZY⟩
 · obtain ⟨b,o,cs,rfl,hl,hA,rfl⟩:=Y1 k x hx
   rw [hd] at hI
   simp only [YC] at hI
   simp (disch:=try exact DI) only [↓PR,QR,simprocAttr,↓MV,↓MW,ZY,hA.c1]
   refine ZR (YK (h.ext e) _ 7 (by decide)) (λ w' e1 h0=>?_) (λ w' e1 h0=>?_)
   · rw [h0,Xe] at hI
     simp (disch:=try exact DI) only [↓PR,QR,simprocAttr,↓MV,↓MW]
     exact ⟨⟨k+1,_,rfl,rfl,by omega,ee,hI⟩,Ya (kd := .i64) Yq⟩
   · rw [Qz h0] at hI
     exact Ye (e.trans e1) hI.symm h0
 · subst hk
   simp (disch:=try exact DI) only [↓PR,QR,simprocAttr,↓MV,↓MW,ZY]
   rw [hd] at hI
   exact Xp e hI.symm
def UM (f:Zq):Bool:=decide (1≤f.bits)&&decide (f.bits≤32)&&(!f.little||(decide (8 < f.bits)&&(f.bits.tmod 8 == 0)))
theorem FI (h:Chk w0 cb md ms Zr ZC at_ fld fs) (v:Vl) (f:Zq) (hf:Z0 w0 v f):Calls Pg 214 #[.pointer (some ⟨cb,0,none⟩),v] w0 (Qi w0 at_ fld (Yr (UM f) 6)):=by
 obtain ⟨tv,cv,rfl,hT,hC,ht1,hc1⟩:=hf.op
 refine ZkK ?_;unfold n72
 simp (disch:=try exact DI) only [↓PR,QR,simprocAttr,↓Sv,↓Sx,↓Sy,↓Sz]
 have e0:Ext w0 (w0.alloc (Obj.cells (Zp f tv cv).toArray 123)):=ee
 have fin:∀ b,b=UM f→ZV Pg 135 #[.pointer (some ⟨cb,0,none⟩),.bool b,.int .i64 6] (Zd (Qi w0 at_ fld (Yr (UM f) 6))) (w0.alloc (Obj.cells (Zp f tv cv).toArray 123)) (λ _ w=>Qi w0 at_ fld (Yr (UM f) 6) (.returned (.tuple #[])) w):=by
  rintro b rfl
  exact ZR (YK (h.ext e0) _ 6 (by decide)) (λ w' e1 h0=>Xp (e0.trans e1) h0) (λ w' e1 h0=>Ye (e0.trans e1) rfl h0)
 unfold UM at fin ⊢
 generalize decide (1≤f.bits)=b1 at fin ⊢
 generalize decide (f.bits≤32)=b2 at fin ⊢
 generalize f.little=b3 at fin ⊢
 generalize decide (8 < f.bits)=b4 at fin ⊢
 generalize (f.bits.tmod 8 == 0)=b5 at fin ⊢
 cases b1<;>cases b2<;>cases b3<;>cases b4<;>cases b5<;>simp (disch:=try exact DI) only [↓PR,QR,simprocAttr,↓Sv,↓Sx,↓Sy,↓Sz]<;>exact fin _ rfl
def VP (rp:List (BAr×Int×Int)):List Xa→Int
 | []=>0
 | t::ts=>orC (Yr (Wg rp t.field).isSome 8) (VP rp ts)
def Zfw (base:Int) (ts:List Xa) (rp:List (BAr×Int×Int)):Bool:=(WL base ts rp == 0)&&decide (0≤Gh base ts rp)&&decide (Gg base ts rp≤1048576)
def UB (rp:List (BAr×Int×Int)) (f:Zq):Int:=orC (Yr (J9 f.base f.terms) 9) (orC (VP rp f.terms) (Yr (Zfw f.base f.terms rp) 9))
theorem ql (h:Chk w0 cb md ms Zr ZC at_ fld fs) (i:Nat) (hi:fld=i) (Yq:i < fs.length) (v:Vl) (f:Zq) (hf:Z0 w0 v f) :
 Calls Pg 221 #[.pointer (some ⟨cb,0,none⟩),v] w0 (Qi w0 at_ fld (UB (X3 (fs.take i)) f)):=by
 obtain ⟨tv,cv,rfl,hT,hC,ht1,hc1⟩:=hf.op
 refine ZkR ?_;unfold n79
 simp (disch:=try exact DI) only [↓PR,QR,simprocAttr,↓JL,↓JM,↓JN,↓KA,↓KC,↓JO,↓JP,↓JQ]
 generalize hW:World.alloc (World.alloc w0 _) _=W
 have e0:Ext w0 W:=by rw [← hW];exact ee
 have o2:W.heap[w0.heap.size]?=some (.cells #[.pointer (some ⟨cb,0,none⟩)] 167 (0,0)):=by rw [← hW];simp (disch:=try exact DI) only [↓PR,QR,simprocAttr]
 have o3:W.heap[w0.heap.size+1]?=some (.cells (Zp f tv cv).toArray 123 (0,0)):=by rw [← hW];simp (disch:=try exact DI) only [↓PR,QR,simprocAttr]
 clear hW
 simp only [World.size_alloc]
 refine ZE ?_
 simp (disch:=try exact DI) only [↓PR,QR,simprocAttr,↓JL,↓JM,↓JN,↓KA,↓KC,↓JO,↓JP,↓JQ,(Za o2).1,(Za o3).1]
 refine zcr (xj _ _ f.base f.terms ⟨tv,rfl,ZZ.ext hT ee⟩) λ w1 e1=>?_
 refine ⟨e1,?_⟩
 unfold UB
 refine ZR (YK (h.ext (e0.wdrew.trans e1)) _ 9 (by decide)) (λ w2 e2 h0=>?_) (λ w2 e2 h0=>?_)
 · rw [h0,Xe]
   refine ⟨e1.trans e2,?_⟩
   have e3:Ext W w2:=(Ext.refl W).wdrew.trans (e1.trans e2)
   have hv:J9 f.base f.terms=true:=by
    cases hb:J9 f.base f.terms with
    | true=>rfl
    | false=>rw [hb] at h0;exact absurd h0 (by decide)
   have ht:f.terms.length≤1048576:=by
    have hs:=hv
    unfold J9 at hs
    simp only [Bool.and_eq_true,decide_eq_true_eq] at hs
    omega
   simp (disch:=try exact DI) only [↓PR,QR,simprocAttr,↓JL,↓JM,↓JN,↓KA,↓KC,↓JO,↓JP,↓JQ,(Za (e3.obj o2)).1]
   refine Zk (WH (h.ext (e0.trans e3)) i hi Yq) ?_
   rintro bv w4 ⟨hB,e4⟩
   simp (disch:=try exact DI) only [↓PR,QR,simprocAttr,↓JL,↓JM,↓JN,↓KA,↓KC,↓JO,↓JP,↓JQ]
   refine Zk (Kt _ _ _ hB) ?_
   rintro _ w5 ⟨m,rfl,hmlo,hM,e5⟩
   rw [Ul] at hM
   have e6:Ext W w5:=e3.trans (e4.trans e5)
   have l3:w0.heap.size+1 < w5.heap.size:=(Array.getElem?_eq_some_iff.1 (e6.obj o3)).1
   simp (disch:=try exact DI) only [↓PR,QR,simprocAttr,↓JL,↓JM,↓JN,↓KA,↓KC,↓JO,↓JP,↓JQ,(Za (e6.obj o3)).1]
   have e6':Ext w0 w5:=e0.trans e6
   refine Zk (CJ _ _ f.base f.terms ⟨tv,rfl,ZZ.ext hT ee⟩ ht) ?_
   rintro _ w7 ⟨pb,tv2,rfl,hTA,_,e7⟩
   rw [hv,if_pos rfl] at hTA
   have s7:=e7.size
   simp only [World.size_alloc] at s7
   have e8:Ext W w7:=ee
   have p4:w7.heap[w5.heap.size]?=some (.cells #[.map (some m)] 296 (0,0)):=by simp (disch:=try exact DI) only [↓PR,QR,simprocAttr,e7.heapQ]
   have hM7:Y7 w7 m (RP (X3 (fs.take i))):=hM.ext (((Ext.refl _).alloc _).trans e7)
   have h7:Chk w7 cb md ms Zr ZC at_ fld fs:=h.ext (e0.trans e8)
   have o2':=e8.obj o2
   have o3':=e8.obj o3
   have e07:Ext w0 w7:=e0.trans e8
   clear e7 e6 e5 e4 e3 e2 e1 hM hB hmlo s7 l3 o2 o3 e8 e6'
   unfold KC
   have hLI:∀ k,ZP w7.heap.size (λ w=>Ext w7 w∧VP (X3 (fs.take i)) (f.terms.drop k)=VP (X3 (fs.take i)) f.terms):=λ k=>ZP.and (ZP.from (Nat.le_refl _)) (ZP.const _ _)
   refine ⟨_,_,f.terms.length,Km f.terms,λ w=>QA w pb tv2 f.terms,λ k w=>Ext w7 w∧VP (X3 (fs.take i)) (f.terms.drop k)=VP (X3 (fs.take i)) f.terms,λ _ _=>False,
    λ ch w=>Ext w7 w∧∃ c,c≠0∧ch=[XG at_ fld c]∧VP (X3 (fs.take i)) f.terms=c,rfl,Zff,CK pb tv2 f.terms,⟨Ext.refl _,rfl⟩,λ k w h=>hTA.ext h.1,hLI,λ _=>ZP.const _ _,?_,?_,?_,?_⟩
   · intro rec j w3 hj hI3 hrec hready
     refine ⟨hready,λ w4 hbz=>?_⟩
     have hrec4:=hrec.busied hbz
     obtain ⟨e4,hF⟩:=(hLI j).busied hbz (Nat.le_succ _) hI3
     clear hI3 hrec hready hbz
     obtain ⟨t,hx⟩:=getElem?_lt hj
     rw [show Km f.terms j = .string t.field by unfold Km;rw [hx]]
     have hd:f.terms.drop j=t::f.terms.drop (j+1):=by
      rw [List.drop_eq_getElem_cons hj]
      congr 1
      exact (List.getElem?_eq_some_iff.1 hx).2
     rw [hd] at hF
     simp only [VP] at hF
     have o2:=e4.obj o2'
     have l2:w0.heap.size < w4.heap.size:=(Array.getElem?_eq_some_iff.1 o2).1
     simp (disch:=try exact DI) only [↓PR,QR,simprocAttr,↓JL,↓JM,↓JN,↓KA,↓KC,↓JO,↓JP,↓JQ,(Za (e4.obj p4)).1]
     rw [VW underlying296 underlying9 Uu (hM7.ext e4),Vy]
     have fin:∀ w5 b,Ext w4 w5→b=(Wg (X3 (fs.take i)) t.field).isSome→ZV Pg 135 #[.pointer (some ⟨cb,0,none⟩),.bool b,.int .i64 8] (λ ch w''=>Xg rec w7.heap.size w''∧Ext w7 w''∧∃ c,c≠0∧ch=[XG at_ fld c]∧VP (X3 (fs.take i)) f.terms=c) w5 (λ _ w''=>Xg rec w7.heap.size w''∧Ext w7 w''∧VP (X3 (fs.take i)) (f.terms.drop (j+1))=VP (X3 (fs.take i)) f.terms):=by
      rintro w5 b e5 rfl
      refine ZR (YK (h7.ext (e4.trans e5)) _ 8 (by decide)) (λ w6 e6 h0=>?_) (λ w6 e6 h0=>?_)
      · rw [h0,Xe] at hF
        exact ⟨hrec4.ext (e5.trans e6),e4.trans (e5.trans e6),hF⟩
      · rw [Qz h0] at hF
        exact ⟨hrec4.ext (e5.trans e6),e4.trans (e5.trans e6),_,h0,rfl,hF.symm⟩
     cases hl:Wg (X3 (fs.take i)) t.field with
     | none=>
      rw [hl] at fin
      simp (disch:=try exact DI) only [↓PR,QR,simprocAttr,↓JL,↓JM,↓JN,↓KA,↓KC,↓JO,↓JP,↓JQ,(Za o2).1,Option.map_none]
      exact fin _ _ ee rfl
     | some q=>
      obtain ⟨lo,hi⟩:=q
      rw [hl] at fin
      simp (disch:=try exact DI) only [↓PR,QR,simprocAttr,↓JL,↓JM,↓JN,↓KA,↓KC,↓JO,↓JP,↓JQ,(Za o2).1,Yz]
      exact fin _ _ ee rfl
   · rintro w3 ⟨e3,hF⟩ hmk
     rw [List.drop_length] at hF
     have l7:w7.heap.size < w3.heap.size:=(Array.getElem?_eq_some_iff.1 hmk).1
     rw [← hF]
     show KA _ _ _ _ (Qi w0 at_ fld (orC 0 _)) w3
     rw [Xe]
     simp (disch:=try exact DI) only [↓PR,QR,simprocAttr,↓JL,↓JM,↓JN,↓KA,↓KC,↓JO,↓JP,↓JQ,(Za (e3.obj o3')).1,(Za (e3.obj p4)).1]
     refine zcr (DT _ _ f.base f.terms m _ ⟨tv,rfl,ZZ.ext hT (e07.trans e3)⟩ ht (hM7.ext e3)) λ w4 e4=>?_
     have s4:=e4.size
     have o2:=(e3.trans e4).obj o2'
     have l2:w0.heap.size < w4.heap.size:=(Array.getElem?_eq_some_iff.1 o2).1
     simp (disch:=try exact DI) only [↓PR,QR,simprocAttr,↓JL,↓JM,↓JN,↓KA,↓KC,↓JO,↓JP,↓JQ,(Za o2).1,Yz]
     have e5:Ext w3 (w4.alloc (Obj.cells #[.int .i64 (Gh f.base f.terms (X3 (fs.take i))),.int .i64 (Gg f.base f.terms (X3 (fs.take i)))] 300)):=e4.alloc _
     have s07:=e07.size
     refine ZR (YK (h7.ext (e3.trans e5)) (Zfw f.base f.terms (X3 (fs.take i))) 9 (by decide)) (λ w6 e6 h0=>?_) (λ w6 e6 h0=>?_)
     · refine Wm (hmk.ext (e5.trans e6)) ?_
       rw [Wz]
       exact Xp (((e07.trans e3).trans (e5.trans e6)).putObj (by omega) _) h0
     · refine qd (hmk.ext (e5.trans e6)) ?_
       rw [V0]
       exact Ye (((e07.trans e3).trans (e5.trans e6)).putObj (by omega) _) rfl h0
   · rintro c w3 h
     exact h.elim
   · rintro ch w3 ⟨e3,c,hc,rfl,hF⟩ hmk
     have l7:w7.heap.size < w3.heap.size:=(Array.getElem?_eq_some_iff.1 hmk).1
     rw [hF,Qz hc]
     refine qd hmk ?_
     rw [V0]
     exact Ye (by have:=e07.size;exact ee) rfl hc
 · rw [Qz h0]
   exact Ye (e0.wdrew.trans (e1.trans e2)) rfl h0
end
theorem U8 (w0:Wd) (v:Vl) (l:List Zq) (g:FuncId) (caps:AVl) (p:Zq→Bool) (hs:YR w0 v l) (hg:Callable Pg g) (hc:UK w0 Z0 g caps p l) :
 Ret Pg 250 #[v,.func (.func g) #[] caps] w0 λ r w'=>r = .bool (l.any p)∧Ext w0 w':=by
 refine ZgA (R:=ZI _) ?_;unfold Zgz
 refine Zk (Vm _ _ l g caps p hs hg hc) ?_
 rintro r w' ⟨rfl,e⟩
 simp (disch:=try exact DI) only [↓PR,QR,simprocAttr,joinK_eq]
 exact ⟨by rw [Vu],e⟩
def Fp (tag:BAr) (o:Zq):Bool:=o.kind == 9&&decide (o.tag=tag)
theorem FJ (w0:Wd) (v:Vl) (o f:Zq) (pb:Nat) (tv cv:Vl) (hv:Z0 w0 v o) (hp:w0.heap[pb]?=some (.cells (Zp f tv cv).toArray 123 (0,0))) :
 Ret Pg 251 #[v,.pointer (some ⟨pb,0,none⟩)] w0 λ r w'=>r = .bool (Fp f.tag o)∧Ext w0 w':=by
 obtain ⟨tv',cv',rfl,hT,hC,ht1,hc1⟩:=hv.op
 have Yq:=(Array.getElem?_eq_some_iff.1 hp).1
 refine ZkM (R:=ZI _) ?_;unfold n74
 simp (disch:=try exact DI) only [↓PR,QR,simprocAttr,joinK_eq,(Za hp).1]
 exact ⟨by first | trivial | rfl,ee⟩
def Kc (hi:Int) (Zr:List (BAr×Vl)):Int→List zF→Int
 | _,[]=>0
 | low,x::xs=>orC (YC hi low [x.low,x.high]) (orC (Yr (Yw Zr x.of).isSome 8) (Kc hi Zr (IntKind.i64.wrap (x.high+1)) xs))
def Vh (bef:List Zq) (Zr:List (BAr×Vl)) (f:Zq):Int:=
 orC (Yr ((Wg (X3 bef) f.tag).isSome&&!bef.any (Fp f.tag)) 8) (orC (Yr (decide (1≤(f.cases.length:Int))&&decide ((f.cases.length:Int)≤40)) 3) (Kc (((Wg (X3 bef) f.tag).getD (0,0)).2) Zr (((Wg (X3 bef) f.tag).getD (0,0)).1) f.cases))
section
variable {w0:Wd} {cb md ms:Nat} {Zr ZC:List (BAr×Vl)} {at_ fld:Int} {fs:List Zq}
theorem IC {a0:Wd} (e00:Ext a0 w0) (h:Chk w0 cb md ms Zr ZC at_ fld fs) (pf p4:Nat) (f:Zq) (tv cv:Vl) (lo hi:Int) (hC:Yl w0 cv f.cases) (o3:w0.heap[pf]?=some (.cells (Zp f tv cv).toArray 123 (0,0))) (o4:w0.heap[p4]?=some (.cells #[.int .i64 lo,.int .i64 hi] 300 (0,0))) :
 Br (.pointer (some ⟨cb,0,none⟩)) (.pointer (some ⟨pf,0,none⟩)) (.pointer (some ⟨p4,0,none⟩)) (Qi a0 at_ fld (Kc hi Zr lo f.cases)) w0:=by
 obtain ⟨A,c,rfl,hlc,hcm,hlm,Y1⟩:=Zc.open hC
 simp (disch:=try exact DI) only [↓PR,QR,simprocAttr,↓Ds,↓Dt,↓Du,↓Br,↓Bs,↓Bt,↓JK,↓Bu,↓ym,↓zo,↓xY,↓zp,↓zq,(Za o3).1,(Za o4).1]
 refine Wh (λ a0 a1 w=>∃ (k:Nat) (n:Int),a0 = .int .i64 n∧a1 = .int .i64 (k:Int)∧k≤f.cases.length∧Ext w0 w∧Kc hi Zr n (f.cases.drop k)=Kc hi Zr lo f.cases) (λ a0 a1 _=>f.cases.length - (intOf a1).toNat) ⟨0,lo,rfl,rfl,Nat.zero_le _,ee,rfl⟩ ?_
 rintro _ _ w ⟨k,n,rfl,rfl,hk,e,hI⟩
 have se:=e.size
 rcases ZT hk with ⟨x,hx,hd,Yq,ZY⟩ | ⟨hk,hd,ZY⟩
 · obtain ⟨b,o,cs,rfl,hl,hA,rfl⟩:=Y1 k x hx
   have l4:p4 < w.heap.size:=(Array.getElem?_eq_some_iff.1 (e.obj o4)).1
   rw [hd] at hI
   simp only [Kc] at hI
   simp (disch:=try exact DI) only [↓PR,QR,simprocAttr,↓Ds,↓Dt,↓Du,↓Br,↓Bs,↓Bt,↓JK,↓Bu,↓ym,↓zo,↓xY,↓zp,↓zq,ZY,hA.c3,(Za (e.obj o4)).1]
   generalize hW:World.alloc (World.alloc w _) _=W
   have eW:Ext w W:=by rw [← hW];exact ee
   have o9:W.heap[w.heap.size]?=some (.cells #[.int .i64 x.low,.int .i64 x.high,.string x.of] 213 (0,0)):=by rw [← hW];simp (disch:=try exact DI) only [↓PR,QR,simprocAttr]
   have hIn:VA W (.slice (some ⟨w.heap.size+1,0,none⟩) 2 2) [x.low,x.high]:=by rw [← hW];exact PJ (by simp only [World.size_alloc]) _ _ _
   clear hW
   refine ZR (Qn (h.ext (e.trans eW)) n hi _ _ hIn) (λ w1 e1 h0=>?_) (λ w1 e1 h0=>?_)
   · rw [h0,Xe] at hI
     have er1:=eW.trans e1
     simp (disch:=try exact DI) only [↓PR,QR,simprocAttr,↓Ds,↓Dt,↓Du,↓Br,↓Bs,↓Bt,↓JK,↓Bu,↓ym,↓zo,↓xY,↓zp,↓zq,(Za (e1.obj o9)).1]
     refine ZR (qf (h.ext (e.trans er1)) x.of) (λ w2 e2 h0=>?_) (λ w2 e2 h0=>?_)
     · rw [h0,Xe] at hI
       simp (disch:=try exact DI) only [↓PR,QR,simprocAttr,↓Ds,↓Dt,↓Du,↓Br,↓Bs,↓Bt,↓JK,↓Bu,↓ym,↓zo,↓xY,↓zp,↓zq,(Za ((e1.trans e2).obj o9)).1]
       exact ⟨⟨k+1,_,rfl,rfl,by omega,ee,hI⟩,Ya (kd := .i64) Yq⟩
     · rw [Qz h0] at hI
       exact Ye (e00.trans (e.trans (er1.trans e2))) hI.symm h0
   · rw [Qz h0] at hI
     exact Ye (e00.trans (e.trans (eW.trans e1))) hI.symm h0
 · subst hk
   simp (disch:=try exact DI) only [↓PR,QR,simprocAttr,↓Ds,↓Dt,↓Du,↓Br,↓Bs,↓Bt,↓JK,↓Bu,↓ym,↓zo,↓xY,↓zp,↓zq,ZY]
   rw [hd] at hI
   exact Xp (e00.trans e) hI.symm
theorem Nz {a0:Wd} (e00:Ext a0 w0) (h:Chk w0 cb md ms Zr ZC at_ fld fs) (i:Nat) (hi:fld=i) (Yq:i < fs.length) (pf p4:Nat) (f:Zq) (tv cv:Vl) (lo hi':Int) (b:Bool) (hC:Yl w0 cv f.cases) (o3:w0.heap[pf]?=some (.cells (Zp f tv cv).toArray 123 (0,0))) (o4:w0.heap[p4]?=some (.cells #[.int .i64 lo,.int .i64 hi'] 300 (0,0)))
 (hb:b=(Wg (X3 (fs.take i)) f.tag).isSome) (hlo:b=true→lo=((Wg (X3 (fs.take i)) f.tag).getD (0,0)).1∧hi'=((Wg (X3 (fs.take i)) f.tag).getD (0,0)).2) :
 JK (.pointer (some ⟨cb,0,none⟩)) (.pointer (some ⟨pf,0,none⟩)) (.pointer (some ⟨p4,0,none⟩)) (.bool b) (Qi a0 at_ fld (Vh (fs.take i) Zr f)) w0:=by
 unfold JK
 refine Zk (WH h i hi Yq) ?_
 rintro bv w1 ⟨hB,e1⟩
 simp (disch:=try exact DI) only [↓PR,QR,simprocAttr]
 refine Zk (U8 _ _ _ _ _ (Fp f.tag) hB Zjy ?_) ?_
 · intro w v o _ e hv
   exact FJ w v o f pf tv cv hv ((e1.trans e).obj o3)
 rintro _ w2 ⟨rfl,e2⟩
 have e12:=e1.trans e2
 simp (disch:=try exact DI) only [↓PR,QR,simprocAttr,↓Bt]
 unfold Vh
 refine ZR (YK (h.ext e12) _ 8 (by decide)) (λ w3 e3 h0=>?_) (λ w3 e3 h0=>?_)
 · rw [← hb,h0,Xe]
   have hbt:b=true:=by
    cases b with
    | true=>rfl
    | false=>exact absurd h0 (by simp [Yr])
   obtain ⟨h1,h2⟩:=hlo hbt
   rw [← h1,← h2]
   have e13:=e12.trans e3
   obtain ⟨A,c,rfl,_⟩:=Zc.open hC
   simp (disch:=try exact DI) only [↓PR,QR,simprocAttr,↓Bs,(Za (e13.obj o3)).1]
   refine ZR (YK (h.ext e13) _ 3 (by decide)) (λ w4 e4 h0=>?_) (λ w4 e4 h0=>?_)
   · rw [h0,Xe]
     have e14:=e13.trans e4
     exact IC (e00.trans e14) (h.ext e14) pf p4 f tv _ lo hi' (Yl.ext hC e14) (e14.obj o3) (e14.obj o4)
   · rw [Qz h0]
     exact Ye (e00.trans (e13.trans e4)) rfl h0
 · rw [← hb,Qz h0]
   exact Ye (e00.trans (e12.trans e3)) rfl h0
theorem Ny (h:Chk w0 cb md ms Zr ZC at_ fld fs) (i:Nat) (hi:fld=i) (Yq:i < fs.length) (v:Vl) (f:Zq) (hf:Z0 w0 v f):Calls Pg 232 #[.pointer (some ⟨cb,0,none⟩),v] w0 (Qi w0 at_ fld (Vh (fs.take i) Zr f)):=by
 obtain ⟨tv,cv,rfl,hT,hC,ht1,hc1⟩:=hf.op
 refine ZkL ?_;unfold n73
 simp (disch:=try exact DI) only [↓PR,QR,simprocAttr]
 generalize hW:World.alloc w0 _=W
 have e0:Ext w0 W:=by rw [← hW];exact ee
 have o3:W.heap[w0.heap.size]?=some (.cells (Zp f tv cv).toArray 123 (0,0)):=by rw [← hW];simp (disch:=try exact DI) only [↓PR,QR,simprocAttr]
 clear hW
 refine ZE ?_
 simp (disch:=try exact DI) only [↓PR,QR,simprocAttr,↓zq,(Za o3).1]
 have key:∀ w' p4 b lo hi',Ext W w'→w'.heap[p4]?=some (.cells #[.int .i64 lo,.int .i64 hi'] 300 (0,0))→b=(Wg (X3 (fs.take i)) f.tag).isSome→(b=true→lo=((Wg (X3 (fs.take i)) f.tag).getD (0,0)).1∧hi'=((Wg (X3 (fs.take i)) f.tag).getD (0,0)).2) →
  JK (.pointer (some ⟨cb,0,none⟩)) (.pointer (some ⟨w0.heap.size,0,none⟩)) (.pointer (some ⟨p4,0,none⟩)) (.bool b) (Qi w0 at_ fld (Vh (fs.take i) Zr f)) w':=by
  intro w' p4 b lo hi' e o4 hb hlo
  exact Nz (e0.trans e) (h.ext (e0.trans e)) i hi Yq _ p4 f tv cv lo hi' b (Yl.ext hC (e0.trans e)) (e.obj o3) o4 hb hlo
 have eD:Ext W W.drew:=(Ext.refl W).wdrew
 have fin9:∀ (w2:Wd) (m p4:Nat) (u0 u1:Vl),Ext W.drew w2→Y7 w2 m (RP (X3 (fs.take i)))→w2.heap[p4]?=some (.cells #[u0,u1] 300 (0,0))→W.heap.size≤p4 →
  ym (.pointer (some ⟨p4,0,none⟩)) (.map (some m)) (.string f.tag) (KL W.drew m (RP (X3 (fs.take i)))) (λ t4 t5 w=>JK (.pointer (some ⟨cb,0,none⟩)) (.pointer (some ⟨w0.heap.size,0,none⟩)) t4 t5 (Qi w0 at_ fld (Vh (fs.take i) Zr f)) w) (Qi w0 at_ fld (Vh (fs.take i) Zr f)) w2:=by
  intro w2 m p4 u0 u1 e2 hM o4 hp4
  haveI:Yv (KL W.drew m (RP (X3 (fs.take i)))):=⟨⟨w2,e2,hM⟩⟩
  unfold ym
  rw [JY underlying296 underlying9 Uu ⟨w2,e2,hM⟩,Vy]
  have hfin:∀ lo hi' b,b=(Wg (X3 (fs.take i)) f.tag).isSome→(b=true→lo=((Wg (X3 (fs.take i)) f.tag).getD (0,0)).1∧hi'=((Wg (X3 (fs.take i)) f.tag).getD (0,0)).2) →
   KL W.drew m (RP (X3 (fs.take i))) ((w2.setCell ⟨p4,0,none⟩ (.int .i64 lo)).setCell ⟨p4,1,none⟩ (.int .i64 hi'))∧JK (.pointer (some ⟨cb,0,none⟩)) (.pointer (some ⟨w0.heap.size,0,none⟩)) (.pointer (some ⟨p4,0,none⟩)) (.bool b) (Qi w0 at_ fld (Vh (fs.take i) Zr f)) ((w2.setCell ⟨p4,0,none⟩ (.int .i64 lo)).setCell ⟨p4,1,none⟩ (.int .i64 hi')):=by
   intro lo hi' b hb hlo
   have e3:Ext W.drew ((w2.setCell ⟨p4,0,none⟩ (.int .i64 lo)).setCell ⟨p4,1,none⟩ (.int .i64 hi')):=(e2.setCell (show W.drew.heap.size≤(⟨p4,0,none⟩:Addr).block from hp4) _).setCell (show W.drew.heap.size≤(⟨p4,1,none⟩:Addr).block from hp4) _
   refine ⟨⟨e3,(hM.setCell _ _).setCell _ _⟩,key _ p4 b lo hi' (eD.trans e3) ?_ hb hlo⟩
   have:=Zw (o:=1) (Zw (o:=0) o4 (.int .i64 lo)) (.int .i64 hi')
   simpa using this
  cases hl:Wg (X3 (fs.take i)) f.tag with
  | none=>
   rw [hl] at hfin
   simp (disch:=try exact DI) only [↓PR,QR,simprocAttr,Option.map_none,(Za o4).1,(Za o4).2]
   exact hfin 0 0 false rfl (by simp)
  | some q=>
   obtain ⟨lo,hi'⟩:=q
   rw [hl] at hfin
   simp (disch:=try exact DI) only [↓PR,QR,simprocAttr,(Za o4).1,(Za o4).2,Yz]
   exact hfin lo hi' true rfl (λ _=>⟨rfl,rfl⟩)
 refine ⟨?_,?_⟩
 · refine Zk (WH (h.ext (e0.trans eD)) i hi Yq) ?_
   rintro bv w1 ⟨hB,e1⟩
   refine yA e1 ?_
   unfold zo
   refine ⟨?_,?_⟩
   · refine Zk (Kt _ _ _ hB) ?_
     rintro _ w2 ⟨m,rfl,_,hM,e2⟩
     rw [Ul] at hM
     refine zu (e1.trans e2) hM ?_
     unfold Bu
     simp only [Ke]
     haveI:Yv (KL W.drew m (RP (X3 (fs.take i)))):=⟨⟨w2,e1.trans e2,hM⟩⟩
     rw [JY underlying296 underlying9 Uu ⟨w2,e1.trans e2,hM⟩]
     have h9:=fin9 (w2.alloc (.cells #[.int .i64 0,.int .i64 0] 300)) m w2.heap.size _ _ ((e1.trans e2).alloc _) (hM.ext ((Ext.refl _).alloc _)) (Zv _ _ _) (by have:=(e1.trans e2).size;simpa using this)
     unfold ym at h9
     rw [JY underlying296 underlying9 Uu ⟨w2,e1.trans e2,hM⟩] at h9
     simp (disch:=try exact DI) only [↓PR,QR,simprocAttr]
     refine ⟨⟨(e1.trans e2).alloc _,hM.ext ((Ext.refl _).alloc _)⟩,?_⟩
     simp only [↓Sw.GENQ] at h9
     exact h9
   · simp (disch:=try exact DI) only [↓PR,QR,simprocAttr]
     refine ⟨e1.alloc _,?_⟩
     refine Zk (Kt _ _ _ (YR.ext hB ((Ext.refl _).alloc _))) ?_
     rintro _ w2 ⟨m,rfl,_,hM,e2⟩
     rw [Ul] at hM
     have s1:=e1.size
     simp only [World.size_drew] at s1
     refine zu ((e1.alloc _).trans e2) hM ?_
     exact fin9 w2 m w1.heap.size _ _ ((e1.alloc _).trans e2) hM (e2.obj (Zv _ _ _)) s1
 · refine ⟨(Ext.refl _).alloc _,?_⟩
   unfold zp
   refine Zk (WH (h.ext ((e0.trans eD).alloc _)) i hi Yq) ?_
   rintro bv w1 ⟨hB,e1⟩
   refine yA (((Ext.refl _).alloc _).trans e1) ?_
   refine Zk (Kt _ _ _ hB) ?_
   rintro _ w2 ⟨m,rfl,_,hM,e2⟩
   rw [Ul] at hM
   refine zu (((Ext.refl _).alloc _).trans (e1.trans e2)) hM ?_
   exact fin9 w2 m W.heap.size _ _ (((Ext.refl _).alloc _).trans (e1.trans e2)) hM ((e1.trans e2).obj (Zv W.drew _ _)) (Nat.le_refl _)
end
section
variable {w0:Wd} {cb md ms:Nat} {Zr ZC:List (BAr×Vl)} {at_ fld:Int} {fs:List Zq}
def CD (f:Zq):Int:=2 ^ f.bits.toNat - 1
theorem Ii {f:Zq} (h:UM f=true):0≤f.bits∧f.bits≤64∧IntKind.i64.wrap (IntKind.i64.wrap (1*2 ^ f.bits.toNat) - 1)=CD f:=by
 unfold UM at h
 simp only [Bool.and_eq_true,decide_eq_true_eq] at h
 obtain ⟨⟨h1,h2⟩,_⟩:=h
 have hc:(2:Int) ^ f.bits.toNat=((2 ^ f.bits.toNat:Nat):Int):=by simp
 have hp1:2 ^ f.bits.toNat≤2 ^ 32:=Nat.pow_le_pow_right (by decide) (by omega)
 have hp:(2:Int) ^ f.bits.toNat≤4294967296:=by rw [hc];omega
 have hp0:(0:Int) < 2 ^ f.bits.toNat:=Int.pow_pos (by decide)
 refine ⟨by omega,by omega,?_⟩
 unfold CD
 rw [Int.one_mul,show IntKind.i64.wrap (2 ^ f.bits.toNat)=2 ^ f.bits.toNat from XC (by omega) (by omega),XC (by omega) (by omega)]
theorem Ql {b:Bool} {c:Int} (hc:c≠0) (h:Yr b c=0):b=true:=by
 cases b with
 | true=>rfl
 | false=>exact absurd h hc
theorem TQ (h:Chk w0 cb md ms Zr ZC at_ fld fs) (v:Vl) (f:Zq) (hf:Z0 w0 v f):Calls Pg 213 #[.pointer (some ⟨cb,0,none⟩),v] w0 (Qi w0 at_ fld (orC (Yr (UM f) 6) (YC (CD f) 0 [f.low,f.high]))):=by
 obtain ⟨tv,cv,rfl,hT,hC,ht1,hc1⟩:=hf.op
 refine Zla ?_;unfold n97
 simp (disch:=try exact DI) only [↓PR,QR,simprocAttr]
 generalize hW:World.alloc w0 _=W
 have e0:Ext w0 W:=by rw [← hW];exact ee
 have o3:W.heap[w0.heap.size]?=some (.cells (Zp f tv cv).toArray 123 (0,0)):=by rw [← hW];simp (disch:=try exact DI) only [↓PR,QR,simprocAttr]
 clear hW
 simp (disch:=try exact DI) only [↓PR,QR,simprocAttr,(Za o3).1]
 refine ZR (FI (h.ext e0) _ f ⟨tv,cv,rfl,ZZ.ext hT e0,Yl.ext hC e0⟩) (λ w1 e1 h0=>?_) (λ w1 e1 h0=>?_)
 · rw [h0,Xe]
   obtain ⟨ha,hb,hw⟩:=Ii (Ql (by decide) h0)
   have e01:=e0.trans e1
   have l1:w0.heap.size < w1.heap.size:=(Array.getElem?_eq_some_iff.1 (e1.obj o3)).1
   refine ZE ?_
   simp (disch:=try exact DI) only [↓PR,QR,simprocAttr,↓Zdu,(Za (e1.obj o3)).1,hw]
   generalize hW:World.alloc (World.drew w1) _=W2
   have eD:Ext w1.drew W2:=by rw [← hW];exact ee
   have hIn:VA W2 (.slice (some ⟨w1.heap.size,0,none⟩) 2 2) [f.low,f.high]:=by rw [← hW];exact PJ rfl _ _ _
   clear hW
   have eE:Ext w0 W2:=(e01.wdrew).trans eD
   refine ⟨eD,?_⟩
   refine ZR (Qn (h.ext eE) 0 (CD f) _ _ hIn) (λ w2 e2 h0=>?_) (λ w2 e2 h0=>?_)
   · exact ⟨eD.trans e2,Xp (eE.trans e2) h0⟩
   · exact Ye (eE.trans e2) rfl h0
 · rw [Qz h0]
   exact Ye (e0.trans e1) rfl h0
theorem NH (h:Chk w0 cb md ms Zr ZC at_ fld fs) (v:Vl) (f:Zq) (hf:Z0 w0 v f):Calls Pg 217 #[.pointer (some ⟨cb,0,none⟩),v] w0 (Qi w0 at_ fld (orC (Yr (UM f) 6) (YC (CD f) 0 [f.low]))):=by
 obtain ⟨tv,cv,rfl,hT,hC,ht1,hc1⟩:=hf.op
 refine ZfE ?_;unfold ZfD
 simp (disch:=try exact DI) only [↓PR,QR,simprocAttr]
 generalize hW:World.alloc w0 _=W
 have e0:Ext w0 W:=by rw [← hW];exact ee
 have o3:W.heap[w0.heap.size]?=some (.cells (Zp f tv cv).toArray 123 (0,0)):=by rw [← hW];simp (disch:=try exact DI) only [↓PR,QR,simprocAttr]
 clear hW
 simp (disch:=try exact DI) only [↓PR,QR,simprocAttr,(Za o3).1]
 refine ZR (FI (h.ext e0) _ f ⟨tv,cv,rfl,ZZ.ext hT e0,Yl.ext hC e0⟩) (λ w1 e1 h0=>?_) (λ w1 e1 h0=>?_)
 · rw [h0,Xe]
   obtain ⟨ha,hb,hw⟩:=Ii (Ql (by decide) h0)
   have e01:=e0.trans e1
   have l1:w0.heap.size < w1.heap.size:=(Array.getElem?_eq_some_iff.1 (e1.obj o3)).1
   refine ZE ?_
   simp (disch:=try exact DI) only [↓PR,QR,simprocAttr,↓P3,(Za (e1.obj o3)).1,hw]
   generalize hW:World.alloc (World.drew w1) _=W2
   have eD:Ext w1.drew W2:=by rw [← hW];exact ee
   have hIn:VA W2 (.slice (some ⟨w1.heap.size,0,none⟩) 1 1) [f.low]:=by rw [← hW];exact Db rfl _ _
   clear hW
   have eE:Ext w0 W2:=(e01.wdrew).trans eD
   refine ⟨eD,?_⟩
   refine ZR (Qn (h.ext eE) 0 (CD f) _ _ hIn) (λ w2 e2 h0=>?_) (λ w2 e2 h0=>?_)
   · exact ⟨eD.trans e2,Xp (eE.trans e2) h0⟩
   · exact Ye (eE.trans e2) rfl h0
 · rw [Qz h0]
   exact Ye (e0.trans e1) rfl h0
theorem Mq (h:Chk w0 cb md ms Zr ZC at_ fld fs) (v:Vl) (f:Zq) (hf:Z0 w0 v f):Calls Pg 219 #[.pointer (some ⟨cb,0,none⟩),v] w0 (Qi w0 at_ fld (YC 34359738367 0 [f.low,f.high])):=by
 obtain ⟨tv,cv,rfl,hT,hC,ht1,hc1⟩:=hf.op
 refine ZfI ?_;unfold ZfH
 simp (disch:=try exact DI) only [↓PR,QR,simprocAttr]
 generalize hW:World.alloc (World.alloc w0 _) _=W
 have e0:Ext w0 W:=by rw [← hW];exact ee
 have o3:W.heap[w0.heap.size]?=some (.cells (Zp f tv cv).toArray 123 (0,0)):=by rw [← hW];simp (disch:=try exact DI) only [↓PR,QR,simprocAttr]
 have hIn:VA W (.slice (some ⟨w0.heap.size+1,0,none⟩) 2 2) [f.low,f.high]:=by rw [← hW];exact PJ (by simp only [World.size_alloc]) _ _ _
 clear hW
 refine ZR (Qn (h.ext e0) 0 34359738367 _ _ hIn) (λ w1 e1 h0=>?_) (λ w1 e1 h0=>?_)
 · exact Xp (e0.trans e1) h0
 · exact Ye (e0.trans e1) rfl h0
theorem Hc (h:Chk w0 cb md ms Zr ZC at_ fld fs) (v:Vl) (f:Zq) (hf:Z0 w0 v f):Calls Pg 225 #[.pointer (some ⟨cb,0,none⟩),v] w0 (Qi w0 at_ fld (YC 1048576 2 [f.high])):=by
 obtain ⟨tv,cv,rfl,hT,hC,ht1,hc1⟩:=hf.op
 refine Zk1 ?_;unfold n88
 simp (disch:=try exact DI) only [↓PR,QR,simprocAttr]
 generalize hW:World.alloc (World.alloc w0 _) _=W
 have e0:Ext w0 W:=by rw [← hW];exact ee
 have o3:W.heap[w0.heap.size]?=some (.cells (Zp f tv cv).toArray 123 (0,0)):=by rw [← hW];simp (disch:=try exact DI) only [↓PR,QR,simprocAttr]
 have hIn:VA W (.slice (some ⟨w0.heap.size+1,0,none⟩) 1 1) [f.high]:=by rw [← hW];exact Db (by simp only [World.size_alloc]) _ _
 clear hW
 refine ZR (Qn (h.ext e0) 2 1048576 _ _ hIn) (λ w1 e1 h0=>?_) (λ w1 e1 h0=>?_)
 · exact Xp (e0.trans e1) h0
 · exact Ye (e0.trans e1) rfl h0
theorem OK (h:Chk w0 cb md ms Zr ZC at_ fld fs) (v:Vl) (f:Zq) (hf:Z0 w0 v f):Calls Pg 223 #[.pointer (some ⟨cb,0,none⟩),v] w0 (Qi w0 at_ fld (orC (YC 255 0 [f.low]) (YC 1048576 0 [f.high]))):=by
 obtain ⟨tv,cv,rfl,hT,hC,ht1,hc1⟩:=hf.op
 refine ZfO ?_;unfold ZfN
 simp (disch:=try exact DI) only [↓PR,QR,simprocAttr]
 generalize hW:World.alloc (World.alloc w0 _) _=W
 have e0:Ext w0 W:=by rw [← hW];exact ee
 have o3:W.heap[w0.heap.size]?=some (.cells (Zp f tv cv).toArray 123 (0,0)):=by rw [← hW];simp (disch:=try exact DI) only [↓PR,QR,simprocAttr]
 have hIn:VA W (.slice (some ⟨w0.heap.size+1,0,none⟩) 1 1) [f.low]:=by rw [← hW];exact Db (by simp only [World.size_alloc]) _ _
 clear hW
 refine ZR (Qn (h.ext e0) 0 255 _ _ hIn) (λ w1 e1 h0=>?_) (λ w1 e1 h0=>?_)
 · rw [h0,Xe]
   have e01:=e0.trans e1
   simp (disch:=try exact DI) only [↓PR,QR,simprocAttr,↓P4,(Za (e1.obj o3)).1]
   refine ZR (Qn ((h.ext e01).ext ((Ext.refl _).alloc _)) 0 1048576 _ _ (Db rfl _ _)) (λ w2 e2 h0=>?_) (λ w2 e2 h0=>?_)
   · exact Xp ((e01.alloc _).trans e2) h0
   · exact Ye ((e01.alloc _).trans e2) rfl h0
 · rw [Qz h0]
   exact Ye (e0.trans e1) rfl h0
theorem Hs (h:Chk w0 cb md ms Zr ZC at_ fld fs) (v:Vl) (f:Zq) (hf:Z0 w0 v f):Calls Pg 230 #[.pointer (some ⟨cb,0,none⟩),v] w0 (Qi w0 at_ fld (Yr (Yw Zr f.of).isSome 8)):=by
 obtain ⟨tv,cv,rfl,hT,hC,ht1,hc1⟩:=hf.op
 refine Zk5 ?_;unfold n92
 simp (disch:=try exact DI) only [↓PR,QR,simprocAttr]
 generalize hW:World.alloc w0 _=W
 have e0:Ext w0 W:=by rw [← hW];exact ee
 have o3:W.heap[w0.heap.size]?=some (.cells (Zp f tv cv).toArray 123 (0,0)):=by rw [← hW];simp (disch:=try exact DI) only [↓PR,QR,simprocAttr]
 clear hW
 simp (disch:=try exact DI) only [↓PR,QR,simprocAttr,(Za o3).1]
 refine ZR (qf (h.ext e0) f.of) (λ w1 e1 h0=>?_) (λ w1 e1 h0=>?_)
 · exact Xp (e0.trans e1) h0
 · exact Ye (e0.trans e1) rfl h0
theorem PW (h:Chk w0 cb md ms Zr ZC at_ fld fs) (i:Nat) (hi:fld=i) (Yq:i < fs.length) (v:Vl) (f:Zq) (hf:Z0 w0 v f):Calls Pg 227 #[.pointer (some ⟨cb,0,none⟩),v] w0 (Qi w0 at_ fld (orC (Yr (Yw Zr f.of).isSome 8) (UB (X3 (fs.take i)) f))):=by
 obtain ⟨tv,cv,rfl,hT,hC,ht1,hc1⟩:=hf.op
 refine Zk3 ?_;unfold n90
 simp (disch:=try exact DI) only [↓PR,QR,simprocAttr]
 generalize hW:World.alloc w0 _=W
 have e0:Ext w0 W:=by rw [← hW];exact ee
 have o3:W.heap[w0.heap.size]?=some (.cells (Zp f tv cv).toArray 123 (0,0)):=by rw [← hW];simp (disch:=try exact DI) only [↓PR,QR,simprocAttr]
 clear hW
 simp (disch:=try exact DI) only [↓PR,QR,simprocAttr,(Za o3).1]
 refine ZR (qf (h.ext e0) f.of) (λ w1 e1 h0=>?_) (λ w1 e1 h0=>?_)
 · rw [h0,Xe]
   have e01:=e0.trans e1
   simp (disch:=try exact DI) only [↓PR,QR,simprocAttr,(Za (e1.obj o3)).1]
   refine ZR (ql (h.ext e01) i hi Yq _ f ⟨tv,cv,rfl,ZZ.ext hT e01,Yl.ext hC e01⟩) (λ w2 e2 h0=>?_) (λ w2 e2 h0=>?_)
   · exact Xp (e01.trans e2) h0
   · exact Ye (e01.trans e2) rfl h0
 · rw [Qz h0]
   exact Ye (e0.trans e1) rfl h0
theorem TS (h:Chk w0 cb md ms Zr ZC at_ fld fs) (i:Nat) (hi:fld=i) (Yq:i < fs.length) (v:Vl) (f:Zq) (hf:Z0 w0 v f):Calls Pg 238 #[.pointer (some ⟨cb,0,none⟩),v] w0 (Qi w0 at_ fld (orC (YC 4294967295 0 [f.key]) (orC (Yr (Ig ZC f.of) 8) (UB (X3 (fs.take i)) f)))):=by
 obtain ⟨tv,cv,rfl,hT,hC,ht1,hc1⟩:=hf.op
 refine ZfA ?_;unfold Zfz
 simp (disch:=try exact DI) only [↓PR,QR,simprocAttr]
 generalize hW:World.alloc (World.alloc w0 _) _=W
 have e0:Ext w0 W:=by rw [← hW];exact ee
 have o3:W.heap[w0.heap.size]?=some (.cells (Zp f tv cv).toArray 123 (0,0)):=by rw [← hW];simp (disch:=try exact DI) only [↓PR,QR,simprocAttr]
 have hIn:VA W (.slice (some ⟨w0.heap.size+1,0,none⟩) 1 1) [f.key]:=by rw [← hW];exact Db (by simp only [World.size_alloc]) _ _
 clear hW
 refine ZR (Qn (h.ext e0) 0 4294967295 _ _ hIn) (λ w1 e1 h0=>?_) (λ w1 e1 h0=>?_)
 · rw [h0,Xe]
   have e01:=e0.trans e1
   have h1:=h.ext e01.wdrew
   obtain ⟨⟨dn,mv,ds,mn,fv,k1,k2⟩,k3,k4,k5,k6⟩:=id h1
   refine ZE ?_
   simp (disch:=try exact DI) only [↓PR,QR,simprocAttr,↓P2,(Za (e1.obj o3)).1,(Za k1).1]
   have k1':=(Za k1).1
   simp only [World.cell?] at k1'
   rw [je underlying199 underlying9 ty4 k4]
   rw [h1.strV f.of]
   refine ZR (YK h1 _ 8 (by decide)) (λ w2 e2 h0=>?_) (λ w2 e2 h0=>?_)
   · rw [h0,Xe]
     refine ⟨e2,?_⟩
     have e02:=(e01.wdrew).trans e2
     have e12:Ext W w2:=(e1.wdrew).trans e2
     simp (disch:=try exact DI) only [↓PR,QR,simprocAttr,(Za (e12.obj o3)).1]
     refine ZR (ql (h.ext e02) i hi Yq _ f ⟨tv,cv,rfl,ZZ.ext hT e02,Yl.ext hC e02⟩) (λ w3 e3 h0=>?_) (λ w3 e3 h0=>?_)
     · exact Xp (e02.trans e3) h0
     · exact Ye (e02.trans e3) rfl h0
   · rw [Qz h0]
     exact Ye (e01.wdrew.trans e2) rfl h0
 · rw [Qz h0]
   exact Ye (e0.trans e1) rfl h0
theorem NG (h:Chk w0 cb md ms Zr ZC at_ fld fs) (i:Nat) (hi:fld=i) (Yq:i < fs.length) (v:Vl) (f:Zq) (hf:Z0 w0 v f):Calls Pg 236 #[.pointer (some ⟨cb,0,none⟩),v] w0 (Qi w0 at_ fld (orC (YC 3 1 [f.check]) (Yr ((fs.take i).any λ o=>decide (o.name=f.fr)) 8))):=by
 obtain ⟨tv,cv,rfl,hT,hC,ht1,hc1⟩:=hf.op
 refine Zlb ?_;unfold n98
 simp (disch:=try exact DI) only [↓PR,QR,simprocAttr]
 generalize hW:World.alloc (World.alloc w0 _) _=W
 have e0:Ext w0 W:=by rw [← hW];exact ee
 have o3:W.heap[w0.heap.size]?=some (.cells (Zp f tv cv).toArray 123 (0,0)):=by rw [← hW];simp (disch:=try exact DI) only [↓PR,QR,simprocAttr]
 have hIn:VA W (.slice (some ⟨w0.heap.size+1,0,none⟩) 1 1) [f.check]:=by rw [← hW];exact Db (by simp only [World.size_alloc]) _ _
 clear hW
 refine ZR (Qn (h.ext e0) 1 3 _ _ hIn) (λ w1 e1 h0=>?_) (λ w1 e1 h0=>?_)
 · rw [h0,Xe]
   have e01:=e0.trans e1
   refine ZE ?_
   simp (disch:=try exact DI) only [↓PR,QR,simprocAttr,↓MZ,↓M1,(Za (e1.obj o3)).1]
   refine Zk (WH (h.ext e01.wdrew) i hi Yq) ?_
   rintro bv w2 ⟨hB,e2⟩
   refine ⟨e2,?_⟩
   have hb1:=Zc.oneCell hB
   simp (disch:=try exact DI) only [↓PR,QR,simprocAttr,↓MZ,↓M1]
   refine zcr (xe w2 _ ⟨ByteArray.empty,fs.take i⟩ f.fr ⟨bv,rfl,hB⟩) λ w3 e3=>?_
   refine ⟨e2.trans e3,?_⟩
   simp (disch:=try exact DI) only [↓PR,QR,simprocAttr,↓MZ,↓M1]
   have e03:=(e01.wdrew).trans (e2.trans e3)
   refine ZR (YK (h.ext e03) _ 8 (by decide)) (λ w4 e4 h0=>?_) (λ w4 e4 h0=>?_)
   · exact Xp (e03.trans e4) h0
   · exact Ye (e03.trans e4) rfl h0
 · rw [Qz h0]
   exact Ye (e0.trans e1) rfl h0
def LK (f:Zq):Bool:=(f.bits == 2)||(f.bits == 4)||(decide (8≤f.bits)&&decide (f.bits≤512)&&(f.bits.tmod 8 == 0))
theorem Za8 (h:Chk w0 cb md ms Zr ZC at_ fld fs) (v:Vl) (f:Zq) (hf:Z0 w0 v f):Calls Pg 234 #[.pointer (some ⟨cb,0,none⟩),v] w0 (Qi w0 at_ fld (Yr (LK f) 6)):=by
 obtain ⟨tv,cv,rfl,hT,hC,ht1,hc1⟩:=hf.op
 refine Zk8 ?_;unfold n95
 simp (disch:=try exact DI) only [↓PR,QR,simprocAttr,↓SI,↓SJ,↓SK,↓SL]
 have e0:Ext w0 (w0.alloc (Obj.cells (Zp f tv cv).toArray 123)):=ee
 have fin:∀ b,b=LK f→ZV Pg 135 #[.pointer (some ⟨cb,0,none⟩),.bool b,.int .i64 6] (Zd (Qi w0 at_ fld (Yr (LK f) 6))) (w0.alloc (Obj.cells (Zp f tv cv).toArray 123)) (λ _ w=>Qi w0 at_ fld (Yr (LK f) 6) (.returned (.tuple #[])) w):=by
  rintro b rfl
  exact ZR (YK (h.ext e0) _ 6 (by decide)) (λ w' e1 h0=>Xp (e0.trans e1) h0) (λ w' e1 h0=>Ye (e0.trans e1) rfl h0)
 unfold LK at fin ⊢
 generalize (f.bits == 2)=b1 at fin ⊢
 generalize (f.bits == 4)=b2 at fin ⊢
 generalize decide (8≤f.bits)=b3 at fin ⊢
 generalize decide (f.bits≤512)=b4 at fin ⊢
 cases b1<;>cases b2<;>cases b3<;>cases b4<;>simp (disch:=try exact DI) only [↓PR,QR,simprocAttr,↓SI,↓SJ,↓SK,↓SL]<;>first | exact fin _ rfl | exact fin _ (by simp)
end
theorem Zau (x y:Xa):(decide (x.field=y.field)&&decide (x.factor=y.factor))=decide (x=y):=by
 cases x;cases y
 rw [Bool.eq_iff_iff]
 simp
theorem jP (w0:Wd) (v u:Vl) (l m:List Xa) (hl:ZZ w0 v l) (hm:ZZ w0 u m) :
 Ret Pg 240 #[v,u] w0 λ r w'=>r = .bool (decide (l=m))∧Ext w0 w':=by
 obtain ⟨A,c,rfl,hlc,hcm,hlm,Y1⟩:=Zc.open hl
 obtain ⟨A',c',rfl,hlc',hcm',hlm',hel'⟩:=Zc.open hm
 refine ZgW (R:=ZI _) ?_;unfold ZgV
 simp (disch:=try exact DI) only [↓PR,QR,simprocAttr]
 by_cases Y8:l.length=m.length
 · have YN:((l.length:Int) != (m.length:Int))=false:=by simp [Y8]
   simp (disch:=try exact DI) only [↓PR,QR,simprocAttr,↓Jy,↓Jz,YN]
   refine ZJ (λ a0 w=>∃ (k:Nat) , a0 = .int .i64 (k:Int)∧k≤l.length∧Ext w0 w∧l.take k=m.take k) (λ a0 _=>l.length - (intOf a0).toNat) ⟨0,rfl,Nat.zero_le _,ee,rfl⟩ ?_
   rintro _ w ⟨k,rfl,hk,e,hI⟩
   have se:=e.size
   rcases ZT hk with ⟨x,hx,hd,Yq,ZY⟩ | ⟨hk,hd,ZY⟩
   · obtain ⟨b,o,cs,rfl,_,hA,rfl⟩:=Y1 k x hx
     obtain ⟨y,hy⟩:=getElem?_lt (l:=m) (k:=k) (by omega)
     obtain ⟨b',o',cs',rfl,_,hA',rfl⟩:=hel' k y hy
     have hlt':k < m.length:=by omega
     have eD:Ext w0 w.drew:=e.wdrew
     simp (disch:=try exact DI) only [↓PR,QR,simprocAttr,↓Jy,↓Jz,ZY]
     refine ZE ?_
     simp (disch:=try exact DI) only [↓PR,QR,simprocAttr,↓Jy,↓Jz,hA.c2,hA'.c2]
     rw [Zau]
     by_cases hxy:x=y
     · subst hxy
       simp only [decide_true,Bool.not_true]
       simp (disch:=try exact DI) only [↓PR,QR,simprocAttr,↓Jy,↓Jz]
       exact ⟨⟨k+1,rfl,by omega,ee,by rw [List.take_add_one,List.take_add_one,hx,hy,hI]⟩,Ya (kd := .i64) Yq⟩
     · simp only [hxy,decide_false,Bool.not_false]
       simp (disch:=try exact DI) only [↓PR,QR,simprocAttr,↓Jy,↓Jz]
       refine ⟨?_,eD⟩
       have hne':¬ l=m:=by
        rintro rfl
        rw [hx] at hy
        injection hy with hy
        exact hxy hy
       simp [hne']
   · subst hk
     simp (disch:=try exact DI) only [↓PR,QR,simprocAttr,↓Jy,↓Jz,ZY]
     rw [List.take_length,Y8,List.take_length] at hI
     exact ⟨by simp [hI],e⟩
 · have YN:((l.length:Int) != (m.length:Int))=true:=by simp;omega
   simp (disch:=try exact DI) only [↓PR,QR,simprocAttr,↓Jy,↓Jz,YN]
   have hne':¬ l=m:=λ h=>Y8 (by rw [h])
   exact ⟨by simp [hne'],Ext.refl _⟩
theorem Zat (x y:zF):(decide (x.low=y.low)&&(decide (x.high=y.high)&&decide (x.of=y.of)))=decide (x=y):=by
 cases x;cases y
 rw [Bool.eq_iff_iff]
 simp
theorem jO (w0:Wd) (v u:Vl) (l m:List zF) (hl:Yl w0 v l) (hm:Yl w0 u m) :
 Ret Pg 241 #[v,u] w0 λ r w'=>r = .bool (decide (l=m))∧Ext w0 w':=by
 obtain ⟨A,c,rfl,hlc,hcm,hlm,Y1⟩:=Zc.open hl
 obtain ⟨A',c',rfl,hlc',hcm',hlm',hel'⟩:=Zc.open hm
 refine ZgS (R:=ZI _) ?_;unfold ZgR
 simp (disch:=try exact DI) only [↓PR,QR,simprocAttr]
 by_cases Y8:l.length=m.length
 · have YN:((l.length:Int) != (m.length:Int))=false:=by simp [Y8]
   simp (disch:=try exact DI) only [↓PR,QR,simprocAttr,↓Jt,↓Ju,YN]
   refine ZJ (λ a0 w=>∃ (k:Nat) , a0 = .int .i64 (k:Int)∧k≤l.length∧Ext w0 w∧l.take k=m.take k) (λ a0 _=>l.length - (intOf a0).toNat) ⟨0,rfl,Nat.zero_le _,ee,rfl⟩ ?_
   rintro _ w ⟨k,rfl,hk,e,hI⟩
   have se:=e.size
   rcases ZT hk with ⟨x,hx,hd,Yq,ZY⟩ | ⟨hk,hd,ZY⟩
   · obtain ⟨b,o,cs,rfl,_,hA,rfl⟩:=Y1 k x hx
     obtain ⟨y,hy⟩:=getElem?_lt (l:=m) (k:=k) (by omega)
     obtain ⟨b',o',cs',rfl,_,hA',rfl⟩:=hel' k y hy
     have hlt':k < m.length:=by omega
     have eD:Ext w0 w.drew:=e.wdrew
     simp (disch:=try exact DI) only [↓PR,QR,simprocAttr,↓Jt,↓Ju,ZY]
     refine ZE ?_
     simp (disch:=try exact DI) only [↓PR,QR,simprocAttr,↓Jt,↓Ju,hA.c3,hA'.c3]
     rw [Zat]
     by_cases hxy:x=y
     · subst hxy
       simp only [decide_true,Bool.not_true]
       simp (disch:=try exact DI) only [↓PR,QR,simprocAttr,↓Jt,↓Ju]
       exact ⟨⟨k+1,rfl,by omega,ee,by rw [List.take_add_one,List.take_add_one,hx,hy,hI]⟩,Ya (kd := .i64) Yq⟩
     · simp only [hxy,decide_false,Bool.not_false]
       simp (disch:=try exact DI) only [↓PR,QR,simprocAttr,↓Jt,↓Ju]
       refine ⟨?_,eD⟩
       have hne':¬ l=m:=by
        rintro rfl
        rw [hx] at hy
        injection hy with hy
        exact hxy hy
       simp [hne']
   · subst hk
     simp (disch:=try exact DI) only [↓PR,QR,simprocAttr,↓Jt,↓Ju,ZY]
     rw [List.take_length,Y8,List.take_length] at hI
     exact ⟨by simp [hI],e⟩
 · have YN:((l.length:Int) != (m.length:Int))=true:=by simp;omega
   simp (disch:=try exact DI) only [↓PR,QR,simprocAttr,↓Jt,↓Ju,YN]
   have hne':¬ l=m:=λ h=>Y8 (by rw [h])
   exact ⟨by simp [hne'],Ext.refl _⟩
abbrev Td (f:Zq):Vl := .agg #[.string f.name,.string f.of,.string f.tag,.string f.fr,.int .i64 f.kind,.int .i64 f.bits,.int .i64 f.low,.int .i64 f.high,.int .i64 f.base,.int .i64 f.check,.int .i64 f.key,.bool f.little,.bool f.loose]
theorem DC (w0:Wd) (v:Vl) (f:Zq) (hf:Z0 w0 v f):Ret Pg 239 #[v] w0 λ r w'=>r=Td f∧Ext w0 w':=by
 obtain ⟨tv,cv,rfl,hT,hC,ht1,hc1⟩:=hf.op
 refine ZfQ (R:=ZI _) ?_;unfold ZfP
 simp (disch:=try exact DI) only [↓PR,QR,simprocAttr,joinK_eq]
 exact ⟨by first | trivial | rfl,ee⟩
theorem CB (w0:Wd) (v u:Vl) (f g:Zq) (hf:Z0 w0 v f) (hg:Z0 w0 u g):Ret Pg 197 #[v,u] w0 λ r w'=>r = .bool (decide (f=g))∧Ext w0 w':=by
 obtain ⟨tv,cv,rfl,hT,hC,ht1,hc1⟩:=hf.op
 obtain ⟨tv',cv',rfl,hT',hC',ht1',hc1'⟩:=hg.op
 refine ZfU (R:=ZI _) ?_;unfold ZfT
 simp (disch:=try exact DI) only [↓PR,QR,simprocAttr]
 generalize hW:World.alloc (World.alloc w0 _) _=W
 have e0:Ext w0 W:=by rw [← hW];exact ee
 have o3:W.heap[w0.heap.size]?=some (.cells (Zp f tv cv).toArray 123 (0,0)):=by rw [← hW];simp (disch:=try exact DI) only [↓PR,QR,simprocAttr]
 have o4:W.heap[w0.heap.size+1]?=some (.cells (Zp g tv' cv').toArray 123 (0,0)):=by rw [← hW];simp (disch:=try exact DI) only [↓PR,QR,simprocAttr]
 clear hW
 simp only [World.size_alloc]
 refine ZE ?_
 have eD:Ext w0 W.drew:=e0.wdrew
 simp (disch:=try exact DI) only [↓PR,QR,simprocAttr,↓Jq,↓Jr,↓Js,(Za o3).1,(Za o4).1]
 refine zcr (DC _ _ f ⟨tv,cv,rfl,ZZ.ext hT eD,Yl.ext hC eD⟩) λ w1 e1=>?_
 refine ⟨e1,?_⟩
 have eD1:=eD.trans e1
 refine zcr (DC _ _ g ⟨tv',cv',rfl,ZZ.ext hT' eD1,Yl.ext hC' eD1⟩) λ w2 e2=>?_
 refine ⟨e1.trans e2,?_⟩
 simp (disch:=try exact DI) only [↓PR,QR,simprocAttr,↓Jq,↓Jr,↓Js,(Za o3).1,(Za o4).1]
 have eW2:Ext W w2:=(Ext.refl W).wdrew.trans (e1.trans e2)
 generalize hb:(_&&_:Bool)=b1
 cases b1 with
 | false=>
  simp (disch:=try exact DI) only [↓PR,QR,simprocAttr,↓Jq,↓Jr,↓Js]
  refine ⟨?_,e0.trans eW2⟩
  have YN:¬ f=g:=by
   rintro rfl
   simp at hb
  simp [YN]
 | true=>
  have hbt:=hb
  simp only [Bool.and_eq_true,decide_eq_true_eq] at hb
  obtain ⟨h1,h2,h3,h4,h5,h6,h7,h8,h9,h10,h11,h12,h13⟩:=hb
  simp (disch:=try exact DI) only [↓PR,QR,simprocAttr,↓Jq,↓Jr,↓Js,(Za o3).1,(Za o4).1]
  refine zcr (jP _ _ _ _ _ (ZZ.ext hT (e0.trans eW2)) (ZZ.ext hT' (e0.trans eW2))) λ w3 e3=>?_
  refine ⟨(e1.trans e2).trans e3,?_⟩
  have eW3:=eW2.trans e3
  by_cases ht:f.terms=g.terms
  · simp only [ht,decide_true]
    simp (disch:=try exact DI) only [↓PR,QR,simprocAttr,↓Jq,↓Jr,↓Js,hbt,(Za o3).1,(Za o4).1]
    refine zcr (jO _ _ _ _ _ (Yl.ext hC (e0.trans eW3)) (Yl.ext hC' (e0.trans eW3))) λ w4 e4=>?_
    refine ⟨((e1.trans e2).trans e3).trans e4,?_⟩
    simp (disch:=try exact DI) only [↓PR,QR,simprocAttr,↓Jq,↓Jr,↓Js]
    refine ⟨?_,e0.trans (eW3.trans e4)⟩
    congr 1
    rw [Bool.eq_iff_iff]
    simp only [decide_eq_true_eq]
    constructor
    · intro hc;cases f;cases g;simp_all
    · rintro rfl;rfl
  · simp only [ht,decide_false]
    simp (disch:=try exact DI) only [↓PR,QR,simprocAttr,↓Jq,↓Jr,↓Js,hbt]
    refine ⟨?_,e0.trans eW3⟩
    have YN:¬ f=g:=by rintro rfl;exact ht rfl
    simp [YN]
def WG (g:FuncId) (cl:Zq→Zq) (ct cc:Bool):Prop:=∀ (w:Wd) (p:Nat) (f:Zq) (tv cv:Vl),tv.oneCell'=true→cv.oneCell'=true→w.heap[p]?=some (.cells (Zp f tv cv).toArray 123 (0,0)) →
 Ret Pg g #[.pointer (some ⟨p,0,none⟩)] w λ _ w'=>w'.heap[p]?=some (.cells (Zp (cl f) (if ct then .slice none 0 0 else tv) (if cc then .slice none 0 0 else cv)).toArray 123 (0,0))∧∀ a,Ext a w→a.heap.size≤p→Ext a w'
def D8 (f:Zq):Zq:={ f with bits:=0,little:=false,low:=0,high:=0 }
theorem Zaf:WG 212 D8 false false:=by
 intro w p f tv cv ht1 hc1 hp
 have Yq:=(Array.getElem?_eq_some_iff.1 hp).1
 refine ZkZ (R:=ZI _) ?_;unfold n86
 simp (disch:=try exact DI) only [↓PR,QR,simprocAttr,joinK_eq,(Za hp).1,(Za hp).2]
 refine ⟨?_,λ a e hp'=>?_⟩
 · simp only [Y0,hp,Option.map_some,Y5,List.setIfInBounds_toArray,List.set_cons_zero,List.set_cons_succ,Bool.false_eq_true,if_false,if_true]
   try rfl
 · exact ee
def D9 (f:Zq):Zq:={ f with bits:=0,little:=false,low:=0 }
theorem Zag:WG 216 D9 false false:=by
 intro w p f tv cv ht1 hc1 hp
 have Yq:=(Array.getElem?_eq_some_iff.1 hp).1
 refine ZfC (R:=ZI _) ?_;unfold ZfB
 simp (disch:=try exact DI) only [↓PR,QR,simprocAttr,joinK_eq,(Za hp).1,(Za hp).2]
 refine ⟨?_,λ a e hp'=>?_⟩
 · simp only [Y0,hp,Option.map_some,Y5,List.setIfInBounds_toArray,List.set_cons_zero,List.set_cons_succ,Bool.false_eq_true,if_false,if_true]
   try rfl
 · exact ee
def Ea (f:Zq):Zq:={ f with loose:=false,low:=0,high:=0 }
theorem Zah:WG 218 Ea false false:=by
 intro w p f tv cv ht1 hc1 hp
 have Yq:=(Array.getElem?_eq_some_iff.1 hp).1
 refine ZfG (R:=ZI _) ?_;unfold ZfF
 simp (disch:=try exact DI) only [↓PR,QR,simprocAttr,joinK_eq,(Za hp).1,(Za hp).2]
 refine ⟨?_,λ a e hp'=>?_⟩
 · simp only [Y0,hp,Option.map_some,Y5,List.setIfInBounds_toArray,List.set_cons_zero,List.set_cons_succ,Bool.false_eq_true,if_false,if_true]
   try rfl
 · exact ee
def Eb (f:Zq):Zq:={ f with base:=0,terms:=[] }
theorem Zai:WG 220 Eb true false:=by
 intro w p f tv cv ht1 hc1 hp
 have Yq:=(Array.getElem?_eq_some_iff.1 hp).1
 refine ZfK (R:=ZI _) ?_;unfold ZfJ
 simp (disch:=try exact DI) only [↓PR,QR,simprocAttr,joinK_eq,(Za hp).1,(Za hp).2]
 refine ⟨?_,λ a e hp'=>?_⟩
 · simp only [Y0,hp,Option.map_some,Y5,List.setIfInBounds_toArray,List.set_cons_zero,List.set_cons_succ,Bool.false_eq_true,if_false,if_true]
   try rfl
 · exact ee
def Ec (f:Zq):Zq:={ f with low:=0,high:=0 }
theorem Zaj:WG 222 Ec false false:=by
 intro w p f tv cv ht1 hc1 hp
 have Yq:=(Array.getElem?_eq_some_iff.1 hp).1
 refine ZfM (R:=ZI _) ?_;unfold ZfL
 simp (disch:=try exact DI) only [↓PR,QR,simprocAttr,joinK_eq,(Za hp).1,(Za hp).2]
 refine ⟨?_,λ a e hp'=>?_⟩
 · simp only [Y0,hp,Option.map_some,Y5,List.setIfInBounds_toArray,List.set_cons_zero,List.set_cons_succ,Bool.false_eq_true,if_false,if_true]
   try rfl
 · exact ee
def Ed (f:Zq):Zq:={ f with loose:=false,high:=0 }
theorem Zak:WG 224 Ed false false:=by
 intro w p f tv cv ht1 hc1 hp
 have Yq:=(Array.getElem?_eq_some_iff.1 hp).1
 refine Zk0 (R:=ZI _) ?_;unfold n87
 simp (disch:=try exact DI) only [↓PR,QR,simprocAttr,joinK_eq,(Za hp).1,(Za hp).2]
 refine ⟨?_,λ a e hp'=>?_⟩
 · simp only [Y0,hp,Option.map_some,Y5,List.setIfInBounds_toArray,List.set_cons_zero,List.set_cons_succ,Bool.false_eq_true,if_false,if_true]
   try rfl
 · exact ee
def Ee (f:Zq):Zq:={ f with of:=ByteArray.empty,base:=0,terms:=[] }
theorem Zal:WG 226 Ee true false:=by
 intro w p f tv cv ht1 hc1 hp
 have Yq:=(Array.getElem?_eq_some_iff.1 hp).1
 refine Zk2 (R:=ZI _) ?_;unfold n89
 simp (disch:=try exact DI) only [↓PR,QR,simprocAttr,joinK_eq,(Za hp).1,(Za hp).2]
 refine ⟨?_,λ a e hp'=>?_⟩
 · simp only [Y0,hp,Option.map_some,Y5,List.setIfInBounds_toArray,List.set_cons_zero,List.set_cons_succ,Bool.false_eq_true,if_false,if_true]
   try rfl
 · exact ee
def Ef (f:Zq):Zq:={ f with of:=ByteArray.empty }
theorem Zam:WG 229 Ef false false:=by
 intro w p f tv cv ht1 hc1 hp
 have Yq:=(Array.getElem?_eq_some_iff.1 hp).1
 refine Zk4 (R:=ZI _) ?_;unfold n91
 simp (disch:=try exact DI) only [↓PR,QR,simprocAttr,joinK_eq,(Za hp).1,(Za hp).2]
 refine ⟨?_,λ a e hp'=>?_⟩
 · simp only [Y0,hp,Option.map_some,Y5,List.setIfInBounds_toArray,List.set_cons_zero,List.set_cons_succ,Bool.false_eq_true,if_false,if_true]
   try rfl
 · exact ee
def Eg (f:Zq):Zq:={ f with tag:=ByteArray.empty,cases:=[] }
theorem Zan:WG 231 Eg false true:=by
 intro w p f tv cv ht1 hc1 hp
 have Yq:=(Array.getElem?_eq_some_iff.1 hp).1
 refine Zk6 (R:=ZI _) ?_;unfold n93
 simp (disch:=try exact DI) only [↓PR,QR,simprocAttr,joinK_eq,(Za hp).1,(Za hp).2]
 refine ⟨?_,λ a e hp'=>?_⟩
 · simp only [Y0,hp,Option.map_some,Y5,List.setIfInBounds_toArray,List.set_cons_zero,List.set_cons_succ,Bool.false_eq_true,if_false,if_true]
   try rfl
 · exact ee
def jD (f:Zq):Zq:={ f with bits:=0 }
theorem Pe:WG 233 jD false false:=by
 intro w p f tv cv ht1 hc1 hp
 have Yq:=(Array.getElem?_eq_some_iff.1 hp).1
 refine Zk7 (R:=ZI _) ?_;unfold n94
 simp (disch:=try exact DI) only [↓PR,QR,simprocAttr,joinK_eq,(Za hp).1,(Za hp).2]
 refine ⟨?_,λ a e hp'=>?_⟩
 · simp only [Y0,hp,Option.map_some,Y5,List.setIfInBounds_toArray,List.set_cons_zero,List.set_cons_succ,Bool.false_eq_true,if_false,if_true]
   try rfl
 · exact ee
def jE (f:Zq):Zq:={ f with fr:=ByteArray.empty,check:=0 }
theorem Pf:WG 235 jE false false:=by
 intro w p f tv cv ht1 hc1 hp
 have Yq:=(Array.getElem?_eq_some_iff.1 hp).1
 refine Zk9 (R:=ZI _) ?_;unfold n96
 simp (disch:=try exact DI) only [↓PR,QR,simprocAttr,joinK_eq,(Za hp).1,(Za hp).2]
 refine ⟨?_,λ a e hp'=>?_⟩
 · simp only [Y0,hp,Option.map_some,Y5,List.setIfInBounds_toArray,List.set_cons_zero,List.set_cons_succ,Bool.false_eq_true,if_false,if_true]
   try rfl
 · exact ee
def jF (f:Zq):Zq:={ f with of:=ByteArray.empty,base:=0,terms:=[],key:=0 }
theorem Ph:WG 237 jF true false:=by
 intro w p f tv cv ht1 hc1 hp
 have Yq:=(Array.getElem?_eq_some_iff.1 hp).1
 refine Zlc (R:=ZI _) ?_;unfold n99
 simp (disch:=try exact DI) only [↓PR,QR,simprocAttr,joinK_eq,(Za hp).1,(Za hp).2]
 refine ⟨?_,λ a e hp'=>?_⟩
 · simp only [Y0,hp,Option.map_some,Y5,List.setIfInBounds_toArray,List.set_cons_zero,List.set_cons_succ,Bool.false_eq_true,if_false,if_true]
   try rfl
 · exact ee
abbrev XA:Int→Vl:=λ n => .int .i64 n
def DU (L:List (Int×Vl×Nat)):Prop:=(∀ k,¬ (1≤k∧k≤12)→Sw.look L k=none)∧Sw.look L 1=some (.agg #[.func (.func 212) #[] #[],.func (.func 213) #[] #[]])∧Sw.look L 2=some (.agg #[.func (.func 216) #[] #[],.func (.func 217) #[] #[]])∧Sw.look L 3=some (.agg #[.func (.func 218) #[] #[],.func (.func 219) #[] #[]])∧Sw.look L 4=some (.agg #[.func (.func 220) #[] #[],.func (.func 221) #[] #[]])∧Sw.look L 5=some (.agg #[.func (.func 222) #[] #[],.func (.func 223) #[] #[]])∧Sw.look L 6=some (.agg #[.func (.func 224) #[] #[],.func (.func 225) #[] #[]])∧Sw.look L 7=some (.agg #[.func (.func 226) #[] #[],.func (.func 227) #[] #[]])∧Sw.look L 8=some (.agg #[.func (.func 229) #[] #[],.func (.func 230) #[] #[]])∧Sw.look L 9=some (.agg #[.func (.func 231) #[] #[],.func (.func 232) #[] #[]])∧Sw.look L 10=some (.agg #[.func (.func 233) #[] #[],.func (.func 234) #[] #[]])∧Sw.look L 11=some (.agg #[.func (.func 235) #[] #[],.func (.func 236) #[] #[]])∧Sw.look L 12=some (.agg #[.func (.func 237) #[] #[],.func (.func 238) #[] #[]])
theorem XU {w0 w:Wd} {m c:Nat} {L:List (Int×Vl×Nat)} {QP:PEn} {ku:WPr} (hM:Xw w m XA L c) (e:Ext w0 w) (hm:w0.heap.size≤m) (k:Int) (v:Vl)
 (h:∀ w' L' c',Xw w' m XA L' c'→(∀ k',Sw.look L' k'=if k'=k then some v else Sw.look L k')→Ext w0 w'→ku w'):opU Pg (mapUpdate 257 (.map (some m)) (.int .i64 k) v) QP w ku:=by
 rw [Kq underlying257 (QC.int underlying117) hM k v]
 exact h _ _ _ (hM.put k v) (λ k'=>ya _ _ _ _ _) (e.putObj hm _)
theorem De (w0:Wd):Ret Pg 196 #[] w0 λ r w'=>∃ m L c,r = .map (some m)∧w0.heap.size≤m∧Xw w' m XA L c∧DU L∧Ext w0 w':=by
 refine ZkY (R:=ZI _) ?_;unfold n85
 simp (disch:=try exact DI) only [↓PR,QR,simprocAttr]
 have hM0:Xw (w0.alloc (.map #[] 0)) w0.heap.size XA [] 0:=Xw.new w0 _
 have e0:Ext w0 (w0.alloc (.map #[] 0)):=ee
 refine XU hM0 e0 (Nat.le_refl _) 1 _ (λ w1 L1 c1 hM1 hl1 e1=>?_)
 simp (disch:=try exact DI) only [↓PR,QR,simprocAttr]
 refine XU hM1 e1 (Nat.le_refl _) 2 _ (λ w2 L2 c2 hM2 hl2 e2=>?_)
 simp (disch:=try exact DI) only [↓PR,QR,simprocAttr]
 refine XU hM2 e2 (Nat.le_refl _) 3 _ (λ w3 L3 c3 hM3 hl3 e3=>?_)
 simp (disch:=try exact DI) only [↓PR,QR,simprocAttr]
 refine XU hM3 e3 (Nat.le_refl _) 4 _ (λ w4 L4 c4 hM4 hl4 e4=>?_)
 simp (disch:=try exact DI) only [↓PR,QR,simprocAttr]
 refine XU hM4 e4 (Nat.le_refl _) 5 _ (λ w5 L5 c5 hM5 hl5 e5=>?_)
 simp (disch:=try exact DI) only [↓PR,QR,simprocAttr]
 refine XU hM5 e5 (Nat.le_refl _) 6 _ (λ w6 L6 c6 hM6 hl6 e6=>?_)
 simp (disch:=try exact DI) only [↓PR,QR,simprocAttr]
 refine XU hM6 e6 (Nat.le_refl _) 7 _ (λ w7 L7 c7 hM7 hl7 e7=>?_)
 simp (disch:=try exact DI) only [↓PR,QR,simprocAttr]
 refine XU hM7 e7 (Nat.le_refl _) 8 _ (λ w8 L8 c8 hM8 hl8 e8=>?_)
 simp (disch:=try exact DI) only [↓PR,QR,simprocAttr]
 refine XU hM8 e8 (Nat.le_refl _) 9 _ (λ w9 L9 c9 hM9 hl9 e9=>?_)
 simp (disch:=try exact DI) only [↓PR,QR,simprocAttr]
 refine XU hM9 e9 (Nat.le_refl _) 10 _ (λ w10 L10 c10 hM10 hl10 e10=>?_)
 simp (disch:=try exact DI) only [↓PR,QR,simprocAttr]
 refine XU hM10 e10 (Nat.le_refl _) 11 _ (λ w11 L11 c11 hM11 hl11 e11=>?_)
 simp (disch:=try exact DI) only [↓PR,QR,simprocAttr]
 refine XU hM11 e11 (Nat.le_refl _) 12 _ (λ w12 L12 c12 hM12 hl12 e12=>?_)
 simp (disch:=try exact DI) only [↓PR,QR,simprocAttr]
 have hn:∀ k,Sw.look ([]:List (Int×Vl×Nat)) k=none:=λ _=>rfl
 refine ⟨_,_,_,rfl,Nat.le_refl _,hM12,⟨λ k hk=>?_,?_,?_,?_,?_,?_,?_,?_,?_,?_,?_,?_,?_⟩,e12⟩
 · rw [hl12,if_neg (by omega),hl11,if_neg (by omega),hl10,if_neg (by omega),hl9,if_neg (by omega),hl8,if_neg (by omega),hl7,if_neg (by omega),hl6,if_neg (by omega),hl5,if_neg (by omega),hl4,if_neg (by omega),hl3,if_neg (by omega),hl2,if_neg (by omega),hl1,if_neg (by omega),hn]
 · rw [hl12,if_neg (by decide),hl11,if_neg (by decide),hl10,if_neg (by decide),hl9,if_neg (by decide),hl8,if_neg (by decide),hl7,if_neg (by decide),hl6,if_neg (by decide),hl5,if_neg (by decide),hl4,if_neg (by decide),hl3,if_neg (by decide),hl2,if_neg (by decide),hl1,if_pos rfl]
 · rw [hl12,if_neg (by decide),hl11,if_neg (by decide),hl10,if_neg (by decide),hl9,if_neg (by decide),hl8,if_neg (by decide),hl7,if_neg (by decide),hl6,if_neg (by decide),hl5,if_neg (by decide),hl4,if_neg (by decide),hl3,if_neg (by decide),hl2,if_pos rfl]
 · rw [hl12,if_neg (by decide),hl11,if_neg (by decide),hl10,if_neg (by decide),hl9,if_neg (by decide),hl8,if_neg (by decide),hl7,if_neg (by decide),hl6,if_neg (by decide),hl5,if_neg (by decide),hl4,if_neg (by decide),hl3,if_pos rfl]
 · rw [hl12,if_neg (by decide),hl11,if_neg (by decide),hl10,if_neg (by decide),hl9,if_neg (by decide),hl8,if_neg (by decide),hl7,if_neg (by decide),hl6,if_neg (by decide),hl5,if_neg (by decide),hl4,if_pos rfl]
 · rw [hl12,if_neg (by decide),hl11,if_neg (by decide),hl10,if_neg (by decide),hl9,if_neg (by decide),hl8,if_neg (by decide),hl7,if_neg (by decide),hl6,if_neg (by decide),hl5,if_pos rfl]
 · rw [hl12,if_neg (by decide),hl11,if_neg (by decide),hl10,if_neg (by decide),hl9,if_neg (by decide),hl8,if_neg (by decide),hl7,if_neg (by decide),hl6,if_pos rfl]
 · rw [hl12,if_neg (by decide),hl11,if_neg (by decide),hl10,if_neg (by decide),hl9,if_neg (by decide),hl8,if_neg (by decide),hl7,if_pos rfl]
 · rw [hl12,if_neg (by decide),hl11,if_neg (by decide),hl10,if_neg (by decide),hl9,if_neg (by decide),hl8,if_pos rfl]
 · rw [hl12,if_neg (by decide),hl11,if_neg (by decide),hl10,if_neg (by decide),hl9,if_pos rfl]
 · rw [hl12,if_neg (by decide),hl11,if_neg (by decide),hl10,if_pos rfl]
 · rw [hl12,if_neg (by decide),hl11,if_pos rfl]
 · rw [hl12,if_pos rfl]
def qt (f:Zq):Zq:={ name:=f.name,kind:=f.kind,bits:=0,little:=false,loose:=false,low:=0,high:=0,base:=0,terms:=[],of:=ByteArray.empty,tag:=ByteArray.empty,fr:=ByteArray.empty,cases:=[],check:=0,key:=0 }
section
variable {w0:Wd} {cb md ms:Nat} {Zr ZC:List (BAr×Vl)} {at_ fld:Int} {fs:List Zq}
theorem Qr {a0:Wd} (e00:Ext a0 w0) (h:Chk w0 cb md ms Zr ZC at_ fld fs) (p3 p6:Nat) (f:Zq) (tv cv:Vl) (hT:ZZ w0 tv f.terms) (hC:Yl w0 cv f.cases) (o3:w0.heap[p3]?=some (.cells (Zp f tv cv).toArray 123 (0,0)))
 (g1 g2:FuncId) (o6:w0.heap[p6]?=some (.cells #[.func (.func g1) #[] #[],.func (.func g2) #[] #[]] 255 (0,0))) (hc1:Callable Pg g1) (hc2:Callable Pg g2) (cl:Zq→Zq) (ct cc:Bool) (hcl:WG g1 cl ct cc)
 (hterms:(cl f).terms=if ct then [] else f.terms) (hcases:(cl f).cases=if cc then [] else f.cases) (code:Int)
 (hchk:∀ w v,Chk w cb md ms Zr ZC at_ fld fs→Z0 w v f→Calls Pg g2 #[.pointer (some ⟨cb,0,none⟩),v] w (Qi w at_ fld code)) :
 HB (.pointer (some ⟨cb,0,none⟩)) (.pointer (some ⟨p3,0,none⟩)) (.pointer (some ⟨p6,0,none⟩)) (Qi a0 at_ fld (orC (Yr (decide (cl f=qt f)) 5) code)) w0:=by
 have ht1:=Zc.oneCell hT
 have hv1:=Zc.oneCell hC
 have l6:p6 < w0.heap.size:=(Array.getElem?_eq_some_iff.1 o6).1
 unfold HB
 simp (disch:=try exact DI) only [↓PR,QR,simprocAttr,(Za o3).1,(Za o6).1]
 have e1:Ext w0 (w0.alloc (Obj.cells (Zp f tv cv).toArray 123)):=ee
 have o7:=Zv w0 (Zp f tv cv).toArray 123
 rw [YI hc1]
 simp only [Array.empty_append,Array.append_empty]
 refine Zk (hcl _ w0.heap.size f tv cv ht1 hv1 o7) ?_
 rintro r w2 ⟨o7',hE⟩
 have e2:=hE w0 e1 (Nat.le_refl _)
 clear hE o7 e1
 have hT2:ZZ w2 (if ct then .slice none 0 0 else tv) (cl f).terms:=by
  rw [hterms]
  cases ct
  · exact ZZ.ext hT e2
  · exact Zc.nil _ _ _
 have hC2:Yl w2 (if cc then .slice none 0 0 else cv) (cl f).cases:=by
  rw [hcases]
  cases cc
  · exact Yl.ext hC e2
  · exact Zc.nil _ _ _
 generalize (if ct=true then Value.slice none 0 0 else tv)=tv2 at o7' hT2
 generalize (if cc=true then Value.slice none 0 0 else cv)=cv2 at o7' hC2
 generalize cl f=g at o7' hT2 hC2 ⊢
 have o3':=e2.obj o3
 clear hterms hcases hcl
 unfold Zde
 have hL:QU Pg w2 123 ⟨w0.heap.size,0,none⟩ (.agg (Zp g tv2 cv2).toArray):=QU.many Ve rfl (λ j v hv=>by rw [Addr.add_lit,(Za o7').1];simpa using hv)
 refine (Gr hL).mpr ?_
 simp (disch:=try exact DI) only [↓PR,QR,simprocAttr,(Za o3').1]
 refine zcr (CB w2 _ _ g (qt f) ⟨_,_,rfl,hT2,hC2⟩ ⟨.slice none 0 0,.slice none 0 0,rfl,Zc.nil _ _ _,Zc.nil _ _ _⟩) λ w3 e3=>?_
 have e23:=e2.trans e3
 refine ZR (YK (h.ext e23) _ 5 (by decide)) (λ w4 e4 h0=>?_) (λ w4 e4 h0=>?_)
 · rw [h0,Xe]
   have e24:=e23.trans e4
   simp (disch:=try exact DI) only [↓PR,QR,simprocAttr,↓Zdd,(Za (e24.obj o6)).1,(Za (e24.obj o3)).1]
   rw [YI hc2]
   simp only [Array.empty_append,Array.append_empty]
   refine ZR (hchk w4 _ (h.ext e24) ⟨tv,cv,rfl,ZZ.ext hT e24,Yl.ext hC e24⟩) (λ w5 e5 h0=>?_) (λ w5 e5 h0=>?_)
   · exact Xp (e00.trans (e24.trans e5)) h0
   · exact Ye (e00.trans (e24.trans e5)) rfl h0
 · rw [Qz h0]
   exact Ye (e00.trans (e23.trans e4)) rfl h0
end
def YQ (bef:List Zq) (Zr ZC:List (BAr×Vl)) (f:Zq):Int:=
 if f.kind=1 then orC (Yr (UM f) 6) (YC (CD f) 0 [f.low,f.high]) else
 if f.kind=2 then orC (Yr (UM f) 6) (YC (CD f) 0 [f.low]) else
 if f.kind=3 then YC 34359738367 0 [f.low,f.high] else
 if f.kind=4 then UB (X3 bef) f else
 if f.kind=5 then orC (YC 255 0 [f.low]) (YC 1048576 0 [f.high]) else
 if f.kind=6 then YC 1048576 2 [f.high] else
 if f.kind=7 then orC (Yr (Yw Zr f.of).isSome 8) (UB (X3 bef) f) else
 if f.kind=8 then Yr (Yw Zr f.of).isSome 8 else
 if f.kind=9 then Vh bef Zr f else
 if f.kind=10 then Yr (LK f) 6 else
 if f.kind=11 then orC (YC 3 1 [f.check]) (Yr (bef.any λ o=>decide (o.name=f.fr)) 8) else
 if f.kind=12 then orC (YC 4294967295 0 [f.key]) (orC (Yr (Ig ZC f.of) 8) (UB (X3 bef) f)) else 0
def Y9 (f:Zq):Zq:=
 if f.kind=1 then D8 f else
 if f.kind=2 then D9 f else
 if f.kind=3 then Ea f else
 if f.kind=4 then Eb f else
 if f.kind=5 then Ec f else
 if f.kind=6 then Ed f else
 if f.kind=7 then Ee f else
 if f.kind=8 then Ef f else
 if f.kind=9 then Eg f else
 if f.kind=10 then jD f else
 if f.kind=11 then jE f else
 if f.kind=12 then jF f else f
def X9 (bef:List Zq) (Zr ZC:List (BAr×Vl)) (f:Zq):Int:=
 orC (Yr (Z4 f.name) 1) (orC (Yr (!bef.any λ o=>decide (o.name=f.name)) 2) (orC (Yr (decide (1≤f.kind∧f.kind≤12)) 4) (orC (Yr (decide (Y9 f=qt f)) 5) (YQ bef Zr ZC f))))
section
variable {w0:Wd} {cb md ms:Nat} {Zr ZC:List (BAr×Vl)} {at_ fld:Int} {fs:List Zq}
theorem Zav {a0:Wd} (e00:Ext a0 w0) (h:Chk w0 cb md ms Zr ZC at_ fld fs) (i:Nat) (hi:fld=i) (Yq:i < fs.length) (p3 p6:Nat) (f:Zq) (tv cv:Vl) (hT:ZZ w0 tv f.terms) (hC:Yl w0 cv f.cases) (o3:w0.heap[p3]?=some (.cells (Zp f tv cv).toArray 123 (0,0)))
 (L:List (Int×Vl×Nat)) (hL:DU L) (a b:Vl) (ok:Bool) (hab:(Sw.look L f.kind).getD (.agg #[.nilFunc,.nilFunc]) = .agg #[a,b]) (hok:ok=(Sw.look L f.kind).isSome) (o6:w0.heap[p6]?=some (.cells #[a,b] 255 (0,0))) :
 ZV Pg 135 #[.pointer (some ⟨cb,0,none⟩),.bool ok,.int .i64 4] (Zd (Qi a0 at_ fld (orC (Yr (decide (1≤f.kind∧f.kind≤12)) 4) (orC (Yr (decide (Y9 f=qt f)) 5) (YQ (fs.take i) Zr ZC f))))) w0
  (λ _ w=>HB (.pointer (some ⟨cb,0,none⟩)) (.pointer (some ⟨p3,0,none⟩)) (.pointer (some ⟨p6,0,none⟩)) (Qi a0 at_ fld (orC (Yr (decide (1≤f.kind∧f.kind≤12)) 4) (orC (Yr (decide (Y9 f=qt f)) 5) (YQ (fs.take i) Zr ZC f)))) w):=by
 obtain ⟨hn,k1,k2,k3,k4,k5,k6,k7,k8,k9,k10,k11,k12⟩:=hL
 by_cases hk:1≤f.kind∧f.kind≤12
 · have hd:decide (1≤f.kind∧f.kind≤12)=true:=by simpa using hk
   rw [hd]
   show ZV _ _ _ (Zd (Qi a0 at_ fld (orC 0 _))) _ _
   simp only [show Yr true 4=0 from rfl,Xe]
   have hs:ok=true:=by
    rw [hok]
    have:f.kind=1∨f.kind=2∨f.kind=3∨f.kind=4∨f.kind=5∨f.kind=6∨f.kind=7∨f.kind=8∨f.kind=9∨f.kind=10∨f.kind=11∨f.kind=12:=by omega
    rcases this with h | h | h | h | h | h | h | h | h | h | h | h<;>simp only [h,k1,k2,k3,k4,k5,k6,k7,k8,k9,k10,k11,k12,Option.isSome_some]
   subst hs
   refine ZR (YK h true 4 (by decide)) (λ w1 e1 _=>?_) (λ w1 e1 h0=>absurd rfl h0)
   have hw:=h.ext e1
   have hT1:=ZZ.ext hT e1
   have hC1:=Yl.ext hC e1
   have o31:=e1.obj o3
   have this:f.kind=1∨f.kind=2∨f.kind=3∨f.kind=4∨f.kind=5∨f.kind=6∨f.kind=7∨f.kind=8∨f.kind=9∨f.kind=10∨f.kind=11∨f.kind=12:=by omega
   rcases this with VM | VM | VM | VM | VM | VM | VM | VM | VM | VM | VM | VM
   · rw [VM,k1,Option.getD_some] at hab
     injection hab with hab
     have hab:=congrArg Array.toList hab
     simp only [List.cons.injEq,and_true] at hab
     obtain ⟨rfl,rfl⟩:=hab
     have hcl:Y9 f=D8 f:=by unfold Y9;simp [VM]
     have hcc:YQ (fs.take i) Zr ZC f=orC (Yr (UM f) 6) (YC (CD f) 0 [f.low,f.high]):=by unfold YQ;simp [VM]
     rw [hcl,hcc]
     exact Qr (e00.trans e1) hw p3 p6 f tv cv hT1 hC1 o31 _ _ (e1.obj o6) c212 c213 D8 false false Zaf rfl rfl _ (λ w v hw hf=>TQ hw v f hf)
   · rw [VM,k2,Option.getD_some] at hab
     injection hab with hab
     have hab:=congrArg Array.toList hab
     simp only [List.cons.injEq,and_true] at hab
     obtain ⟨rfl,rfl⟩:=hab
     have hcl:Y9 f=D9 f:=by unfold Y9;simp [VM]
     have hcc:YQ (fs.take i) Zr ZC f=orC (Yr (UM f) 6) (YC (CD f) 0 [f.low]):=by unfold YQ;simp [VM]
     rw [hcl,hcc]
     exact Qr (e00.trans e1) hw p3 p6 f tv cv hT1 hC1 o31 _ _ (e1.obj o6) Zi9 Zja D9 false false Zag rfl rfl _ (λ w v hw hf=>NH hw v f hf)
   · rw [VM,k3,Option.getD_some] at hab
     injection hab with hab
     have hab:=congrArg Array.toList hab
     simp only [List.cons.injEq,and_true] at hab
     obtain ⟨rfl,rfl⟩:=hab
     have hcl:Y9 f=Ea f:=by unfold Y9;simp [VM]
     have hcc:YQ (fs.take i) Zr ZC f=YC 34359738367 0 [f.low,f.high]:=by unfold YQ;simp [VM]
     rw [hcl,hcc]
     exact Qr (e00.trans e1) hw p3 p6 f tv cv hT1 hC1 o31 _ _ (e1.obj o6) Zjb Zjc Ea false false Zah rfl rfl _ (λ w v hw hf=>Mq hw v f hf)
   · rw [VM,k4,Option.getD_some] at hab
     injection hab with hab
     have hab:=congrArg Array.toList hab
     simp only [List.cons.injEq,and_true] at hab
     obtain ⟨rfl,rfl⟩:=hab
     have hcl:Y9 f=Eb f:=by unfold Y9;simp [VM]
     have hcc:YQ (fs.take i) Zr ZC f=UB (X3 (fs.take i)) f:=by unfold YQ;simp [VM]
     rw [hcl,hcc]
     exact Qr (e00.trans e1) hw p3 p6 f tv cv hT1 hC1 o31 _ _ (e1.obj o6) Zjd ZdL Eb true false Zai rfl rfl _ (λ w v hw hf=>ql hw i hi Yq v f hf)
   · rw [VM,k5,Option.getD_some] at hab
     injection hab with hab
     have hab:=congrArg Array.toList hab
     simp only [List.cons.injEq,and_true] at hab
     obtain ⟨rfl,rfl⟩:=hab
     have hcl:Y9 f=Ec f:=by unfold Y9;simp [VM]
     have hcc:YQ (fs.take i) Zr ZC f=orC (YC 255 0 [f.low]) (YC 1048576 0 [f.high]):=by unfold YQ;simp [VM]
     rw [hcl,hcc]
     exact Qr (e00.trans e1) hw p3 p6 f tv cv hT1 hC1 o31 _ _ (e1.obj o6) Zje Zjf Ec false false Zaj rfl rfl _ (λ w v hw hf=>OK hw v f hf)
   · rw [VM,k6,Option.getD_some] at hab
     injection hab with hab
     have hab:=congrArg Array.toList hab
     simp only [List.cons.injEq,and_true] at hab
     obtain ⟨rfl,rfl⟩:=hab
     have hcl:Y9 f=Ed f:=by unfold Y9;simp [VM]
     have hcc:YQ (fs.take i) Zr ZC f=YC 1048576 2 [f.high]:=by unfold YQ;simp [VM]
     rw [hcl,hcc]
     exact Qr (e00.trans e1) hw p3 p6 f tv cv hT1 hC1 o31 _ _ (e1.obj o6) Zjg Zjh Ed false false Zak rfl rfl _ (λ w v hw hf=>Hc hw v f hf)
   · rw [VM,k7,Option.getD_some] at hab
     injection hab with hab
     have hab:=congrArg Array.toList hab
     simp only [List.cons.injEq,and_true] at hab
     obtain ⟨rfl,rfl⟩:=hab
     have hcl:Y9 f=Ee f:=by unfold Y9;simp [VM]
     have hcc:YQ (fs.take i) Zr ZC f=orC (Yr (Yw Zr f.of).isSome 8) (UB (X3 (fs.take i)) f):=by unfold YQ;simp [VM]
     rw [hcl,hcc]
     exact Qr (e00.trans e1) hw p3 p6 f tv cv hT1 hC1 o31 _ _ (e1.obj o6) Zji Zjj Ee true false Zal rfl rfl _ (λ w v hw hf=>PW hw i hi Yq v f hf)
   · rw [VM,k8,Option.getD_some] at hab
     injection hab with hab
     have hab:=congrArg Array.toList hab
     simp only [List.cons.injEq,and_true] at hab
     obtain ⟨rfl,rfl⟩:=hab
     have hcl:Y9 f=Ef f:=by unfold Y9;simp [VM]
     have hcc:YQ (fs.take i) Zr ZC f=Yr (Yw Zr f.of).isSome 8:=by unfold YQ;simp [VM]
     rw [hcl,hcc]
     exact Qr (e00.trans e1) hw p3 p6 f tv cv hT1 hC1 o31 _ _ (e1.obj o6) Zjk Zjl Ef false false Zam rfl rfl _ (λ w v hw hf=>Hs hw v f hf)
   · rw [VM,k9,Option.getD_some] at hab
     injection hab with hab
     have hab:=congrArg Array.toList hab
     simp only [List.cons.injEq,and_true] at hab
     obtain ⟨rfl,rfl⟩:=hab
     have hcl:Y9 f=Eg f:=by unfold Y9;simp [VM]
     have hcc:YQ (fs.take i) Zr ZC f=Vh (fs.take i) Zr f:=by unfold YQ;simp [VM]
     rw [hcl,hcc]
     exact Qr (e00.trans e1) hw p3 p6 f tv cv hT1 hC1 o31 _ _ (e1.obj o6) Zjm c232 Eg false true Zan rfl rfl _ (λ w v hw hf=>Ny hw i hi Yq v f hf)
   · rw [VM,k10,Option.getD_some] at hab
     injection hab with hab
     have hab:=congrArg Array.toList hab
     simp only [List.cons.injEq,and_true] at hab
     obtain ⟨rfl,rfl⟩:=hab
     have hcl:Y9 f=jD f:=by unfold Y9;simp [VM]
     have hcc:YQ (fs.take i) Zr ZC f=Yr (LK f) 6:=by unfold YQ;simp [VM]
     rw [hcl,hcc]
     exact Qr (e00.trans e1) hw p3 p6 f tv cv hT1 hC1 o31 _ _ (e1.obj o6) c233 Zjn jD false false Pe rfl rfl _ (λ w v hw hf=>Za8 hw v f hf)
   · rw [VM,k11,Option.getD_some] at hab
     injection hab with hab
     have hab:=congrArg Array.toList hab
     simp only [List.cons.injEq,and_true] at hab
     obtain ⟨rfl,rfl⟩:=hab
     have hcl:Y9 f=jE f:=by unfold Y9;simp [VM]
     have hcc:YQ (fs.take i) Zr ZC f=orC (YC 3 1 [f.check]) (Yr ((fs.take i).any λ o=>decide (o.name=f.fr)) 8):=by unfold YQ;simp [VM]
     rw [hcl,hcc]
     exact Qr (e00.trans e1) hw p3 p6 f tv cv hT1 hC1 o31 _ _ (e1.obj o6) Zjo Zjp jE false false Pf rfl rfl _ (λ w v hw hf=>NG hw i hi Yq v f hf)
   · rw [VM,k12,Option.getD_some] at hab
     injection hab with hab
     have hab:=congrArg Array.toList hab
     simp only [List.cons.injEq,and_true] at hab
     obtain ⟨rfl,rfl⟩:=hab
     have hcl:Y9 f=jF f:=by unfold Y9;simp [VM]
     have hcc:YQ (fs.take i) Zr ZC f=orC (YC 4294967295 0 [f.key]) (orC (Yr (Ig ZC f.of) 8) (UB (X3 (fs.take i)) f)):=by unfold YQ;simp [VM]
     rw [hcl,hcc]
     exact Qr (e00.trans e1) hw p3 p6 f tv cv hT1 hC1 o31 _ _ (e1.obj o6) Zjq Zjr jF true false Ph rfl rfl _ (λ w v hw hf=>TS hw i hi Yq v f hf)
 · have hd:decide (1≤f.kind∧f.kind≤12)=false:=by simpa using hk
   rw [hd]
   have hs:ok=false:=by rw [hok,hn _ hk];rfl
   subst hs
   refine ZR (YK h false 4 (by decide)) (λ w1 e1 h0=>absurd h0 (by decide)) (λ w1 e1 h0=>?_)
   exact Ye (e00.trans e1) rfl h0
end
section
variable {w0:Wd} {cb md ms:Nat} {Zr ZC:List (BAr×Vl)} {at_ fld:Int} {fs:List Zq}
theorem FV (h:Chk w0 cb md ms Zr ZC at_ fld fs) (i:Nat) (hi:fld=i) (Yq:i < fs.length) (v:Vl) (f:Zq) (hf:Z0 w0 v f) :
 Calls Pg 161 #[.pointer (some ⟨cb,0,none⟩),v] w0 (Qi w0 at_ fld (X9 (fs.take i) Zr ZC f)):=by
 obtain ⟨tv,cv,rfl,hT,hC,ht1,hc1⟩:=hf.op
 refine ZkN ?_;unfold n75
 simp (disch:=try exact DI) only [↓PR,QR,simprocAttr]
 generalize hW:World.alloc w0 _=W
 have e0:Ext w0 W:=by rw [← hW];exact ee
 have o3:W.heap[w0.heap.size]?=some (.cells (Zp f tv cv).toArray 123 (0,0)):=by rw [← hW];simp (disch:=try exact DI) only [↓PR,QR,simprocAttr]
 clear hW
 refine zcr (UG _ f.name) λ w1 e1=>?_
 have e01:=e0.trans e1
 unfold X9
 refine ZR (YK (h.ext e01) _ 1 (by decide)) (λ w2 e2 h0=>?_) (λ w2 e2 h0=>?_)
 · rw [h0,Xe]
   have e02:=e01.trans e2
   have o32:=(e1.trans e2).obj o3
   refine ZE ?_
   simp (disch:=try exact DI) only [↓PR,QR,simprocAttr,↓Zdi,(Za o32).1]
   have eD:Ext w0 w2.drew:=e02.wdrew
   refine Zk (WH (h.ext eD) i hi Yq) ?_
   rintro bv w3 ⟨hB,e3⟩
   refine ⟨e3,?_⟩
   have hb1:=Zc.oneCell hB
   simp (disch:=try exact DI) only [↓PR,QR,simprocAttr]
   refine zcr (xe w3 _ ⟨ByteArray.empty,fs.take i⟩ f.name ⟨bv,rfl,hB⟩) λ w4 e4=>?_
   refine ⟨e3.trans e4,?_⟩
   simp (disch:=try exact DI) only [↓PR,QR,simprocAttr,↓Zdh]
   have e04:=eD.trans (e3.trans e4)
   have e24:Ext w2 w4:=(Ext.refl w2).wdrew.trans (e3.trans e4)
   refine ZR (YK (h.ext e04) _ 2 (by decide)) (λ w5 e5 h0=>?_) (λ w5 e5 h0=>?_)
   · rw [h0,Xe]
     have e05:=e04.trans e5
     have o35:=(e24.trans e5).obj o32
     clear e24 e04 e3 e4 hB eD e02 e01 e1 e2 o32
     refine ZE ?_
     simp (disch:=try exact DI) only [↓PR,QR,simprocAttr,↓Zdg,(Za o35).1]
     have eD:Ext w5 w5.drew:=(Ext.refl _).wdrew
     have fin5:∀ (w':Wd) (m p6 c:Nat) (L:List (Int×Vl×Nat)) (u0 u1:Vl),Ext w5.drew w'→Xw w' m XA L c→DU L→w'.heap[p6]?=some (.cells #[u0,u1] 255 (0,0))→w5.heap.size≤p6 →
      MS (.pointer (some ⟨p6,0,none⟩)) (.map (some m)) (.int .i64 f.kind) (KM w5.drew m XA L c) (λ t5 t6 w=>ZV Pg 135 #[.pointer (some ⟨cb,0,none⟩),t5,.int .i64 4] (Zd (Qi w0 at_ fld (orC (Yr (decide (1≤f.kind∧f.kind≤12)) 4) (orC (Yr (decide (Y9 f=qt f)) 5) (YQ (fs.take i) Zr ZC f))))) w λ _ w=>HB (.pointer (some ⟨cb,0,none⟩)) (.pointer (some ⟨w0.heap.size,0,none⟩)) t6 (Qi w0 at_ fld (orC (Yr (decide (1≤f.kind∧f.kind≤12)) 4) (orC (Yr (decide (Y9 f=qt f)) 5) (YQ (fs.take i) Zr ZC f)))) w)
       (Qi w0 at_ fld (orC (Yr (decide (1≤f.kind∧f.kind≤12)) 4) (orC (Yr (decide (Y9 f=qt f)) 5) (YQ (fs.take i) Zr ZC f)))) w':=by
      intro w' m p6 c L u0 u1 e' hM hL o6 hp6
      haveI:Yv (KM w5.drew m XA L c):=⟨⟨w',e',hM⟩⟩
      unfold MS
      rw [W9 underlying257 (QC.int underlying117) Im ⟨w',e',hM⟩]
      obtain ⟨a,b,hab,ha,hb⟩:∃ a b,(Sw.look L f.kind).getD (.agg #[.nilFunc,.nilFunc]) = .agg #[a,b]∧a.oneCell'=true∧b.oneCell'=true:=by
       obtain ⟨hn,k1,k2,k3,k4,k5,k6,k7,k8,k9,k10,k11,k12⟩:=hL
       by_cases hk:1≤f.kind∧f.kind≤12
       · have this:f.kind=1∨f.kind=2∨f.kind=3∨f.kind=4∨f.kind=5∨f.kind=6∨f.kind=7∨f.kind=8∨f.kind=9∨f.kind=10∨f.kind=11∨f.kind=12:=by omega
         rcases this with h | h | h | h | h | h | h | h | h | h | h | h<;>simp only [h,k1,k2,k3,k4,k5,k6,k7,k8,k9,k10,k11,k12,Option.getD_some]<;>exact ⟨_,_,rfl,rfl,rfl⟩
       · rw [hn _ hk];exact ⟨_,_,rfl,rfl,rfl⟩
      rw [hab]
      simp (disch:=try exact DI) only [↓PR,QR,simprocAttr,(Za o6).1,(Za o6).2]
      have e6:Ext w5.drew ((w'.setCell ⟨p6,0,none⟩ a).setCell ⟨p6,1,none⟩ b):=(e'.setCell (show w5.drew.heap.size≤(⟨p6,0,none⟩:Addr).block from hp6) _).setCell (show w5.drew.heap.size≤(⟨p6,1,none⟩:Addr).block from hp6) _
      refine ⟨⟨e6,(hM.setCell _ _).setCell _ _⟩,?_⟩
      have e06:=(e05.trans eD).trans e6
      have o6':=Zw (o:=1) (Zw (o:=0) o6 a) b
      exact Zav e06 (h.ext e06) i hi Yq _ p6 f tv cv (ZZ.ext hT e06) (Yl.ext hC e06) ((eD.trans e6).obj o35) L hL a b _ hab rfl (by simpa using o6')
     refine ⟨?_,?_⟩
     · refine Zk (De _) ?_
       rintro _ w6 ⟨m,L,c,rfl,hm,hM,hL,e6⟩
       refine VQ e6 hM ?_
       have h9:=fin5 (w6.alloc (.cells #[.nilFunc,.nilFunc] 255)) m w6.heap.size c L _ _ (e6.alloc _) (hM.ext ((Ext.refl _).alloc _)) hL (Zv _ _ _) (by have:=e6.size;simpa using this)
       unfold MS at h9
       unfold Zdf
       simp only [Ke]
       haveI:Yv (KM w5.drew m XA L c):=⟨⟨w6,e6,hM⟩⟩
       rw [W9 underlying257 (QC.int underlying117) Im ⟨w6,e6,hM⟩] at h9 ⊢
       simp (disch:=try exact DI) only [↓PR,QR,simprocAttr]
       simp only [↓Sw.GENQ] at h9
       exact ⟨⟨e6.alloc _,hM.ext ((Ext.refl _).alloc _)⟩,h9⟩
     · refine ⟨(Ext.refl _).alloc _,?_⟩
       refine Zk (De _) ?_
       rintro _ w6 ⟨m,L,c,rfl,hm,hM,hL,e6⟩
       refine VQ (((Ext.refl _).alloc _).trans e6) hM ?_
       exact fin5 w6 m w5.heap.size c L _ _ (((Ext.refl _).alloc _).trans e6) hM hL (e6.obj (Zv w5.drew _ _)) (Nat.le_refl _)
   · rw [Qz h0]
     exact Ye (e04.trans e5) rfl h0
 · rw [Qz h0]
   exact Ye (e01.trans e2) rfl h0
end
def Yy (f:Zq):List BAr:=if f.kind=7∨f.kind=8∨f.kind=12 then [f.of] else if f.kind=9 then f.cases.map (·.of) else []
def YW (l:List Zq):List BAr:=l.flatMap Yy
abbrev Xu (s:BAr):List Vl:=[.string s]
theorem VD {w:Wd} {QP:PEn} {k:KV} {base:Nat} {v:Vl} {l:List BAr} (s:BAr) {b:Nat} (xv:ZW w base 9 1 Xu v l) (hc:w.cell? ⟨b,0,none⟩=some (.string s)) (UT:base≤w.heap.size) (hl:l.length≤1048576)
 (hk:∀ v' w',ZW w' base 9 1 Xu v' (l++[s])→w.grownBy w' v.ownBlock→k v' w') :
 opV Pg (Builtin.append_ #[94,94] 94 #[v,.slice (some ⟨b,0,none⟩) 1 1]) QP w k:=by
 have hby:=by9
 refine We (l':=[s]) underlying94 ty9 rfl (by decide) (λ _=>rfl) (λ x _ u hu=>by simp at hu;subst hu;rfl) xv (λ j x hx=>?_) UT ?_ (by simp;omega) hk
 · cases j with
   | zero=>
    simp at hx;subst hx
    intro j v hv
    cases j with
    | zero=>simp at hv;subst hv;simpa using hc
    | succ j=>simp at hv
   | succ j=>simp at hx
 · simp only [List.length_cons,List.length_nil]
   exact Nat.le_trans (Nat.mul_le_mul (Nat.add_le_add_right hl 1) hby) (by decide)
def Qe (w:Wd) (pb:Nat) (sv:Vl) (l:List BAr):Prop:=w.cell? ⟨pb,0,none⟩=some sv∧Zc w 1 zH sv l∧∀ A m c,sv = .slice (some A) m c→pb < A.block
theorem Qe.ext {w w':Wd} {pb:Nat} {sv:Vl} {l:List BAr} (h:Qe w pb sv l) (e:Ext w w'):Qe w' pb sv l:=⟨e.cell h.1,h.2.1.ext Gj e,h.2.2⟩
theorem qq {w0 w:Wd} {QP:PEn} {ku:WPr} {pb lo p:Nat} {sv:Vl} {l:List BAr} (s:BAr) {T T':TypeId} (hp:p=w.heap.size) (e:Ext w0 w) (h0:w0.heap.size≤pb) (hlo:pb < lo) (o3:w.heap[pb]?=some (.cells #[sv] T (0,0))) (hO:ZW w lo 9 1 Xu sv l) (hs:lo≤w.heap.size) (hl:l.length≤1048576)
 (hk:∀ w' sv',Ext w0 w'→w'.heap[pb]?=some (.cells #[sv'] T (0,0))→ZW w' lo 9 1 Xu sv' (l++[s])→lo≤w'.heap.size→ku w') :
 opV Pg (Builtin.append_ #[94,94] 94 #[sv,.slice (some ⟨p,0,none⟩) 1 1]) QP (w.alloc (.cells #[.string s] T')) (λ t w=>opU Pg (storeAt 94 (.pointer (some ⟨pb,0,none⟩)) t) QP w ku):=by
 subst hp
 have l3:pb < w.heap.size:=(Array.getElem?_eq_some_iff.1 o3).1
 have o3':=((Ext.refl w).alloc (.cells #[.string s] T')).obj o3
 refine VD s (hO.ext ((Ext.refl w).alloc _)) (by rw [QF];rfl) (Nat.le_trans hs (by simp)) hl ?_
 intro v' w' hO' hg
 have YN:some pb≠sv.ownBlock:=by
  intro h
  have:=hO.lt pb h.symm
  omega
 have o3w:w'.heap[pb]?=some (.cells #[sv] T (0,0)):=by rw [hg.block pb (by simp;omega) YN];exact o3'
 have eg:Ext w0 w':=(e.alloc _).grown hg (λ k hk=>by have:=hO.lt k hk;omega)
 have hv:=(hO'.slice (E:=zH) (λ _=>rfl) (λ _ _=>rfl)).oneCell
 rw [Dz Zbr hv ((Za o3w).1 0) ((Za o3w).2 0)]
 refine hk _ v' (eg.setCell h0 _) ?_ ((hO'.range.only (YG.setCell w' pb 0 v') (.inr (.inl hlo))).1) ?_
 · have:=Zw (o:=0) o3w v'
   simpa using this
 · have:=hg.size
   simp at this ⊢
   omega
theorem jX (w0:Wd) (v:Vl) (m:YT) (hm:Wa w0 v m) (hb:(YW m.fields).length≤1048576) :
 Ret Pg 162 #[v] w0 λ r w'=>∃ pb sv,r = .func (.func 198) #[] #[.pointer (some ⟨pb,0,none⟩)]∧Qe w' pb sv (YW m.fields)∧w0.heap.size≤pb∧Ext w0 w':=by
 obtain ⟨fv,rfl,hF⟩:=hm
 obtain ⟨A,c,rfl,hlc,hcm,hlm,Y1⟩:=Zc.open hF
 refine ZkH (R:=ZI _) ?_;unfold n68
 simp (disch:=try exact DI) only [↓PR,QR,simprocAttr]
 generalize hW:World.alloc (World.alloc w0 _) _=W
 have e0:Ext w0 W:=by rw [← hW];exact ee
 have Jj:W.heap.size=w0.heap.size+1+1:=by rw [← hW];simp only [World.size_alloc]
 have o3:W.heap[w0.heap.size+1]?=some (.cells #[.slice none 0 0] 94 (0,0)):=by rw [← hW];simp (disch:=try exact DI) only [↓PR,QR,simprocAttr]
 clear hW
 refine ZJ (λ a0 w=>∃ (k:Nat) , a0 = .int .i64 (k:Int)∧k≤m.fields.length∧Ext w0 w∧(∃ sv,w.heap[w0.heap.size+1]?=some (.cells #[sv] 94 (0,0))∧ZW w W.heap.size 9 1 Xu sv (YW (m.fields.take k))∧W.heap.size≤w.heap.size)) (λ a0 _=>m.fields.length - (intOf a0).toNat) ⟨0,rfl,Nat.zero_le _,ee,⟨_,o3,ZW.nil _ _ _ _ _,Nat.le_refl _⟩⟩ ?_
 rintro _ w ⟨k,rfl,hk,e,hI⟩
 have se:=e.size
 rcases ZT hk with ⟨x,hx,hd,Yq,ZY⟩ | ⟨hk,hd,ZY⟩
 · obtain ⟨sv,o3,hO,hsW⟩:=hI
   obtain ⟨b,o,cs,rfl,hl,hA,hE⟩:=Y1 k x hx
   obtain ⟨tv,cv,rfl,hT,hC,ht1,hc1⟩:=hE.op
   have hpre:(YW (m.fields.take (k+1)))=YW (m.fields.take k)++Yy x:=by unfold YW;rw [Qw hx,List.flatMap_append];simp
   have hle:(YW (m.fields.take (k+1))).length≤1048576:=by
    refine Nat.le_trans ?_ hb
    have:m.fields=m.fields.take (k+1)++m.fields.drop (k+1):=(List.take_append_drop _ _).symm
    conv=>rhs;rw [this]
    unfold YW
    rw [List.flatMap_append,List.length_append]
    omega
   rw [hpre,List.length_append] at hle
   have hsv:=(hO.slice (E:=zH) (λ _=>rfl) (λ _ _=>rfl)).oneCell
   simp (disch:=try exact DI) only [↓PR,QR,simprocAttr,↓qQ,↓qR,↓qS,↓yl,↓GE,↓qT,↓qU,ZY,hA.c15]
   generalize hW1:World.alloc w _=w1
   have e1:Ext w w1:=by rw [← hW1];exact ee
   have o5:w1.heap[w.heap.size]?=some (.cells (Zp x tv cv).toArray 123 (0,0)):=by rw [← hW1];simp (disch:=try exact DI) only [↓PR,QR,simprocAttr]
   clear hW1
   have s1:=e1.size
   have e01:=e.trans e1
   have o31:=e1.obj o3
   have hO1:=hO.ext e1
   have l5:w.heap.size < w1.heap.size:=(Array.getElem?_eq_some_iff.1 o5).1
   have l3:w0.heap.size+1 < w1.heap.size:=(Array.getElem?_eq_some_iff.1 o31).1
   by_cases hr:x.kind=7∨x.kind=8∨x.kind=12
   · have hrf:Yy x=[x.of]:=by unfold Yy;rw [if_pos hr]
     rw [hrf] at hpre hle
     have key:∀ b,b=true→yl (.pointer (some ⟨w0.heap.size+1,0,none⟩)) (.pointer (some ⟨w.heap.size,0,none⟩)) (.int .i64 (k:Int)) (.int .i64 x.kind) (.bool b) (λ a0' w'=>(∃ k:Nat,a0'=Value.int IntKind.i64 (k:Int)∧k≤m.fields.length∧Ext w0 w'∧∃ sv,w'.heap[w0.heap.size+1]?=some (.cells #[sv] 94 (0,0))∧ZW w' W.heap.size 9 1 Xu sv (YW (m.fields.take k))∧W.heap.size≤w'.heap.size)∧m.fields.length - (intOf a0').toNat < m.fields.length - (intOf (Value.int IntKind.i64 (k:Int))).toNat)
      (ZI λ r w'=>∃ pb sv,r = .func (.func 198) #[] #[.pointer (some ⟨pb,0,none⟩)]∧Qe w' pb sv (YW m.fields)∧w0.heap.size≤pb∧Ext w0 w') w1:=by
      rintro b rfl
      simp (disch:=try exact DI) only [↓PR,QR,simprocAttr,↓qQ,↓qR,↓qS,↓yl,↓GE,↓qT,↓qU,(Za o31).1,(Za o5).1]
      refine qq x.of rfl e01 (by omega) (by omega) o31 hO1 (by omega) (by simp at hle;omega) ?_
      intro w2 sv2 e2 o32 hO2 hs2
      rw [← hpre] at hO2
      simp (disch:=try exact DI) only [↓PR,QR,simprocAttr]
      exact ⟨⟨k+1,rfl,by omega,ee,⟨sv2,o32,hO2,hs2⟩⟩,Ya (kd := .i64) Yq⟩
     simp only [World.size_alloc]
     rcases hr with h | h | h
     · rw [h] at key ⊢
       simp (disch:=try exact DI) only [↓PR,QR,simprocAttr]
       exact key true rfl
     · rw [h] at key ⊢
       simp (disch:=try exact DI) only [↓PR,QR,simprocAttr,↓GE]
       exact key true rfl
     · rw [h] at key ⊢
       simp (disch:=try exact DI) only [↓PR,QR,simprocAttr,↓GE]
       exact key true rfl
   · have h7:(x.kind == 7)=false:=by simp;omega
     have h8:(x.kind == 8)=false:=by simp;omega
     have h12:(x.kind == 12)=false:=by simp;omega
     simp only [World.size_alloc]
     by_cases h9:x.kind=9
     · have h9':(x.kind == 9)=true:=by simp [h9]
       have hrf:Yy x=x.cases.map (·.of):=by unfold Yy;rw [if_neg hr,if_pos h9]
       rw [hrf] at hpre hle
       obtain ⟨A',c',rfl,hlc',hcm',hlm',hel'⟩:=Zc.open hC
       simp (disch:=try exact DI) only [↓PR,QR,simprocAttr,↓qQ,↓qR,↓qS,↓yl,↓GE,↓qT,↓qU,h7,h8,h12,h9',(Za o5).1]
       refine ZJ (λ a0 wa=>∃ (ka:Nat) , a0 = .int .i64 (ka:Int)∧ka≤x.cases.length∧Ext w0 wa∧(∃ sv,wa.heap[w0.heap.size+1]?=some (.cells #[sv] 94 (0,0))∧ZW wa W.heap.size 9 1 Xu sv (YW (m.fields.take k)++(x.cases.take ka).map (·.of))∧W.heap.size≤wa.heap.size)) (λ a0 _=>x.cases.length - (intOf a0).toNat) ⟨0,rfl,Nat.zero_le _,ee,⟨sv,o31,by simpa using hO1,by omega⟩⟩ ?_
       rintro _ wa ⟨ka,rfl,hka,ea,hIa⟩
       have sea:=ea.size
       rcases ZT hka with ⟨xa,hxa,hda,hlta,PA⟩ | ⟨hka,hda,PA⟩
       · obtain ⟨sva,oa,hOa,hsa⟩:=hIa
         obtain ⟨b',o',cs',rfl,_,hA',rfl⟩:=hel' ka xa hxa
         have la:w0.heap.size+1 < wa.heap.size:=(Array.getElem?_eq_some_iff.1 oa).1
         have oa':=((Ext.refl wa).alloc (.cells #[.int .i64 xa.low,.int .i64 xa.high,.string xa.of] 213)).obj oa
         have hla:(x.cases.take ka).length≤x.cases.length:=by rw [List.length_take];omega
         simp (disch:=try exact DI) only [↓PR,QR,simprocAttr,↓qQ,↓qR,↓qS,↓yl,↓GE,↓qT,↓qU,PA,hA'.c3,(Za oa').1,(Za oa).1]
         refine qq xa.of (by simp only [World.size_alloc]) (ea.alloc _) (by omega) (by omega) oa' (hOa.ext ((Ext.refl wa).alloc _)) (by simp;omega) (by simp at hle hla ⊢;omega) ?_
         intro w2 sv2 e2 o32 hO2 hs2
         simp (disch:=try exact DI) only [↓PR,QR,simprocAttr]
         have hO3:ZW w2 W.heap.size 9 1 Xu sv2 (YW (m.fields.take k)++(x.cases.take (ka+1)).map (·.of)):=by
          rw [Qw hxa,List.map_append,← List.append_assoc];exact hO2
         exact ⟨⟨ka+1,rfl,by omega,ee,⟨sv2,o32,hO3,hs2⟩⟩,Ya (kd := .i64) hlta⟩
       · subst hka
         obtain ⟨sva,oa,hOa,hsa⟩:=hIa
         rw [List.take_length,← hpre] at hOa
         simp (disch:=try exact DI) only [↓PR,QR,simprocAttr,↓qQ,↓qR,↓qS,↓yl,↓GE,↓qT,↓qU,PA]
         exact ⟨⟨k+1,rfl,by omega,ee,⟨sva,oa,hOa,hsa⟩⟩,Ya (kd := .i64) Yq⟩
     · have h9':(x.kind == 9)=false:=by simp;omega
       have hrf:Yy x=[]:=by unfold Yy;rw [if_neg hr,if_neg h9]
       rw [hrf,List.append_nil] at hpre
       rw [← hpre] at hO1
       simp (disch:=try exact DI) only [↓PR,QR,simprocAttr,↓qQ,↓qR,↓qS,↓yl,↓GE,↓qT,↓qU,h7,h8,h12,h9',(Za o5).1]
       exact ⟨⟨k+1,rfl,by omega,ee,⟨sv,o31,hO1,by omega⟩⟩,Ya (kd := .i64) Yq⟩
 · subst hk
   obtain ⟨sv,o3,hO,hsW⟩:=hI
   rw [List.take_length] at hO
   simp (disch:=try exact DI) only [↓PR,QR,simprocAttr,↓qQ,↓qR,↓qS,↓yl,↓GE,↓qT,↓qU,ZY]
   have hS:=hO.slice (E:=zH) (λ _=>rfl) (λ _ _=>rfl)
   exact ⟨_,sv,rfl,⟨(Za o3).1 0,hS,λ A m c e=>by subst e;have:=hO.lt A.block rfl;omega⟩,by omega,e⟩
theorem xf (w0:Wd) (v:Vl) (l:List BAr) (s:BAr) (hs:Zc w0 1 zH v l) :
 Ret Pg 167 #[v,.string s] w0 λ r w'=>r = .int .i64 (idx (λ y=>decide (s=y)) l)∧Ext w0 w':=by
 obtain ⟨A,c,rfl,hlc,hcm,hlm,Y1⟩:=Zc.open hs
 refine Zhi (R:=ZI _) ?_;unfold Zhh
 simp (disch:=try exact DI) only [↓PR,QR,simprocAttr]
 refine ZJ (λ a0 w=>∃ (k:Nat) , a0 = .int .i64 (k:Int)∧k≤l.length∧Ext w0 w∧∀ (j:Nat) y,j < k→l[j]?=some y→decide (s=y)=false) (λ a0 _=>l.length - (intOf a0).toNat) ⟨0,rfl,Nat.zero_le _,ee,λ j y h=>by omega⟩ ?_
 rintro _ w ⟨k,rfl,hk,e,hI⟩
 have se:=e.size
 rcases ZT hk with ⟨x,hx,hd,Yq,ZY⟩ | ⟨hk,hd,ZY⟩
 · obtain ⟨b,o,cs,rfl,hl,hA,rfl⟩:=Y1 k x hx
   simp (disch:=try exact DI) only [↓PR,QR,simprocAttr,ZY,hA.c1,↓I4]
   cases hp:decide (s=x) with
   | true=>
    simp (disch:=try exact DI) only [↓PR,QR,simprocAttr]
    exact ⟨by rw [Q2 hx hp hI],e⟩
   | false=>
    simp (disch:=try exact DI) only [↓PR,QR,simprocAttr]
    exact ⟨⟨k+1,rfl,by omega,ee,before_succ hI hx hp⟩,Ya (kd := .i64) Yq⟩
 · subst hk
   simp (disch:=try exact DI) only [↓PR,QR,simprocAttr,ZY,↓I4]
   exact ⟨by rw [Q3 λ j y hy=>hI j y (List.getElem?_eq_some_iff.1 hy).1 hy],e⟩
theorem QW (w0:Wd) (v:Vl) (l:List BAr) (s:BAr) (hs:Zc w0 1 zH v l) :
 Ret Pg 142 #[v,.string s] w0 λ r w'=>r = .bool (l.any λ y=>decide (s=y))∧Ext w0 w':=by
 refine ZgM (R:=ZI _) ?_;unfold ZgL
 refine Zk (xf _ _ l s hs) ?_
 rintro r w' ⟨rfl,e⟩
 simp (disch:=try exact DI) only [↓PR,QR,simprocAttr,joinK_eq]
 exact ⟨by rw [Vu],e⟩
def Z3:List BAr→List BAr→List BAr
 | _,[]=>[]
 | seen,s::l=>if seen.any (λ y=>decide (s=y)) then Z3 (seen++[s]) l else s::Z3 (seen++[s]) l
def OC (l:List BAr) (k:Nat):Vl:=match l[k]? with
 | some s => .string s
 | none=>undef
theorem Iv (pb:Nat) (sv:Vl) (l:List BAr):Mt Pg 198 #[.pointer (some ⟨pb,0,none⟩)] (Z3 [] l).length (OC (Z3 [] l)) (λ w=>Qe w pb sv l):=by
 intro yv J Jx Jp w hFP hJe hJx XY h0
 obtain ⟨hc,hT,_⟩:=hFP 0 w h0
 obtain ⟨A,c,rfl,hlc,hcm,hlm,Y1⟩:=Zc.open hT
 refine Zhr (t0:=yv) (t1 := .pointer (some ⟨pb,0,none⟩)) ?_
 unfold n69
 simp (disch:=try exact DI) only [↓PR,QR,simprocAttr,hc]
 refine ZJ (λ i w=>∃ k j:Nat,i = .int .i64 k∧k≤l.length∧J j w∧j≤(Z3 [] l).length∧(Z3 [] l).drop j=Z3 (l.take k) (l.drop k)) (λ i _=>l.length - (intOf i).toNat) ⟨0,0,rfl,by omega,h0,by omega,rfl⟩ ?_
 rintro i w' ⟨k,j,rfl,hk,hJ,hj,hD⟩
 rcases ZT hk with ⟨x,hx,hd,Yq,ZY⟩ | ⟨hk,hd,ZY⟩
 · obtain ⟨hc',hT',_⟩:=hFP j w' hJ
   obtain ⟨A',c',hv,_,hcm',_,hel'⟩:=Zc.open hT'
   injection hv with hv _ hv'
   subst hv hv'
   obtain ⟨b,o,cs,rfl,hl,hA,rfl⟩:=hel' k x hx
   have er:=Ext.refl w'
   rw [hd] at hD
   simp only [Z3] at hD
   simp (disch:=try exact DI) only [↓PR,QR,simprocAttr,↓UX,↓UY,ZY,hA.c1,hc']
   rw [VZ underlying94 ty9 b o l.length c .i64 k (by omega)]
   have Y8:(l.take k).length=k:=by rw [List.length_take];omega
   have hpre:Zc w' 1 zH (.slice (some ⟨b,o,none⟩) k c) (l.take k):=by
    refine ⟨_,c,by rw [Y8],by rw [Y8];omega,hcm,λ _=>⟨b,o,rfl,λ i y hy=>?_⟩⟩
    rw [List.getElem?_take] at hy
    split at hy
    · obtain ⟨b',o',cs,hA',h1,h2,h3⟩:=hel' i y hy
      injection hA' with hA'
      injection hA' with h5 h6
      subst h5 h6
      exact ⟨cs,h1,h2,h3⟩
    · cases hy
   refine zcr (QW w' _ _ x hpre) λ w2 e2=>?_
   have hJ2:=hJe j w' w2 hJ e2
   have htk:l.take (k+1)=l.take k++[x]:=Qw hx
   cases hany:(l.take k).any (λ y=>decide (x=y)) with
   | true=>
    rw [hany,if_pos rfl,← htk] at hD
    simp (disch:=try exact DI) only [↓PR,QR,simprocAttr,↓UX,↓UY]
    exact ⟨⟨k+1,j,rfl,by omega,hJ2,hj,hD⟩,Ya (kd := .i64) Yq⟩
   | false=>
    rw [hany,if_neg (by simp),← htk] at hD
    have NS:j < (Z3 [] l).length:=by
     have:=congrArg List.length hD
     simp at this
     omega
    have hxj:(Z3 [] l)[j]?=some x:=by
     have:=congrArg (λ l=>l[0]?) hD
     simpa using this
    have hD2:(Z3 [] l).drop (j+1)=Z3 (l.take (k+1)) (l.drop (k+1)):=by
     rw [← List.tail_drop,hD];rfl
    have hs:=XY j NS w2 hJ2
    rw [show OC (Z3 [] l) j = .string x by unfold OC;rw [hxj]] at hs
    simp (disch:=try exact DI) only [↓PR,QR,simprocAttr,↓UX,↓UY]
    refine Kb hs (λ ch w h=>h) ?_
    rintro v w3 (⟨rfl,h2⟩ | ⟨rfl,h2⟩)
    · simp (disch:=try exact DI) only [↓PR,QR,simprocAttr,↓UX,↓UY]
      exact ⟨⟨k+1,j+1,rfl,by omega,h2,NS,hD2⟩,Ya (kd := .i64) Yq⟩
    · simp (disch:=try exact DI) only [↓PR,QR,simprocAttr,↓UX,↓UY]
      exact .inr h2
 · subst hk
   simp (disch:=try exact DI) only [↓PR,QR,simprocAttr,↓UX,↓UY,ZY]
   rw [hd] at hD
   have NS:j=(Z3 [] l).length:=by
    have:=congrArg List.length hD
    simp [Z3] at this
    omega
   rw [← NS]
   exact .inl hJ
end Go.Proofs.YtgalpdihjbinjaaGreatDoor
namespace Go.Sw
open Go.RowKit (Below)
theorem ZW.grown {α:Type} {w w':Wd} {lo n:Nat} {T:TypeId} {enc:α→List Vl} {v:Vl} {l:List α} {row:Option Nat} (h:ZW w lo T n enc v l) (hg:w.grownBy w' row) (YN:∀ b,v.ownBlock=some b→row≠some b):ZW w' lo T n enc v l:=by
 obtain ⟨h1,h2⟩:=h
 refine ⟨h1,?_⟩
 rcases h2 with h2 | ⟨g,cap,cur,hv,hb,hc,h3⟩
 · exact .inl h2
 · refine .inr ⟨g,cap,cur,hv,hb,?_,h3⟩
   rw [hg.block g (Array.getElem?_eq_some_iff.1 hc).1 (λ e=>YN g (by rw [hv];rfl) e.symm)]
   exact hc
end Go.Sw
namespace Go.Proofs.YtgalpdihjbinjaaGreatDoor
open Sw
open Go.RowKit (intOf Below)
theorem xG:∀ (l seen:List BAr) (s:BAr),s∈Z3 seen l↔s∈l∧s ∉ seen
 | [],seen,s=>by simp [Z3]
 | a::l,seen,s=>by
  simp only [Z3]
  by_cases h:(seen.any λ y=>decide (a=y))=true
  · rw [if_pos h,xG l]
    have ha:a∈seen:=by obtain ⟨y,h1,h2⟩:=List.any_eq_true.1 h;simp at h2;subst h2;exact h1
    simp only [List.mem_append,List.mem_singleton,List.mem_cons,not_or]
    constructor
    · rintro ⟨h1,h2,h3⟩;exact ⟨.inr h1,h2⟩
    · rintro ⟨h1 | h1,h2⟩
      · subst h1;exact absurd ha h2
      · exact ⟨h1,h2,⟨λ (e:s=a)=>h2 (e ▸ ha),by simp⟩⟩
  · rw [if_neg h]
    have ha:a ∉ seen:=λ h2=>h (List.any_eq_true.2 ⟨a,h2,by simp⟩)
    simp only [List.mem_cons,xG l,List.mem_append,List.mem_singleton,not_or]
    by_cases e:s=a
    · subst e;simp [ha]
    · simp [e]
abbrev UH (w:Wd) (base:Nat) (v:Vl) (l:List BAr):Prop:=ZW w base 9 1 Xu v l
def Hu (c d e f g b:Vl) (a:WPr) (JR:KV) (R:RT) (w:Wd):Prop:=
 I0 43 g a λ h=>
 I0 74 e a λ i=>
 I0 74 f a λ j=>
 J0 60 d 2 a λ k=>
 I0 58 k a λ l=>
 qV Pg a (sliceAt 58 l none (some b) none) λ m=>
 C0 77 #[c,h,i,j,m] R w λ o w=>
 a w∧(
 B0 .add 3 true b (.int .i64 1) R w λ n w=>
 JR n w)
def MO (a b c d:Vl) (Bx:KV) (R:RT) (w:Wd):Prop:=
 Zy c (.bool true) d λ e=>
 C0 33 #[a,e,(.int .i64 10)] R w λ g w=>
 B0 .add 3 true b (.int .i64 1) R w λ f w=>
 Bx f w
def Hv (d e f b:Vl) (Bx:KV) (R:RT) (w:Wd):Prop:=
 Zo (λ (a:Vl) (w:Wd)=>
 MO d f b a Bx R w) λ c=>
 Zn b false (
 L0 123 e R w λ g w=>
 C0 68 #[g] R w λ h w=>
 B0 .eql 124 true h (.int .i64 0) R w λ a w=>
 c a w) (
 c undef w)
def Hw (c d e b:Vl) (Bx:KV) (R:RT) (w:Wd):Prop:=
 X0 72 e b R w λ f w=>
 L0 123 f R w λ g w=>
 opV Pg (alloc 123 true (.tuple #[])) (Zd R) w λ a w=>
 S0 123 a g R w λ w=>
 F0 60 d 2 R w λ h w=>
 L0 58 h R w λ i w=>
 opV Pg (makeFunc (.func 79) #[] #[a]) (Zd R) w λ j w=>
 C0 78 #[i,j] R w λ k w=>
 Hv c a b k Bx R w
def Di (a d e:Vl) (R:RT) (w:Wd):Prop:=
 opN Pg (Y2 a) (Zd R) w λ f w=>
 F0 81 f 4 R w λ g w=>
 opU Pg (storeAt 3 g (.int .i64 (-1))) (Zd R) w λ w=>
 F0 74 e 1 R w λ h w=>
 L0 72 h R w λ b w=>
 G0 72 3 b R w λ i w=>
 Y6 (λ c w Bx=>
 B0 .lss 3 false c i R w λ j w=>
 Zs j (
 Hw a d b c Bx R w) (
 R (.returned (.tuple #[])) w)) (.int .i64 0) w
def Hx (b d e f g a:Vl) (JR:KV) (R:RT) (w:Wd):Prop:=
 X0 58 g a R w λ h w=>
 L0 43 h R w λ i w=>
 opV Pg (alloc 43 true (.tuple #[])) (Zd R) w λ c w=>
 S0 43 c i R w λ w=>
 opN Pg (Y2 b) (Zd R) w λ j w=>
 F0 81 j 4 R w λ k w=>
 S0 3 k a R w λ w=>
 Yg w λ l w=>
 Hu b d e f c a l JR R w
def Dj (b a f c:Vl) (R:RT) (w:Wd):Prop:=
 F0 60 a 2 R w λ g w=>
 L0 58 g R w λ d w=>
 G0 58 3 d R w λ h w=>
 Y6 (λ e w JR=>
 B0 .lss 3 false e h R w λ i w=>
 Zs i (
 Hx b a f c d e JR R w) (
 Di b a c R w)) (.int .i64 0) w
def Hy (a d e f b:Vl) (c:WPr) (R:RT) (w:Wd):Prop:=
 qV Pg c (extract b 0) λ g=>
 qV Pg c (extract b 1) λ l=>
 opN Pg (Y2 a) (Zd R) w λ h w=>
 F0 81 h 3 R w λ i w=>
 L0 3 i R w λ j w=>
 B0 .eql 3 false g j R w λ k w=>
 C0 33 #[a,k,(.int .i64 4)] R w λ m w=>
 Dj a d e f R w
def Hz (b c d e:Vl) (a:WPr) (R:RT) (w:Wd):Prop:=
 qN Pg a (Y2 b) λ f=>
 J0 81 f 0 a λ g=>
 I0 24 g a λ h=>
 J0 60 c 0 a λ i=>
 I0 9 i a λ j=>
 C0 20 #[h,j] R w λ k w=>
 a w∧(
 Hy b c d e k a R w)
def xV (a d e b f g:Vl) (R:RT) (w:Wd):Prop:=
 Zo (λ (h:Vl) (w:Wd)=>
 Zy b h (.bool false) λ i=>
 C0 33 #[a,i,(.int .i64 3)] R w λ k w=>
 Yg w λ j w=>
 Hz a d e f j R w) λ c=>
 Zn b true (
 c g w) (
 c undef w)
def Bb (b:Vl) (a:WPr) (d:KW) (R:RT) (w:Wd):Prop:=
 qV Pg a (extract b 0) λ e=>
 qV Pg a (extract b 1) λ f=>
 opV Pg (alloc 74 true (.tuple #[])) (Zd R) w λ c w=>
 a w∧(
 S0 74 c e R w λ w=>
 a w∧(
 d c f w))
def Bc (b c:Vl) (a:WPr) (d:KW) (R:RT) (w:Wd):Prop:=
 a w∧(
 qV Pg a (extract c 0) λ e=>
 qV Pg a (extract c 1) λ f=>
 S0 74 b e R w λ w=>
 a w∧(
 d b f w))
def xW (d e i j:Vl) (a:WPr) (R:RT) (w:Wd):Prop:=
 qN Pg a (Y2 d) λ k=>
 J0 81 k 2 a λ l=>
 I0 27 l a λ f=>
 J0 60 e 1 a λ m=>
 I0 9 m a λ g=>
 Zo (λ (b:Vl) (n:Vl) (w:Wd)=>
 xV d e i j b n R w) λ h=>
 (
 C0 76 #[f,g] R w λ c w=>
 a w∧(
 Bb c a h R w))∧(
 opV Pg (alloc 74 true (.tuple #[])) (Zd R) w λ b w=>
 a w∧(
 C0 76 #[f,g] R w λ c w=>
 Bc b c a h R w))
def Bd (b:Vl) (a:WPr) (d:KW) (R:RT) (w:Wd):Prop:=
 qV Pg a (extract b 0) λ e=>
 qV Pg a (extract b 1) λ f=>
 opV Pg (alloc 74 true (.tuple #[])) (Zd R) w λ c w=>
 a w∧(
 S0 74 c e R w λ w=>
 a w∧(
 d c f w))
def Be (b c:Vl) (a:WPr) (d:KW) (R:RT) (w:Wd):Prop:=
 a w∧(
 qV Pg a (extract c 0) λ e=>
 qV Pg a (extract c 1) λ f=>
 S0 74 b e R w λ w=>
 a w∧(
 d b f w))
def Bf (d e:Vl) (a:WPr) (R:RT) (w:Wd):Prop:=
 qN Pg a (Y2 d) λ i=>
 J0 81 i 1 a λ j=>
 I0 27 j a λ f=>
 J0 60 e 0 a λ k=>
 I0 9 k a λ g=>
 Zo (λ (b:Vl) (l:Vl) (w:Wd)=>
 Yg w λ m w=>
 xW d e b l m R w) λ h=>
 (
 C0 76 #[f,g] R w λ c w=>
 a w∧(
 Bd c a h R w))∧(
 opV Pg (alloc 74 true (.tuple #[])) (Zd R) w λ b w=>
 a w∧(
 C0 76 #[f,g] R w λ c w=>
 Be b c a h R w))
def n31 (a b:Vl) (R:RT) (w:Wd):Prop:=
 opV Pg (box 60 b) (Zd R) w λ c w=>
 Yg w λ d w=>
 Bf a c d R w
set_option maxHeartbeats 40000000 in
theorem Zj6 {t0 t1:Vl} {R:RT} {w:Wd} (h:n31 t0 t1 R w):Calls Pg 36 #[t0,t1] w R:=by
 refine yD func36 ?_
 refine zs<|zr<|yv h λ _ w h=>zn<|zk<|zs<|yh [4,5,15,16,17,18,19,20,21,22,23,24] h λ C hC h=>yw 0 hC ?_
 refine yn 1 hC h λ _ h=>?_
 refine ye 2 hC h λ _ h=>?_
 refine ye 3 hC h λ _ h=>?_
 refine ye 4 hC h λ _ h=>?_
 refine ye 5 hC h λ _ h=>?_
 refine QH h (λ K2 hK h=>?_)
 refine Wo [4,5,15,22,23,24] (λ ρ w=>K2 (ρ 4) (ρ 5) w) (λ T hT=>?_) (λ σ w h=>?_)
 · obtain ⟨h0,h1⟩:=h
   refine Xm 6 10 rfl rfl (by kernel_rfl) (λ _ _=>rfl) (λ _ _=>rfl) ?_ ?_
   · have h:=h0
     refine yc h c76 λ _ w h=>zn ?_
     obtain ⟨hC,h⟩:=h
     refine ⟨_,λ _ h=>h,hC,?_⟩
     refine yw 7 hC ?_
     refine ye 8 hC h λ _ h=>?_
     refine ye 9 hC h λ _ h=>?_
     refine yo 10 ?_
     refine yv h λ _ w h=>zn ?_
     obtain ⟨hC,h⟩:=h
     refine ⟨hC,?_⟩
     refine yo 11 ?_
     refine yu h λ w h=>zn ?_
     obtain ⟨hC,h⟩:=h
     refine ⟨hC,?_⟩
     refine yw 12 hC ?_
     refine yz ?_
     exact zt hT h
   have h:=h1
   refine yv h λ _ w h=>zn ?_
   obtain ⟨hC,h⟩:=h
   refine ⟨_,λ _ h=>h,hC,?_⟩
   refine yo 6 ?_
   refine yc h c76 λ _ w h=>zn ?_
   obtain ⟨hC,h⟩:=h
   refine ⟨hC,?_⟩
   refine yw 7 hC ?_
   refine ye 8 hC h λ _ h=>?_
   refine ye 9 hC h λ _ h=>?_
   refine yo 11 ?_
   refine yu h λ w h=>zn ?_
   obtain ⟨hC,h⟩:=h
   refine ⟨hC,?_⟩
   refine yw 12 hC ?_
   refine yz ?_
   exact zt hT h
 subst hK
 refine zk<|zs<|yh [6,7,25,26,27,28,29,30,31,32,33,34] h λ C hC h=>yw 0 hC ?_
 refine yn 1 hC h λ _ h=>?_
 refine ye 2 hC h λ _ h=>?_
 refine ye 3 hC h λ _ h=>?_
 refine ye 4 hC h λ _ h=>?_
 refine ye 5 hC h λ _ h=>?_
 refine QH h (λ K4 hK h=>?_)
 refine Wo [6,7,25,32,33,34] (λ ρ w=>K4 (ρ 6) (ρ 7) w) (λ T hT=>?_) (λ σ w h=>?_)
 · obtain ⟨h0,h1⟩:=h
   refine Xm 6 10 rfl rfl (by kernel_rfl) (λ _ _=>rfl) (λ _ _=>rfl) ?_ ?_
   · have h:=h0
     refine yc h c76 λ _ w h=>zn ?_
     obtain ⟨hC,h⟩:=h
     refine ⟨_,λ _ h=>h,hC,?_⟩
     refine yw 7 hC ?_
     refine ye 8 hC h λ _ h=>?_
     refine ye 9 hC h λ _ h=>?_
     refine yo 10 ?_
     refine yv h λ _ w h=>zn ?_
     obtain ⟨hC,h⟩:=h
     refine ⟨hC,?_⟩
     refine yo 11 ?_
     refine yu h λ w h=>zn ?_
     obtain ⟨hC,h⟩:=h
     refine ⟨hC,?_⟩
     refine yw 12 hC ?_
     refine yz ?_
     exact zt hT h
   have h:=h1
   refine yv h λ _ w h=>zn ?_
   obtain ⟨hC,h⟩:=h
   refine ⟨_,λ _ h=>h,hC,?_⟩
   refine yo 6 ?_
   refine yc h c76 λ _ w h=>zn ?_
   obtain ⟨hC,h⟩:=h
   refine ⟨hC,?_⟩
   refine yw 7 hC ?_
   refine ye 8 hC h λ _ h=>?_
   refine ye 9 hC h λ _ h=>?_
   refine yo 11 ?_
   refine yu h λ w h=>zn ?_
   obtain ⟨hC,h⟩:=h
   refine ⟨hC,?_⟩
   refine yw 12 hC ?_
   refine yz ?_
   exact zt hT h
 subst hK
 refine zk<|zs<|Zt<|yG 3<|zm<|zm<|zm<|zn<|yg1 1 2 true [38] 38 h (λ _ T hT h=>?_) λ σ w h=>?_
 · refine zm<|zn ?_
   exact zt hT h
 refine yG 2<|yp h λ _ h=>yc h c33 λ _ w h=>zn<|ZK<|zk<|zs<|yh [8,9,41,42,43,44,45,46,47,48,49,50] h λ C hC h=>yw 0 hC ?_
 refine yn 1 hC h λ _ h=>?_
 refine ye 2 hC h λ _ h=>?_
 refine ye 3 hC h λ _ h=>?_
 refine ye 4 hC h λ _ h=>?_
 refine ye 5 hC h λ _ h=>?_
 refine yo 6 ?_
 refine yc h c20 λ _ w h=>zn ?_
 obtain ⟨hC,h⟩:=h
 refine ⟨hC,?_⟩
 refine yw 7 hC ?_
 refine ye 8 hC h λ _ h=>?_
 refine ye 9 hC h λ _ h=>?_
 refine yw 10 hC ?_
 refine yw 11 hC ?_
 refine yz<|zk<|zs<|zr<|zm<|zm<|zm<|yN h λ _ w h=>yv h λ _ w h=>yv h λ _ w h=>yb h λ _ w h=>yc h c33 λ _ w h=>zn<|zk<|zs ?_
 refine zs<|zr<|yv h λ _ w h=>yv h λ _ w h=>yx h λ _ w h=>zm<|zn<|zk<|Zl<|yl1 [10,11,62,63,64,65,66,67,68,69,70,71,72,73,74,75,76,77,78,79,80] 62 h λ σ w next h=>zs<|zr<|yb h λ _ w h=>zn<|zk ?_
 refine zs<|yC h (λ h=>?_) λ h=>?_
 · refine Zj<|zk<|zs<|Zl<|zs<|zr<|zm<|yv h λ _ w h=>yv h λ _ w h=>yv h λ _ w h=>zm<|yu h λ w h=>zn<|zk<|zs ?_
   refine zr<|zm<|zm<|yN h λ _ w h=>yv h λ _ w h=>yu h λ w h=>zn<|zk<|yh [71,72,73,74,75,76,77,78,79] h λ C hC h=>yw 0 hC ?_
   refine ye 1 hC h λ _ h=>?_
   refine ye 2 hC h λ _ h=>?_
   refine ye 3 hC h λ _ h=>?_
   refine ye 4 hC h λ _ h=>?_
   refine ye 5 hC h λ _ h=>?_
   refine yw 6 hC ?_
   refine ye 7 hC h λ _ h=>?_
   refine yo 8 ?_
   refine yc h c77 λ _ w h=>zn ?_
   obtain ⟨hC,h⟩:=h
   refine ⟨hC,?_⟩
   exact yz<|Zf<|zk<|zr<|yb h λ _ w h=>zm<|zn<|zk<|⟨rfl,h⟩
 refine ZM<|Ze<|Ze<|Zu<|zk<|zs<|zr<|zm<|yN h λ _ w h=>yv h λ _ w h=>yu h λ w h=>zn<|zk<|zs<|zr ?_
 refine yv h λ _ w h=>yv h λ _ w h=>yx h λ _ w h=>zm<|zn<|zk<|Zl<|yl1 [13,14,87,88,89,90,91,92,93,94,95,96,97,98,99,100,101,102,103] 87 h λ σ w next h=>zs<|zr<|yb h λ _ w h=>zn<|zk<|zs<|yC h (λ h=>?_) λ h=>?_
 · refine Zj<|zk<|zs<|Zl<|zs<|zr<|yv h λ _ w h=>yv h λ _ w h=>yv h λ _ w h=>yu h λ w h=>zn<|zk<|zs<|zr<|yv h λ _ w h=>?_
   refine yv h λ _ w h=>yF h λ _ w h=>yc h c78 λ _ w h=>zm<|zn<|zk<|Zt<|yG 3<|zm<|zm<|zm<|zn<|yg1 3 2 false [98,99,100] 100 h (λ _ T hT h=>?_) λ σ w h=>?_
   · refine yv h λ _ w h=>yc h c68 λ _ w h=>yb h λ _ w h=>zn ?_
     exact zt hT h
   exact yG 2<|yp h λ _ h=>yc h c33 λ _ w h=>zn<|ZK<|Zf<|zk<|zr<|yb h λ _ w h=>zm<|zn<|zk<|⟨rfl,h⟩
 exact ZM<|Ze<|Ze<|Zu<|ZG<|ZQ rfl h
end Go.Proofs.YtgalpdihjbinjaaGreatDoor
