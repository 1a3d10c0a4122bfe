/-
  Lemmas for the claim.
-/
import Derived.Test.YtgalpdihjbinjaaGreatDoorXa2
set_option linter.all false
set_option maxHeartbeats 4000000
set_option maxRecDepth 100000
open Go.Instr (loadAt storeAt fieldAt indexAt buildSlice mapUpdate makeFunc)
open Go.Proofs.Tryz
namespace Go.Proofs.YtgalpdihjbinjaaGreatDoor
open Sw
def EF (a b c d:Vl) (Vp:KV) (ds:LDf) (R:RT) (w:Wd):Prop:=
 ZD c d (.bool false) λ e=>
 opU Pg (storeAt 4 a e) (Zy Pg ds [] R) w λ w=>
 opV Pg (Zh .add 3 true b (.int .i64 1)) (Zy Pg ds [] R) w λ f w=>
 Vp f w
def Pf (b e f:Vl) (Vp:KV) (ds:LDf) (R:RT) (w:Wd):Prop:=
 opV Pg (loadAt 4 b) (Zy Pg ds [] R) w λ c w=>
 Zq (λ (a:Vl) (w:Wd)=>
 EF b f c a Vp ds R w) λ d=>
 Zp c true (
 opV Pg (fieldAt 123 e 4) (Zy Pg ds [] R) w λ g w=>
 opV Pg (loadAt 4 g) (Zy Pg ds [] R) w λ h w=>
 opV Pg (Op.unary .not h) (Zy Pg ds [] R) w λ a w=>
 d a w) (
 d undef w)
def Ph (f c g:Vl) (h:WPr) (a:PEn) (R:RT) (w:Wd):Prop:=
 opV Pg (loadAt 4 c) a w λ d w=>
 Zq (λ (b:Vl) (w:Wd)=>
 ZD d b (.bool false) λ i=>
 opU Pg (storeAt 4 c i) a w λ w=>
 h w) λ e=>
 Zp d true (
 opV Pg (loadAt 167 f) a w λ j w=>
 opN Pg (YL j) a w λ k w=>
 opV Pg (fieldAt 201 k 2) a w λ l w=>
 opV Pg (loadAt 199 l) a w λ m w=>
 opV Pg (Instr.lookup 199 m g false) a w λ b w=>
 e b w) (
 e undef w)
def Pi (b f c d:Vl) (a:WPr) (g:WPr) (e:PEn) (R:RT) (w:Wd):Prop:=
 qV Pg a (loadAt 3 c) λ h=>
 qV Pg a (loadAt 167 b) λ i=>
 qN Pg a (YL i) λ j=>
 qV Pg a (fieldAt 201 j 1) λ k=>
 qV Pg a (loadAt 198 k) λ l=>
 qV Pg a (Instr.lookup 198 l d false) λ m=>
 qV Pg a (Builtin.max_ #[3,3] 3 #[h,m]) λ n=>
 opU Pg (storeAt 3 c n) e w λ w=>
 VY w λ o w=>
 Ph b f d g e R w
def Pj (a b:Vl) (ds:LDf) (R:RT) (w:Wd):Prop:=
 opV Pg (loadAt 167 a) (Zy Pg ds [] R) w λ c w=>
 opV Pg (loadAt 3 b) (Zy Pg ds [] R) w λ d w=>
 opV Pg (Zh .lss 3 true d (.int .i64 16)) (Zy Pg ds [] R) w λ e w=>
 Zg Pg 135 #[c,e,(.int .i64 10)] (Zy Pg ds [] R) w λ f w=>
 VH Pg ds [] R w
def Pk (a b c d e:Vl) (f:WPr) (ds:LDf) (R:RT) (w:Wd):Prop:=
 qV Pg f (Instr.extract e 1) λ g=>
 opU Pg (Instr.entryStore 199 c g d) (Zy Pg ds [] R) w λ w=>
 VY w λ h w=>
 Pj a b ds R w
def Pm (c d e b f g h i:Vl) (a:WPr) (ds:LDf) (R:RT) (w:Wd):Prop:=
 qV Pg a (Instr.extract i 1) λ j=>
 opU Pg (Instr.entryStore 198 e j g) (Zy Pg ds [] R) w λ w=>
 a w∧(
 opV Pg (Instr.mapEntry 199 b f) (Zy Pg ds [] R) w λ k w=>
 a w∧(
 Pk c d b h k a ds R w))
def IV (b c f d:Vl) (a:WPr) (ds:LDf) (R:RT) (w:Wd):Prop:=
 qV Pg a (loadAt 167 b) λ g=>
 qN Pg a (YL g) λ h=>
 qV Pg a (fieldAt 201 h 1) λ i=>
 qV Pg a (loadAt 198 i) λ e=>
 qV Pg a (fieldAt 74 c 0) λ j=>
 qV Pg a (loadAt 9 j) λ k=>
 qV Pg a (loadAt 167 b) λ l=>
 qN Pg a (YL l) λ m=>
 qV Pg a (fieldAt 201 m 2) λ n=>
 qV Pg a (loadAt 199 n) λ o=>
 qV Pg a (fieldAt 74 c 0) λ p=>
 qV Pg a (loadAt 9 p) λ q=>
 qV Pg a (loadAt 3 d) λ r=>
 qV Pg a (Zh .add 3 true r (.int .i64 1)) λ s=>
 qV Pg a (loadAt 4 f) λ t=>
 opV Pg (Instr.mapEntry 198 e k) (Zy Pg ds [] R) w λ u w=>
 a w∧(
 Pm b d e o q s t u a ds R w)
def Pn (a d b c e:Vl) (ds:LDf) (R:RT) (w:Wd):Prop:=
 An Pg e ds (λ l8 f w g k h=>
 qM l8 w λ w=>
 Ye w λ i w=>
 Pi a b c f i g h R w) (λ ch ds w=>Zy Pg ds [] R ch w) w (λ ds w=>
 Ye w λ j w=>
 IV a d b c j ds R w) []
def Dc (a b d:Vl) (ds:LDf) (R:RT) (w:Wd):Prop:=
 opV Pg (loadAt 167 a) (Zy Pg ds [] R) w λ e w=>
 opN Pg (YL e) (Zy Pg ds [] R) w λ f w=>
 opV Pg (fieldAt 201 f 4) (Zy Pg ds [] R) w λ g w=>
 opU Pg (storeAt 3 g (.int .i64 (-1))) (Zy Pg ds [] R) w λ w=>
 opV Pg (Instr.alloc 3 true (.tuple #[])) (Zy Pg ds [] R) w λ c w=>
 opU Pg (storeAt 3 c (.int .i64 0)) (Zy Pg ds [] R) w λ w=>
 opV Pg (loadAt 74 b) (Zy Pg ds [] R) w λ h w=>
 Zg Pg 162 #[h] (Zy Pg ds [] R) w λ i w=>
 Pn a b d c i ds R w
def Hz (c d e a:Vl) (Vp:KV) (ds:LDf) (R:RT) (w:Wd):Prop:=
 opV Pg (indexAt 72 e a) (Zy Pg ds [] R) w λ f w=>
 opV Pg (loadAt 123 f) (Zy Pg ds [] R) w λ g w=>
 opV Pg (Instr.alloc 123 true (.tuple #[])) (Zy Pg ds [] R) w λ b w=>
 opU Pg (storeAt 123 b g) (Zy Pg ds [] R) w λ w=>
 opV Pg (loadAt 167 c) (Zy Pg ds [] R) w λ h w=>
 opN Pg (YL h) (Zy Pg ds [] R) w λ i w=>
 opV Pg (fieldAt 201 i 4) (Zy Pg ds [] R) w λ j w=>
 opU Pg (storeAt 3 j a) (Zy Pg ds [] R) w λ w=>
 opV Pg (loadAt 167 c) (Zy Pg ds [] R) w λ k w=>
 opV Pg (loadAt 123 b) (Zy Pg ds [] R) w λ l w=>
 Zg Pg 161 #[k,l] (Zy Pg ds [] R) w λ m w=>
 Pf d b a Vp ds R w
def Dd (a d b e f c:Vl) (Vp:KV) (ds:LDf) (R:RT) (w:Wd):Prop:=
 opV Pg (Zh .lss 3 false c f) (Zy Pg ds [] R) w λ g w=>
 Zu g (
 Hz a b e c Vp ds R w) (
 Dc a d b ds R w)
def j7 (d a:Vl) (ds:LDf) (R:RT) (w:Wd):Prop:=
 opV Pg (Instr.alloc 4 true (.tuple #[])) (Zy Pg ds [] R) w λ b w=>
 opU Pg (storeAt 4 b (.bool true)) (Zy Pg ds [] R) w λ w=>
 opV Pg (fieldAt 74 a 1) (Zy Pg ds [] R) w λ e w=>
 opV Pg (loadAt 72 e) (Zy Pg ds [] R) w λ c w=>
 opV Pg (Builtin.len_ #[72] 3 #[c]) (Zy Pg ds [] R) w λ f w=>
 Xd (λ g w Vp=>
 Dd d a b c f g Vp ds R w) (.int .i64 0) w
def HA (c a:Vl) (ds:LDf) (R:RT) (w:Wd):Prop:=
 opV Pg (loadAt 167 c) (Zy Pg ds [] R) w λ f w=>
 opV Pg (fieldAt 74 a 1) (Zy Pg ds [] R) w λ g w=>
 opV Pg (loadAt 72 g) (Zy Pg ds [] R) w λ h w=>
 opV Pg (Builtin.len_ #[72] 3 #[h]) (Zy Pg ds [] R) w λ i w=>
 opV Pg (Zh .geq 3 true i (.int .i64 1)) (Zy Pg ds [] R) w λ d w=>
 Zq (λ (b:Vl) (w:Wd)=>
 ZD d b (.bool false) λ j=>
 Zg Pg 135 #[f,j,(.int .i64 3)] (Zy Pg ds [] R) w λ n w=>
 j7 c a ds R w) λ e=>
 Zp d true (
 opV Pg (fieldAt 74 a 1) (Zy Pg ds [] R) w λ k w=>
 opV Pg (loadAt 72 k) (Zy Pg ds [] R) w λ l w=>
 opV Pg (Builtin.len_ #[72] 3 #[l]) (Zy Pg ds [] R) w λ m w=>
 opV Pg (Zh .leq 3 true m (.int .i64 40)) (Zy Pg ds [] R) w λ b w=>
 e b w) (
 e undef w)
def HB (b c:Vl) (a:WPr) (ds:LDf) (R:RT) (w:Wd):Prop:=
 qV Pg a (loadAt 167 b) λ e=>
 qN Pg a (YL e) λ f=>
 qV Pg a (fieldAt 201 f 1) λ g=>
 qV Pg a (loadAt 198 g) λ h=>
 qV Pg a (fieldAt 74 c 0) λ i=>
 qV Pg a (loadAt 9 i) λ j=>
 qV Pg a (Instr.lookup 198 h j true) λ d=>
 qV Pg a (Instr.extract d 0) λ n=>
 qV Pg a (Instr.extract d 1) λ k=>
 opV Pg (loadAt 167 b) (Zy Pg ds [] R) w λ l w=>
 opV Pg (Op.unary .not k) (Zy Pg ds [] R) w λ m w=>
 Zg Pg 135 #[l,m,(.int .i64 2)] (Zy Pg ds [] R) w λ o w=>
 HA b c ds R w
def HC (b c:Vl) (a:WPr) (ds:LDf) (R:RT) (w:Wd):Prop:=
 qV Pg a (loadAt 167 b) λ d=>
 qV Pg a (fieldAt 74 c 0) λ e=>
 qV Pg a (loadAt 9 e) λ f=>
 Zg Pg 35 #[f] (Zy Pg ds [] R) w λ g w=>
 a w∧(
 Zg Pg 135 #[d,g,(.int .i64 1)] (Zy Pg ds [] R) w λ i w=>
 a w∧(
 Ye w λ h w=>
 HB b c h ds R w))
def De (b c d:Vl) (a:WPr) (ds:LDf) (R:RT) (w:Wd):Prop:=
 qN Pg a (YL d) λ e=>
 qV Pg a (fieldAt 201 e 4) λ f=>
 opU Pg (storeAt 3 f (.int .i64 (-1))) (Zy Pg ds [] R) w λ w=>
 VY w λ h w=>
 Ye w λ g w=>
 HC b c g ds R w
def HD (b c:Vl) (a:WPr) (ds:LDf) (R:RT) (w:Wd):Prop:=
 qV Pg a (loadAt 167 b) λ d=>
 qV Pg a (loadAt 167 b) λ e=>
 qV Pg a (loadAt 74 c) λ f=>
 qN Pg a (YL d) λ g=>
 qV Pg a (fieldAt 201 g 5) λ h=>
 opU Pg (storeAt 74 h f) (Zy Pg ds [] R) w λ w=>
 a w∧(
 De b c e a ds R w)
def n74 (a b:Vl) (R:RT) (w:Wd):Prop:=
 (λ (ds:LDf)=>
 opV Pg (Instr.box 167 a) (Zy Pg ds [] R) w λ c w=>
 opV Pg (Instr.box 74 b) (Zy Pg ds [] R) w λ d w=>
 Ye w λ e w=>
 HD c d e ds R w) []
set_option maxHeartbeats 40000000 in
theorem ZhD {t0 t1:Vl} {R:RT} {w:Wd} (h:n74 t0 t1 R w):Calls Pg 136 #[t0,t1] w R:=by
 refine yE func136 ?_
 unfold n74 at h
 dsimp only at h
 refine zs<|zr<|yv h λ _ w h=>yv h λ _ w h=>zn<|zk<|zs<|yh [11,12,13,14,15,16,17] h λ C hC h=>ye 0 hC h λ _ h=>?_
 refine ye 1 hC h λ _ h=>?_
 refine ye 2 hC h λ _ h=>?_
 refine yn 3 hC h λ _ h=>?_
 refine ye 4 hC h λ _ h=>?_
 refine yo 5 ?_
 refine yu h λ w h=>zn ?_
 obtain ⟨hC,h⟩:=h
 refine ⟨hC,?_⟩
 refine yn 6 hC h λ _ h=>?_
 refine ye 7 hC h λ _ h=>?_
 refine yq 8 2 ?_
 refine yu h λ w h=>zn ?_
 obtain ⟨C2,hC,h⟩:=h
 refine ⟨C2,hC,?_⟩
 refine yz<|zk<|zs<|yh [18,19,20,21,22] h λ C hC h=>ye 0 hC h λ _ h=>?_
 refine ye 1 hC h λ _ h=>?_
 refine ye 2 hC h λ _ h=>?_
 refine yo 3 ?_
 refine yc h c35 λ _ w h=>zn ?_
 obtain ⟨hC,h⟩:=h
 refine ⟨hC,?_⟩
 refine yo 4 ?_
 refine yc h VF λ _ w h=>zn ?_
 obtain ⟨hC,h⟩:=h
 refine ⟨hC,?_⟩
 refine yz<|zk<|zs<|yh [4,5,23,24,25,26,27,28,29,30,31,32] h λ C hC h=>ye 0 hC h λ _ h=>?_
 refine yn 1 hC h λ _ h=>?_
 refine ye 2 hC h λ _ h=>?_
 refine ye 3 hC h λ _ h=>?_
 refine ye 4 hC h λ _ h=>?_
 refine ye 5 hC h λ _ h=>?_
 refine ye 6 hC h λ _ h=>?_
 refine yw 7 hC ?_
 refine ye 8 hC h λ _ h=>?_
 refine ye 9 hC h λ _ h=>?_
 refine yw 10 hC ?_
 refine yw 11 hC ?_
 refine yz<|zk<|zs<|zr<|yv h λ _ w h=>zm<|yv h λ _ w h=>yc h VF λ _ w h=>zn<|zk<|zs<|Zr<|yG 6<|yv h λ _ w h=>yv h λ _ w h=>?_
 refine yv h λ _ w h=>yx h λ _ w h=>yb h λ _ w h=>zm<|zn<|yg1 4 5 true [43,44,45,46] 46 h (λ _ T hT h=>?_) λ σ w h=>?_
 · refine yv h λ _ w h=>yv h λ _ w h=>yx h λ _ w h=>yb h λ _ w h=>zn ?_
   exact zt hT h
 refine yG 2<|yp h λ _ h=>yc h VF λ _ w h=>zn<|ZK<|zk<|zs<|zr<|yv h λ _ w h=>yu h λ w h=>zn<|zk<|zs<|zs<|zr ?_
 refine yv h λ _ w h=>yv h λ _ w h=>yx h λ _ w h=>zm<|zn<|zk<|Zn<|yl1 [7,8,52,53,54,55,56,57,58,59,60,61,62,63,64,65,66,67,68,69,70] 52 h λ σ w next h=>zs<|zr<|yb h λ _ w h=>zn<|zk<|zs<|yC h (λ h=>?_) λ h=>?_
 · refine Zo<|zk<|zs<|Zn<|zs<|zr<|zm<|yv h λ _ w h=>yv h λ _ w h=>yv h λ _ w h=>zm<|yu h λ w h=>zn<|zk<|zs ?_
   refine zr<|yv h λ _ w h=>zm<|yN h λ _ w h=>yv h λ _ w h=>yu h λ w h=>zn<|zk<|zs<|zr<|yv h λ _ w h=>yv h λ _ w h=>yc h ZfO λ _ w h=>zn<|zk ?_
   refine Zr<|yG 2<|yv h λ _ w h=>zm<|zn<|yg1 3 1 true [66,67,68] 68 h (λ _ T hT h=>?_) λ σ w h=>?_
   · refine yv h λ _ w h=>yv h λ _ w h=>yv h λ _ w h=>zn ?_
     exact zt hT h
   exact yG 2<|yp h λ _ h=>yu h λ w h=>zn<|ZK<|Zf<|zk<|zr<|yb h λ _ w h=>zm<|zn<|zk<|⟨rfl,h⟩
 refine ZR<|Ze<|Ze<|Zx<|zk<|zs<|zr<|yv h λ _ w h=>yN h λ _ w h=>yv h λ _ w h=>yu h λ w h=>zn<|zk<|zs<|zr ?_
 refine yv h λ _ w h=>yu h λ w h=>zn<|zk<|zs<|zs<|zr<|yv h λ _ w h=>yc h Zcj λ _ w h=>zn<|zk<|Zn<|JO [] h rfl (λ l8 t76 w Kr8 Xr8 Qr8 h=>?_) (λ ds w h=>?_) (λ c ds w h=>?_) (λ ch ds w h=>XM rfl h)
 · refine zr<|zm<|zn<|zk ?_
   obtain ⟨hr,h⟩:=h
   refine ⟨rfl,hr,λ w hb=>?_⟩
   have h:=h w hb
   refine Zn<|zs<|yh [77,78,79,80,81,82,83,84] h λ C hC h=>ye 0 hC h λ _ h=>?_
   refine ye 1 hC h λ _ h=>?_
   refine yn 2 hC h λ _ h=>?_
   refine ye 3 hC h λ _ h=>?_
   refine ye 4 hC h λ _ h=>?_
   refine yw 5 hC ?_
   refine ye 6 hC h λ _ h=>?_
   refine ye 7 hC h λ _ h=>?_
   refine yq 8 1 ?_
   refine yu h λ w h=>zn ?_
   obtain ⟨C10,hC,h⟩:=h
   refine ⟨C10,hC,?_⟩
   refine yz<|zk<|Zr<|yG 2<|yv h λ _ w h=>zm<|zn<|yg1 6 1 true [87,88,89,90,91,92] 92 h (λ _ T hT h=>?_) λ σ w h=>?_
   · refine yv h λ _ w h=>yN h λ _ w h=>yv h λ _ w h=>yv h λ _ w h=>zm<|yv h λ _ w h=>zn ?_
     exact zt hT h
   exact yG 2<|yp h λ _ h=>yu h λ w h=>zn<|ZK<|Zf<|⟨rfl,h⟩
 · refine Zf<|zk<|zs<|yh [94,95,96,97,98,99,100,101,102,103,104,105,106,107,108,109,110,111,112] h λ C hC h=>ye 0 hC h λ _ h=>?_
   refine yn 1 hC h λ _ h=>?_
   refine ye 2 hC h λ _ h=>?_
   refine ye 3 hC h λ _ h=>?_
   refine ye 4 hC h λ _ h=>?_
   refine ye 5 hC h λ _ h=>?_
   refine ye 6 hC h λ _ h=>?_
   refine yn 7 hC h λ _ h=>?_
   refine ye 8 hC h λ _ h=>?_
   refine ye 9 hC h λ _ h=>?_
   refine ye 10 hC h λ _ h=>?_
   refine ye 11 hC h λ _ h=>?_
   refine ye 12 hC h λ _ h=>?_
   refine ye 13 hC h λ _ h=>?_
   refine ye 14 hC h λ _ h=>?_
   refine yo 15 ?_
   refine yv h λ _ w h=>zn ?_
   obtain ⟨hC,h⟩:=h
   refine ⟨hC,?_⟩
   refine ye 16 hC h λ _ h=>?_
   refine yo 17 ?_
   refine yu h λ w h=>zn ?_
   obtain ⟨hC,h⟩:=h
   refine ⟨hC,?_⟩
   refine yo 18 ?_
   refine yv h λ _ w h=>zn ?_
   obtain ⟨hC,h⟩:=h
   refine ⟨hC,?_⟩
   refine ye 19 hC h λ _ h=>?_
   refine yq 20 1 ?_
   refine yu h λ w h=>zn ?_
   obtain ⟨C13,hC,h⟩:=h
   refine ⟨C13,hC,?_⟩
   exact yz<|zk<|zr<|yv h λ _ w h=>yv h λ _ w h=>yb h λ _ w h=>yc h VF λ _ w h=>zn<|GX<|XN rfl h
 exact h.elim
def Hg (b c a:Vl) (ZA:KV) (R:RT) (w:Wd):Prop:=
 opV Pg (indexAt 170 b a) (Zb R) w λ d w=>
 opV Pg (loadAt 4 d) (Zb R) w λ e w=>
 opV Pg (Zh .eql 4 false c e) (Zb R) w λ f w=>
 Zu f (
 R (.returned a) w) (
 opV Pg (Zh .add 3 true a (.int .i64 1)) (Zb R) w λ g w=>
 ZA g w)
def Zd8 (a c:Vl) (R:RT) (w:Wd):Prop:=
 opV Pg (Builtin.len_ #[170] 3 #[a]) (Zb R) w λ d w=>
 Xd (λ b w ZA=>
 opV Pg (Zh .lss 3 false b d) (Zb R) w λ e w=>
 Zu e (
 Hg a c b ZA R w) (
 R (.returned (.int .i64 (-1))) w)) (.int .i64 0) w
theorem Zd9 {t0 t1:Vl} {R:RT} {w:Wd} (h:Zd8 t0 t1 R w):Calls Pg 137 #[t0,t1] w R:=by
 refine yD func137 ?_
 refine zs<|zr<|zm<|zn<|zk<|zs<|zs<|zr<|zm<|yx h λ _ w h=>zm<|zn<|zk<|Zn<|yl1 [4,5,8,9,10,11,12,13,14,15,16,17,18] 8 h λ σ w next h=>?_
 refine zs<|zr<|yb h λ _ w h=>zn<|zk<|zs<|yC h (λ h=>?_) λ h=>?_
 · refine Zo<|zk<|zs<|Zn<|zs<|zr<|zm<|zm<|zn<|zk<|zs<|zr<|zm<|zm<|zm ?_
   refine yv h λ _ w h=>yv h λ _ w h=>yb h λ _ w h=>zn<|zk<|yC h (λ h=>zs<|zr<|zm<|zm<|zn<|zk<|Zi<|Zj<|Zc<|Zc<|Zj<|Zc<|Zk rfl rfl h) λ h=>Zo<|Zf<|zk<|zr<|yb h λ _ w h=>zm<|zn<|zk ?_
   exact ⟨rfl,h⟩
 exact ZR<|Ze<|Ze<|Zx<|zk<|zs<|zr<|zm<|zn<|zk<|Zi<|Zk rfl rfl h
def ZaP (a:Vl) (R:RT) (w:Wd):Prop:=
 opV Pg (Builtin.max_ #[3,3] 3 #[a,(.int .i64 0)]) (Zb R) w λ b w=>
 opV Pg (Zh .geq 3 true a (.int .i64 0)) (Zb R) w λ c w=>
 R (.returned (.tuple #[b,c])) w
def n81 (a b:Vl) (R:RT) (w:Wd):Prop:=
 Zg Pg 163 #[a,b] (Zb R) w λ c w=>
 ZaP c R w
theorem ZhL {t0 t1:Vl} {R:RT} {w:Wd} (h:n81 t0 t1 R w):Calls Pg 138 #[t0,t1] w R:=by
 refine yD func138 ?_
 refine zs<|zr<|zm<|zm<|zn<|zk<|zs<|zr<|zm<|zm<|yc h ZfP λ _ w h=>zm<|zn<|zk<|zs ?_
 exact zr<|zm<|yx h λ _ w h=>zm<|yb h λ _ w h=>zm<|zm<|zn<|zk<|Zi<|Z9 rfl rfl rfl h
def n62 (a b:Vl) (R:RT) (w:Wd):Prop:=
 opV Pg (Instr.box 74 a) (Zb R) w λ c w=>
 opV Pg (fieldAt 74 c 0) (Zb R) w λ d w=>
 opV Pg (loadAt 9 d) (Zb R) w λ e w=>
 opV Pg (loadAt 9 b) (Zb R) w λ f w=>
 opV Pg (Zh .eql 9 false e f) (Zb R) w λ g w=>
 R (.returned g) w
theorem Zhs {t0 t1:Vl} {R:RT} {w:Wd} (h:n62 t0 t1 R w):Calls Pg 139 #[t0,t1] w R:=by
 refine yD func139 ?_
 refine zs<|zr<|yv h λ _ w h=>zm<|zn<|zk<|zs<|zr<|yv h λ _ w h=>yv h λ _ w h=>yv h λ _ w h=>yb h λ _ w h=>zm<|zn<|zk ?_
 exact Zi<|Zk rfl rfl h
def n59 (b c:Vl) (R:RT) (w:Wd):Prop:=
 opV Pg (Instr.box 74 b) (Zb R) w λ d w=>
 opV Pg (Instr.box 9 c) (Zb R) w λ e w=>
 opV Pg (fieldAt 74 d 1) (Zb R) w λ f w=>
 opV Pg (loadAt 72 f) (Zb R) w λ g w=>
 opV Pg (makeFunc (.func 165) #[] #[e]) (Zb R) w λ h w=>
 Zg Pg 164 #[g,h] (Zb R) w λ a w=>
 opV Pg (Instr.extract a 0) (Zb R) w λ i w=>
 opV Pg (Instr.extract a 1) (Zb R) w λ j w=>
 R (.returned (.tuple #[i,j])) w
theorem Zhp {t0 t1:Vl} {R:RT} {w:Wd} (h:n59 t0 t1 R w):Calls Pg 140 #[t0,t1] w R:=by
 refine yD func140 ?_
 refine zs<|zr<|yv h λ _ w h=>yv h λ _ w h=>zm<|zm<|zn<|zk<|zs<|zr<|yv h λ _ w h=>yv h λ _ w h=>yF h λ _ w h=>yc h ZfQ λ _ w h=>yv h λ _ w h=>?_
 exact yv h λ _ w h=>zm<|zm<|zn<|zk<|Zi<|Z9 rfl rfl rfl h
def n44 (a:Vl) (R:RT) (w:Wd):Prop:=
 opV Pg (Instr.box 123 a) (Zb R) w λ b w=>
 opV Pg (loadAt 123 b) (Zb R) w λ c w=>
 opV Pg (buildSlice 72 1 #[(0,c)]) (Zb R) w λ d w=>
 opV Pg (Instr.build 74 #[(1,d)]) (Zb R) w λ e w=>
 Zg Pg 162 #[e] (Zb R) w λ f w=>
 Zg Pg 166 #[f] (Zb R) w λ g w=>
 R (.returned g) w
theorem Zha {t0:Vl} {R:RT} {w:Wd} (h:n44 t0 R w):Calls Pg 141 #[t0] w R:=by
 refine yD func141 ?_
 refine zs<|zr<|yv h λ _ w h=>zm<|zn<|zk<|zs<|zr<|yv h λ _ w h=>yS h λ _ w h=>yB h λ _ w h=>yc h Zcj λ _ w h=>yc h ZfS λ _ w h=>zm<|zn ?_
 exact zk<|Zi<|Zk rfl rfl h
def ZdM (a b:Vl) (R:RT) (w:Wd):Prop:=
 Zg Pg 167 #[a,b] (Zb R) w λ c w=>
 opV Pg (Zh .geq 3 true c (.int .i64 0)) (Zb R) w λ d w=>
 R (.returned d) w
theorem ZdN {t0 t1:Vl} {R:RT} {w:Wd} (h:ZdM t0 t1 R w):Calls Pg 142 #[t0,t1] w R:=by
 refine yD func142 ?_
 refine zs<|zr<|zm<|zn<|zk<|zs<|zr<|zm<|zm<|yc h c167 λ _ w h=>yb h λ _ w h=>zm<|zn<|zk<|Zi ?_
 exact Zk rfl rfl h
def n91 (a:Vl) (R:RT) (w:Wd):Prop:=
 opN Pg (YL a) (Zb R) w λ b w=>
 opV Pg (fieldAt 123 b 2) (Zb R) w λ c w=>
 opU Pg (storeAt 3 c (.int .i64 0)) (Zb R) w λ w=>
 R (.returned (.tuple #[])) w
theorem ZhV {t0:Vl} {R:RT} {w:Wd} (h:n91 t0 R w):Calls Pg 233 #[t0] w R:=by
 refine yD func233 ?_
 exact zr<|zm<|yN h λ _ w h=>yv h λ _ w h=>yu h λ w h=>zn<|ZH<|ZO rfl h
def Pp (d b e f:Vl) (R:RT) (w:Wd):Prop:=
 Zq (λ (a:Vl) (w:Wd)=>
 ZD b (.bool true) a λ g=>
 Zg Pg 135 #[d,g,(.int .i64 6)] (Zb R) w λ h w=>
 R (.returned (.tuple #[])) w) λ c=>
 Zp b false (
 ZD e f (.bool false) λ a=>
 c a w) (
 c undef w)
def Pq (d e f b:Vl) (R:RT) (w:Wd):Prop:=
 Zq (λ (a:Vl) (w:Wd)=>
 Pp d f b a R w) λ c=>
 Zp b true (
 opV Pg (fieldAt 123 e 2) (Zb R) w λ g w=>
 opV Pg (loadAt 3 g) (Zb R) w λ h w=>
 opV Pg (Zh .rem 3 true h (.int .i64 8)) (Zb R) w λ i w=>
 opV Pg (Zh .eql 3 true i (.int .i64 0)) (Zb R) w λ a w=>
 c a w) (
 c undef w)
def Pr (g b c d:Vl) (R:RT) (w:Wd):Prop:=
 Zq (λ (a:Vl) (w:Wd)=>
 Zq (λ (h:Vl) (w:Wd)=>
 Pq g b c h R w) λ e=>
 Zp c false (
 ZD d a (.bool false) λ i=>
 e i w) (
 e undef w)) λ f=>
 Zp d true (
 opV Pg (fieldAt 123 b 2) (Zb R) w λ j w=>
 opV Pg (loadAt 3 j) (Zb R) w λ k w=>
 opV Pg (Zh .leq 3 true k (.int .i64 512)) (Zb R) w λ a w=>
 f a w) (
 f undef w)
def Ps (d a e f:Vl) (R:RT) (w:Wd):Prop:=
 ZD e (.bool true) f λ b=>
 Zq (λ (g:Vl) (w:Wd)=>
 Pr d a b g R w) λ c=>
 Zp b false (
 opV Pg (fieldAt 123 a 2) (Zb R) w λ h w=>
 opV Pg (loadAt 3 h) (Zb R) w λ i w=>
 opV Pg (Zh .geq 3 true i (.int .i64 8)) (Zb R) w λ j w=>
 c j w) (
 c undef w)
def n92 (e f:Vl) (R:RT) (w:Wd):Prop:=
 opV Pg (Instr.box 123 f) (Zb R) w λ a w=>
 opV Pg (fieldAt 123 a 2) (Zb R) w λ g w=>
 opV Pg (loadAt 3 g) (Zb R) w λ h w=>
 opV Pg (Zh .eql 3 true h (.int .i64 2)) (Zb R) w λ c w=>
 Zq (λ (b:Vl) (w:Wd)=>
 Ps e a c b R w) λ d=>
 Zp c false (
 opV Pg (fieldAt 123 a 2) (Zb R) w λ i w=>
 opV Pg (loadAt 3 i) (Zb R) w λ j w=>
 opV Pg (Zh .eql 3 true j (.int .i64 4)) (Zb R) w λ b w=>
 d b w) (
 d undef w)
theorem ZhW {t0 t1:Vl} {R:RT} {w:Wd} (h:n92 t0 t1 R w):Calls Pg 234 #[t0,t1] w R:=by
 refine yD func234 ?_
 refine zs<|zr<|yv h λ _ w h=>zn<|zk<|Zr<|yG 5<|zm<|yv h λ _ w h=>yv h λ _ w h=>yb h λ _ w h=>zm<|zn<|yg1 3 4 false [9,10,11] 11 h (λ _ T hT h=>?_) λ σ w h=>?_
 · refine yv h λ _ w h=>yv h λ _ w h=>yb h λ _ w h=>zn ?_
   exact zt hT h
 refine yG 2<|yp h λ _ h=>zm<|zn<|yg1 4 9 false [14,15,16,17] 17 h (λ _ T hT h=>?_) λ σ w h=>?_
 · refine yv h λ _ w h=>yv h λ _ w h=>yb h λ _ w h=>zm<|zn ?_
   exact zt hT h
 refine yg1 3 13 true [18,19,20] 20 h (λ _ T hT h=>?_) λ σ w h=>?_
 · refine yv h λ _ w h=>yv h λ _ w h=>yb h λ _ w h=>zn ?_
   exact zt hT h
 refine yg1 2 9 false [21,22] 22 h (λ _ T hT h=>?_) λ σ w h=>?_
 · refine yp h λ _ h=>zm<|zn ?_
   exact zt hT h
 refine yg1 4 18 true [23,24,25,26] 26 h (λ _ T hT h=>?_) λ σ w h=>?_
 · refine yv h λ _ w h=>yv h λ _ w h=>yb h λ _ w h=>yb h λ _ w h=>zn ?_
   exact zt hT h
 refine yg1 1 9 false [27] 27 h (λ _ T hT h=>?_) λ σ w h=>?_
 · refine yp h λ _ h=>zn ?_
   exact zt hT h
 exact yG 2<|yp h λ _ h=>yc h VF λ _ w h=>zn<|ZK<|ZH<|ZO rfl h
def n93 (a:Vl) (R:RT) (w:Wd):Prop:=
 opN Pg (YL a) (Zb R) w λ b w=>
 opV Pg (fieldAt 123 b 10) (Zb R) w λ c w=>
 opU Pg (storeAt 9 c (.string { data := #[] })) (Zb R) w λ w=>
 opN Pg (YL a) (Zb R) w λ d w=>
 opV Pg (fieldAt 123 d 12) (Zb R) w λ e w=>
 opU Pg (storeAt 3 e (.int .i64 0)) (Zb R) w λ w=>
 R (.returned (.tuple #[])) w
theorem ZhX {t0:Vl} {R:RT} {w:Wd} (h:n93 t0 R w):Calls Pg 235 #[t0] w R:=by
 refine yD func235 ?_
 exact zr<|zm<|zm<|yN h λ _ w h=>yv h λ _ w h=>yu h λ w h=>yN h λ _ w h=>yv h λ _ w h=>yu h λ w h=>zn<|ZH<|ZO rfl h
def I0 (c a:Vl) (b:WPr) (R:RT) (w:Wd):Prop:=
 qV Pg b (Instr.extract a 0) λ e=>
 qV Pg b (Instr.extract a 1) λ d=>
 Zg Pg 135 #[c,d,(.int .i64 8)] (Zb R) w λ f w=>
 R (.returned (.tuple #[])) w
def I1 (b c:Vl) (a:WPr) (R:RT) (w:Wd):Prop:=
 qV Pg a (fieldAt 123 c 10) λ d=>
 qV Pg a (loadAt 9 d) λ e=>
 Zg Pg 195 #[b] (Zb R) w λ f w=>
 a w∧(
 qV Pg a (Instr.build 74 #[(1,f)]) λ g=>
 Zg Pg 140 #[g,e] (Zb R) w λ h w=>
 a w∧(
 I0 b h a R w))
def n95 (a c:Vl) (R:RT) (w:Wd):Prop:=
 opV Pg (Instr.box 123 c) (Zb R) w λ b w=>
 opV Pg (fieldAt 123 b 12) (Zb R) w λ d w=>
 opV Pg (loadAt 3 d) (Zb R) w λ e w=>
 opV Pg (buildSlice 61 1 #[(0,e)]) (Zb R) w λ f w=>
 Zg Pg 215 #[a,(.int .i64 1),(.int .i64 3),f] (Zb R) w λ h w=>
 Ye w λ g w=>
 I1 a b g R w
theorem ZhZ {t0 t1:Vl} {R:RT} {w:Wd} (h:n95 t0 t1 R w):Calls Pg 236 #[t0,t1] w R:=by
 refine yD func236 ?_
 refine zs<|zr<|yv h λ _ w h=>zn<|zk<|zs<|zr<|zm<|yv h λ _ w h=>yv h λ _ w h=>yS h λ _ w h=>yc h Cr λ _ w h=>zn<|zk<|zs ?_
 refine yh [4,5,11,12,13,14,15,16,17,18,19] h λ C hC h=>yw 0 hC ?_
 refine ye 3 hC h λ _ h=>?_
 refine ye 4 hC h λ _ h=>?_
 refine yo 1 ?_
 refine yc h Lr λ _ w h=>zn ?_
 obtain ⟨hC,h⟩:=h
 refine ⟨hC,?_⟩
 refine ye 2 hC h λ _ h=>?_
 refine yo 5 ?_
 refine yc h Zbf λ _ w h=>zn ?_
 obtain ⟨hC,h⟩:=h
 refine ⟨hC,?_⟩
 refine yw 6 hC ?_
 refine ye 7 hC h λ _ h=>?_
 refine ye 8 hC h λ _ h=>?_
 refine yw 9 hC ?_
 refine yw 10 hC ?_
 exact yz<|zk<|zr<|zm<|zm<|yc h VF λ _ w h=>zn<|ZH<|ZO rfl h
def n96 (a:Vl) (R:RT) (w:Wd):Prop:=
 opV Pg (Instr.build 120 #[]) (Zb R) w λ b w=>
 opN Pg (YL a) (Zb R) w λ c w=>
 opV Pg (fieldAt 123 c 8) (Zb R) w λ d w=>
 opU Pg (storeAt 9 d (.string { data := #[] })) (Zb R) w λ w=>
 opN Pg (YL a) (Zb R) w λ e w=>
 opV Pg (fieldAt 123 e 7) (Zb R) w λ f w=>
 opU Pg (storeAt 120 f b) (Zb R) w λ w=>
 opN Pg (YL a) (Zb R) w λ g w=>
 opV Pg (fieldAt 123 g 13) (Zb R) w λ h w=>
 opU Pg (storeAt 3 h (.int .i64 0)) (Zb R) w λ w=>
 R (.returned (.tuple #[])) w
theorem Zh0 {t0:Vl} {R:RT} {w:Wd} (h:n96 t0 R w):Calls Pg 237 #[t0] w R:=by
 refine yD func237 ?_
 refine zr<|zm<|zm<|zm<|yB h λ _ w h=>yN h λ _ w h=>yv h λ _ w h=>yu h λ w h=>yN h λ _ w h=>yv h λ _ w h=>yu h λ w h=>yN h λ _ w h=>yv h λ _ w h=>yu h λ w h=>zn ?_
 exact ZH<|ZO rfl h
def ZaZ (b c:Vl) (a:WPr) (R:RT) (w:Wd):Prop:=
 qN Pg a (YL b) λ d=>
 qV Pg a (fieldAt 201 d 2) λ e=>
 qV Pg a (loadAt 199 e) λ f=>
 qV Pg a (fieldAt 123 c 8) λ g=>
 qV Pg a (loadAt 9 g) λ h=>
 qV Pg a (Instr.lookup 199 f h false) λ i=>
 Zg Pg 135 #[b,i,(.int .i64 8)] (Zb R) w λ k w=>
 a w∧(
 opV Pg (loadAt 123 c) (Zb R) w λ j w=>
 Zg Pg 221 #[b,j] (Zb R) w λ l w=>
 R (.returned (.tuple #[])) w)
def n97 (a c:Vl) (R:RT) (w:Wd):Prop:=
 opV Pg (Instr.box 123 c) (Zb R) w λ b w=>
 opV Pg (fieldAt 123 b 13) (Zb R) w λ d w=>
 opV Pg (loadAt 3 d) (Zb R) w λ e w=>
 opV Pg (buildSlice 61 1 #[(0,e)]) (Zb R) w λ f w=>
 Zg Pg 215 #[a,(.int .i64 0),(.int .i64 4294967295),f] (Zb R) w λ h w=>
 Ye w λ g w=>
 ZaZ a b g R w
theorem Zh1 {t0 t1:Vl} {R:RT} {w:Wd} (h:n97 t0 t1 R w):Calls Pg 238 #[t0,t1] w R:=by
 refine yD func238 ?_
 refine zs<|zr<|yv h λ _ w h=>zn<|zk<|zs<|zr<|zm<|yv h λ _ w h=>yv h λ _ w h=>yS h λ _ w h=>yc h Cr λ _ w h=>zn<|zk<|zs ?_
 refine yh [9,10,11,12,13,14,15,16,17] h λ C hC h=>yw 0 hC ?_
 refine yw 1 hC ?_
 refine yn 2 hC h λ _ h=>?_
 refine ye 3 hC h λ _ h=>?_
 refine ye 4 hC h λ _ h=>?_
 refine ye 5 hC h λ _ h=>?_
 refine ye 6 hC h λ _ h=>?_
 refine ye 7 hC h λ _ h=>?_
 refine yo 8 ?_
 refine yc h VF λ _ w h=>zn ?_
 obtain ⟨hC,h⟩:=h
 refine ⟨hC,?_⟩
 exact yz<|zk<|zr<|zm<|yv h λ _ w h=>yc h Zbg λ _ w h=>zn<|ZH<|ZO rfl h
def ZcQ (c:Vl) (R:RT) (w:Wd):Prop:=
 opV Pg (Instr.box 123 c) (Zb R) w λ a w=>
 opV Pg (Instr.alloc 287 true (.tuple #[])) (Zb R) w λ b w=>
 opV Pg (fieldAt 123 a 0) (Zb R) w λ d w=>
 opV Pg (loadAt 9 d) (Zb R) w λ e w=>
 opV Pg (fieldAt 123 a 8) (Zb R) w λ f w=>
 opV Pg (loadAt 9 f) (Zb R) w λ g w=>
 opV Pg (fieldAt 123 a 9) (Zb R) w λ h w=>
 opV Pg (loadAt 9 h) (Zb R) w λ i w=>
 opV Pg (fieldAt 123 a 10) (Zb R) w λ j w=>
 opV Pg (loadAt 9 j) (Zb R) w λ k w=>
 opV Pg (fieldAt 123 a 1) (Zb R) w λ l w=>
 opV Pg (loadAt 117 l) (Zb R) w λ m w=>
 opV Pg (fieldAt 123 a 2) (Zb R) w λ n w=>
 opV Pg (loadAt 3 n) (Zb R) w λ o w=>
 opV Pg (fieldAt 123 a 5) (Zb R) w λ p w=>
 opV Pg (loadAt 3 p) (Zb R) w λ q w=>
 opV Pg (fieldAt 123 a 6) (Zb R) w λ r w=>
 opV Pg (loadAt 3 r) (Zb R) w λ s w=>
 opV Pg (fieldAt 123 a 7) (Zb R) w λ t w=>
 opV Pg (fieldAt 120 t 0) (Zb R) w λ u w=>
 opV Pg (loadAt 3 u) (Zb R) w λ v w=>
 opV Pg (fieldAt 123 a 12) (Zb R) w λ x w=>
 opV Pg (loadAt 3 x) (Zb R) w λ y w=>
 opV Pg (fieldAt 123 a 13) (Zb R) w λ z w=>
 opV Pg (loadAt 3 z) (Zb R) w λ A w=>
 opV Pg (fieldAt 123 a 3) (Zb R) w λ B w=>
 opV Pg (loadAt 4 B) (Zb R) w λ C w=>
 opV Pg (fieldAt 123 a 4) (Zb R) w λ D w=>
 opV Pg (loadAt 4 D) (Zb R) w λ E w=>
 opV Pg (Instr.build 287 #[(0,e),(1,g),(2,i),(3,k),(4,m),(5,o),(6,q),(7,s),(8,v),(9,y),(10,A),(11,C),(12,E)]) (Zb R) w λ G w=>
 opU Pg (storeAt 287 b G) (Zb R) w λ w=>
 qW Pg 287 b w λ r0=>
 R (.returned r0) w
theorem ZcR {t0:Vl} {R:RT} {w:Wd} (h:ZcQ t0 R w):Calls Pg 239 #[t0] w R:=by
 refine yD func239 ?_
 refine zs<|zr<|yv h λ _ w h=>yv h λ _ w h=>zn<|zk<|zs<|zr<|yv h λ _ w h=>yv h λ _ w h=>yv h λ _ w h=>yv h λ _ w h=>yv h λ _ w h=>yv h λ _ w h=>yv h λ _ w h=>?_
 refine yv h λ _ w h=>yv h λ _ w h=>yv h λ _ w h=>yv h λ _ w h=>yv h λ _ w h=>yv h λ _ w h=>yv h λ _ w h=>yv h λ _ w h=>yv h λ _ w h=>yv h λ _ w h=>yv h λ _ w h=>yv h λ _ w h=>yv h λ _ w h=>yv h λ _ w h=>yv h λ _ w h=>?_
 exact yv h λ _ w h=>yv h λ _ w h=>yv h λ _ w h=>yv h λ _ w h=>yv h λ _ w h=>yB h λ _ w h=>yu h λ w h=>zn<|zk<|Zi<|zI rfl rfl h
def KD (c d b:Vl) (a:WPr) (ZA:KV) (R:RT) (w:Wd):Prop:=
 qV Pg a (indexAt 118 c b) λ e=>
 qV Pg a (loadAt 128 e) λ f=>
 qV Pg a (indexAt 118 d b) λ g=>
 qV Pg a (loadAt 128 g) λ h=>
 qV Pg a (Zh .neq 128 false f h) λ i=>
 Zu i (
 R (.returned (.bool false)) w) (
 opV Pg (Zh .add 3 true b (.int .i64 1)) (Zb R) w λ j w=>
 ZA j w)
def KE (a c:Vl) (R:RT) (w:Wd):Prop:=
 opV Pg (Builtin.len_ #[118] 3 #[a]) (Zb R) w λ d w=>
 Xd (λ b w ZA=>
 opV Pg (Zh .lss 3 false b d) (Zb R) w λ e w=>
 Zu e (
 Ye w λ f w=>
 KD a c b f ZA R w) (
 R (.returned (.bool true)) w)) (.int .i64 0) w
def ZdQ (a b:Vl) (R:RT) (w:Wd):Prop:=
 opV Pg (Builtin.len_ #[118] 3 #[a]) (Zb R) w λ c w=>
 opV Pg (Builtin.len_ #[118] 3 #[b]) (Zb R) w λ d w=>
 opV Pg (Zh .neq 3 false c d) (Zb R) w λ e w=>
 Zu e (
 R (.returned (.bool false)) w) (
 KE a b R w)
theorem ZdR {t0 t1:Vl} {R:RT} {w:Wd} (h:ZdQ t0 t1 R w):Calls Pg 240 #[t0,t1] w R:=by
 refine yD func240 ?_
 refine zs<|zr<|zm<|zn<|zk<|zs<|zs<|zr<|zm<|yx h λ _ w h=>zm<|yx h λ _ w h=>yb h λ _ w h=>zn<|zk ?_
 refine yC h (λ h=>zs<|zr<|zm<|zn<|zk<|Zi<|Zc<|Zk rfl rfl h) λ h=>Zo<|zk<|zs<|zs<|zr<|zm<|yx h λ _ w h=>zm<|zn<|zk<|Zn<|yl1 [4,5,13,14,15,16,17,18,19,20,21,22,23,24,25] 13 h λ σ w next h=>zs ?_
 refine zr<|yb h λ _ w h=>zn<|zk<|zs<|yC h (λ h=>?_) λ h=>?_
 · refine Zo<|zk<|zs<|Zn<|zs<|zr<|zm<|zm<|zn<|zk<|zs<|yh [16,17,18,19,20,21,22,23,24] h λ C hC h=>yw 0 hC ?_
   refine yw 1 hC ?_
   refine ye 2 hC h λ _ h=>?_
   refine ye 3 hC h λ _ h=>?_
   refine yw 4 hC ?_
   refine yw 5 hC ?_
   refine ye 6 hC h λ _ h=>?_
   refine ye 7 hC h λ _ h=>?_
   refine ye 8 hC h λ _ h=>?_
   exact yz<|zk<|yC h (λ h=>zs<|zr<|zm<|zn<|zk<|Zi<|Zj<|Zc<|Zc<|Zj<|Zc<|Zk rfl rfl h) λ h=>Zo<|Zf<|zk<|zr<|yb h λ _ w h=>zm<|zn<|zk<|⟨rfl,h⟩
 exact ZR<|Ze<|Ze<|Zx<|zk<|zs<|zr<|zm<|zn<|zk<|Zi<|Zk rfl rfl h
def KA (c d b:Vl) (a:WPr) (ZA:KV) (R:RT) (w:Wd):Prop:=
 qV Pg a (indexAt 121 c b) λ e=>
 qV Pg a (loadAt 213 e) λ f=>
 qV Pg a (indexAt 121 d b) λ g=>
 qV Pg a (loadAt 213 g) λ h=>
 qV Pg a (Zh .neq 213 false f h) λ i=>
 Zu i (
 R (.returned (.bool false)) w) (
 opV Pg (Zh .add 3 true b (.int .i64 1)) (Zb R) w λ j w=>
 ZA j w)
def KC (a c:Vl) (R:RT) (w:Wd):Prop:=
 opV Pg (Builtin.len_ #[121] 3 #[a]) (Zb R) w λ d w=>
 Xd (λ b w ZA=>
 opV Pg (Zh .lss 3 false b d) (Zb R) w λ e w=>
 Zu e (
 Ye w λ f w=>
 KA a c b f ZA R w) (
 R (.returned (.bool true)) w)) (.int .i64 0) w
def ZdO (a b:Vl) (R:RT) (w:Wd):Prop:=
 opV Pg (Builtin.len_ #[121] 3 #[a]) (Zb R) w λ c w=>
 opV Pg (Builtin.len_ #[121] 3 #[b]) (Zb R) w λ d w=>
 opV Pg (Zh .neq 3 false c d) (Zb R) w λ e w=>
 Zu e (
 R (.returned (.bool false)) w) (
 KC a b R w)
theorem ZdP {t0 t1:Vl} {R:RT} {w:Wd} (h:ZdO t0 t1 R w):Calls Pg 241 #[t0,t1] w R:=by
 refine yD func241 ?_
 refine zs<|zr<|zm<|zn<|zk<|zs<|zs<|zr<|zm<|yx h λ _ w h=>zm<|yx h λ _ w h=>yb h λ _ w h=>zn<|zk ?_
 refine yC h (λ h=>zs<|zr<|zm<|zn<|zk<|Zi<|Zc<|Zk rfl rfl h) λ h=>Zo<|zk<|zs<|zs<|zr<|zm<|yx h λ _ w h=>zm<|zn<|zk<|Zn<|yl1 [4,5,13,14,15,16,17,18,19,20,21,22,23,24,25] 13 h λ σ w next h=>zs ?_
 refine zr<|yb h λ _ w h=>zn<|zk<|zs<|yC h (λ h=>?_) λ h=>?_
 · refine Zo<|zk<|zs<|Zn<|zs<|zr<|zm<|zm<|zn<|zk<|zs<|yh [16,17,18,19,20,21,22,23,24] h λ C hC h=>yw 0 hC ?_
   refine yw 1 hC ?_
   refine ye 2 hC h λ _ h=>?_
   refine ye 3 hC h λ _ h=>?_
   refine yw 4 hC ?_
   refine yw 5 hC ?_
   refine ye 6 hC h λ _ h=>?_
   refine ye 7 hC h λ _ h=>?_
   refine ye 8 hC h λ _ h=>?_
   exact yz<|zk<|yC h (λ h=>zs<|zr<|zm<|zn<|zk<|Zi<|Zj<|Zc<|Zc<|Zj<|Zc<|Zk rfl rfl h) λ h=>Zo<|Zf<|zk<|zr<|yb h λ _ w h=>zm<|zn<|zk<|⟨rfl,h⟩
 exact ZR<|Ze<|Ze<|Zx<|zk<|zs<|zr<|zm<|zn<|zk<|Zi<|Zk rfl rfl h
def T8 (a:Vl) (R:RT) (w:Wd):Prop:=
 opV Pg (Op.unary .neg a) (Zb R) w λ b w=>
 opV Pg (Zh .and 191 false a b) (Zb R) w λ c w=>
 opV Pg (Zh .mul 191 true c (.int .u64 285870213051353865)) (Zb R) w λ d w=>
 opV Pg (Zh .shr 191 true d (.int .u64 58)) (Zb R) w λ e w=>
 opV Pg (indexAt 306 (.pointer (some ⟨7,0,none⟩)) e) (Zb R) w λ f w=>
 opV Pg (loadAt 5 f) (Zb R) w λ g w=>
 opV Pg (Go.convert 5 3 g) (Zb R) w λ h w=>
 R (.returned h) w
def n49 (a:Vl) (R:RT) (w:Wd):Prop:=
 opV Pg (Zh .eql 191 true a (.int .u64 0)) (Zb R) w λ b w=>
 Zu b (
 R (.returned (.int .i64 64)) w) (
 T8 a R w)
theorem Zhf {t0:Vl} {R:RT} {w:Wd} (h:n49 t0 R w):Calls Pg 245 #[t0] w R:=by
 refine yD func245 ?_
 refine zs<|zr<|zm<|zn<|zk<|zs<|zs<|zr<|zm<|yb h λ _ w h=>zn<|zk<|yC h (λ h=>zs<|zr<|zm<|zn<|zk<|Zi<|Zc<|Zk rfl rfl h) λ h=>Zo ?_
 refine zk<|zs<|zr<|zm<|zm<|yv h λ _ w h=>yb h λ _ w h=>yb h λ _ w h=>yb h λ _ w h=>yv h λ _ w h=>yv h λ _ w h=>yv h λ _ w h=>zm<|zn<|zk ?_
 exact Zi<|Zk rfl rfl h
def yj (e f c:Vl) (a:WPr) (R:RT) (w:Wd):Prop:=
 Zq (λ (b:Vl) (w:Wd)=>
 ZD c b (.bool false) λ g=>
 R (.returned g) w) λ d=>
 Zp c true (
 qV Pg a (fieldAt 120 e 1) λ h=>
 qV Pg a (loadAt 118 h) λ i=>
 Zg Pg 254 #[i,f] (Zb R) w λ j w=>
 a w∧(
 qV Pg a (Op.unary .not j) λ b=>
 d b w)) (
 d undef w)
def yl (b c d e:Vl) (a:WPr) (R:RT) (w:Wd):Prop:=
 a w∧(
 opV Pg (buildSlice 170 2 #[(0,d),(1,e)]) (Zb R) w λ f w=>
 a w∧(
 Zg Pg 74 #[f] (Zb R) w λ g w=>
 a w∧(
 yj b c g a R w)))
def ym (b c:Vl) (a:WPr) (R:RT) (w:Wd):Prop:=
 qV Pg a (fieldAt 120 b 0) λ d=>
 qV Pg a (loadAt 3 d) λ e=>
 qV Pg a (fieldAt 120 b 1) λ f=>
 qV Pg a (loadAt 118 f) λ g=>
 qV Pg a (Builtin.len_ #[118] 3 #[g]) λ h=>
 qV Pg a (Zh .leq 3 true h (.int .i64 4)) λ i=>
 Zg Pg 253 #[e] (Zb R) w λ j w=>
 yl b c j i a R w
def Zdc (b:Vl) (R:RT) (w:Wd):Prop:=
 opV Pg (Instr.box 120 b) (Zb R) w λ c w=>
 opV Pg (Instr.makeMap 199 none) (Zb R) w λ d w=>
 opV Pg (Instr.alloc 199 true (.tuple #[])) (Zb R) w λ a w=>
 opU Pg (storeAt 199 a d) (Zb R) w λ w=>
 opV Pg (makeFunc (.func 252) #[] #[a]) (Zb R) w λ e w=>
 Ye w λ f w=>
 ym c e f R w
theorem Zdd {t0:Vl} {R:RT} {w:Wd} (h:Zdc t0 R w):Calls Pg 246 #[t0] w R:=by
 refine yD func246 ?_
 refine zs<|zr<|yv h λ _ w h=>zm<|zn<|zk<|zs<|zr<|yv h λ _ w h=>yv h λ _ w h=>yu h λ w h=>zn<|zk<|zs<|zr ?_
 refine yF h λ _ w h=>zm<|zn<|zk<|zs<|yh [2,7,8,9,10,11,12,13,14,15,16,17,18,19,20,21,22] h λ C hC h=>ye 0 hC h λ _ h=>?_
 refine ye 1 hC h λ _ h=>?_
 refine ye 3 hC h λ _ h=>?_
 refine ye 4 hC h λ _ h=>?_
 refine ye 5 hC h λ _ h=>?_
 refine ye 6 hC h λ _ h=>?_
 refine yo 2 ?_
 refine yc h Zcq λ _ w h=>zn ?_
 obtain ⟨hC,h⟩:=h
 refine ⟨hC,?_⟩
 refine yo 7 ?_
 refine yS h λ _ w h=>zn ?_
 obtain ⟨hC,h⟩:=h
 refine ⟨hC,?_⟩
 refine yo 8 ?_
 refine yc h c74 λ _ w h=>zn ?_
 obtain ⟨hC,h⟩:=h
 refine ⟨hC,?_⟩
 refine yw 9 hC ?_
 refine yj1 2 [14,13,12,11,10,9,8,7,2,6,5,4,3,1,0] [17,18,19,20,21] 21 h (λ _ hT hb h=>?_) (λ _ hT hb h=>?_) λ σ w hC h=>?_
 · refine ye 10 hC h λ _ h=>?_
   refine ye 11 hC h λ _ h=>?_
   refine yw 12 hC ?_
   refine yo 13 ?_
   refine yc h Zgs λ _ w h=>zn ?_
   obtain ⟨hC,h⟩:=h
   refine ⟨hC,?_⟩
   refine ye 14 hC h λ _ h=>?_
   exact yt hT hC h
 · refine yi 10 hC ?_
   refine yi 11 hC ?_
   refine yi 12 hC ?_
   refine yi 13 hC ?_
   refine yi 14 hC ?_
   exact yt hT hC h
 refine yP 15 hC h λ _ h=>?_
 refine yw 16 hC ?_
 exact yz<|zk<|Zi<|Zk rfl rfl h
def zZ (a b c:Vl) (d:WPr) (R:RT) (w:Wd):Prop:=
 opV Pg (fieldAt 123 a 0) (Zb R) w λ e w=>
 opV Pg (loadAt 9 e) (Zb R) w λ f w=>
 opV Pg (loadAt 300 b) (Zb R) w λ g w=>
 opU Pg (mapUpdate 296 c f g) (Zb R) w λ w=>
 d w
def z7 (d e f a:Vl) (ZA:KV) (R:RT) (w:Wd):Prop:=
 opV Pg (Instr.extract a 0) (Zb R) w λ g w=>
 opV Pg (Instr.extract a 1) (Zb R) w λ h w=>
 opV Pg (Instr.alloc 300 true (.tuple #[])) (Zb R) w λ b w=>
 opU Pg (storeAt 300 b g) (Zb R) w λ w=>
 opV Pg (Zh .eql 49 true h (.int .i64 0)) (Zb R) w λ i w=>
 Zq (λ (w:Wd)=>
 opV Pg (Zh .add 3 true f (.int .i64 1)) (Zb R) w λ j w=>
 ZA j w) λ c=>
 Zu i (
 zZ d b e c R w) (
 c w)
def ya (c d b:Vl) (ZA:KV) (R:RT) (w:Wd):Prop:=
 opV Pg (indexAt 72 c b) (Zb R) w λ e w=>
 opV Pg (loadAt 123 e) (Zb R) w λ f w=>
 opV Pg (Instr.alloc 123 true (.tuple #[])) (Zb R) w λ a w=>
 opU Pg (storeAt 123 a f) (Zb R) w λ w=>
 opV Pg (loadAt 123 a) (Zb R) w λ g w=>
 Zg Pg 255 #[g] (Zb R) w λ h w=>
 z7 a d b h ZA R w
def ZcS (a:Vl) (R:RT) (w:Wd):Prop:=
 opV Pg (Instr.makeMap 296 none) (Zb R) w λ b w=>
 opV Pg (Builtin.len_ #[72] 3 #[a]) (Zb R) w λ d w=>
 Xd (λ c w ZA=>
 opV Pg (Zh .lss 3 false c d) (Zb R) w λ e w=>
 Zu e (
 ya a b c ZA R w) (
 R (.returned b) w)) (.int .i64 0) w
theorem ZcT {t0:Vl} {R:RT} {w:Wd} (h:ZcS t0 R w):Calls Pg 247 #[t0] w R:=by
 refine yD func247 ?_
 refine zs<|zr<|zm<|zn<|zk<|zs<|zr<|yv h λ _ w h=>zm<|zn<|zk<|zs<|zs<|zr<|zm ?_
 refine yx h λ _ w h=>zm<|zn<|zk<|Zn<|yl1 [5,6,7,11,12,13,14,15,16,17,18,19,20,21,22,23,24,25,26] 11 h λ σ w next h=>zs<|zr<|yb h λ _ w h=>zn<|zk<|zs<|yC h (λ h=>?_) λ h=>?_
 · refine Zo<|zk<|zs<|Zn<|zs<|zr<|yv h λ _ w h=>yv h λ _ w h=>yv h λ _ w h=>yu h λ w h=>zn<|zk<|zs<|zr<|yv h λ _ w h=>?_
   refine yc h Zgt λ _ w h=>zm<|yv h λ _ w h=>yv h λ _ w h=>yv h λ _ w h=>yu h λ w h=>zm<|zn<|zk<|zs<|zr<|zm<|yb h λ _ w h=>zn<|zk ?_
   refine yJ0 [22,23,24,25] h (λ _ _ hkK2 h=>?_) λ σ w h=>?_
   · refine yC h (λ h=>?_) λ h=>?_
     · refine zr<|zm<|yv h λ _ w h=>yv h λ _ w h=>yv h λ _ w h=>yu h λ w h=>zn<|zk ?_
       exact zt hkK2 h
     refine Zo<|zk ?_
     exact zt hkK2 h
   exact Zf<|zk<|zr<|yb h λ _ w h=>zm<|zn<|zk<|⟨rfl,h⟩
 exact ZR<|Ze<|Ze<|Zx<|zk<|zs<|zr<|zm<|zm<|zn<|zk<|Zi<|Zk rfl rfl h
def jw (a b:Vl) (c:WPr) (R:RT) (w:Wd):Prop:=
 opV Pg (fieldAt 120 a 1) (Zb R) w λ d w=>
 opV Pg (loadAt 118 d) (Zb R) w λ e w=>
 Zg Pg 256 #[e] (Zb R) w λ f w=>
 opU Pg (storeAt 118 b f) (Zb R) w λ w=>
 c w
def Zc8 (d:Vl) (R:RT) (w:Wd):Prop:=
 opV Pg (Instr.box 120 d) (Zb R) w λ a w=>
 opV Pg (Instr.alloc 118 true (.tuple #[])) (Zb R) w λ b w=>
 opV Pg (loadAt 120 a) (Zb R) w λ e w=>
 Zg Pg 246 #[e] (Zb R) w λ f w=>
 Zq (λ (w:Wd)=>
 opV Pg (makeFunc (.func 257) #[] #[b]) (Zb R) w λ g w=>
 R (.returned g) w) λ c=>
 Zu f (
 jw a b c R w) (
 c w)
theorem Zc9 {t0:Vl} {R:RT} {w:Wd} (h:Zc8 t0 R w):Calls Pg 248 #[t0] w R:=by
 refine yD func248 ?_
 refine zs<|zr<|yv h λ _ w h=>zm<|zn<|zk<|zs<|zr<|yv h λ _ w h=>zn<|zk<|zs<|zs<|zr<|yv h λ _ w h=>?_
 refine yc h Zbi λ _ w h=>zn<|zk<|yJ0 [6,7,8] h (λ _ _ hkK1 h=>?_) λ σ w h=>?_
 · refine yC h (λ h=>?_) λ h=>?_
   · refine zr<|yv h λ _ w h=>yv h λ _ w h=>yc h Zgu λ _ w h=>yu h λ w h=>zn<|zk ?_
     exact zt hkK1 h
   refine Zo<|zk ?_
   exact zt hkK1 h
 exact zk<|zs<|zr<|yF h λ _ w h=>zm<|zn<|zk<|Zi<|Zk rfl rfl h
def ju (a b c:Vl) (R:RT) (w:Wd):Prop:=
 opV Pg (Instr.build 300 #[(0,b),(1,c)]) (Zb R) w λ d w=>
 opU Pg (storeAt 300 a d) (Zb R) w λ w=>
 qW Pg 300 a w λ r0=>
 R (.returned (.tuple #[r0,(.int .i64 0)])) w
def jv (b c d:Vl) (R:RT) (w:Wd):Prop:=
 opV Pg (makeFunc (.func 260) #[] #[b,c]) (Zb R) w λ a w=>
 XO Pg a #[(.bool true)] (Zb R) w λ e w=>
 XO Pg a #[(.bool false)] (Zb R) w λ f w=>
 ju d e f R w
def yd (c d a b:Vl) (R:RT) (w:Wd):Prop:=
 opV Pg (Zh .neq 49 true b (.int .i64 0)) (Zb R) w λ e w=>
 Zu e (
 opV Pg (Instr.build 300 #[]) (Zb R) w λ f w=>
 opU Pg (storeAt 300 a f) (Zb R) w λ w=>
 qW Pg 300 a w λ r0=>
 R (.returned (.tuple #[r0,b])) w) (
 jv c d a R w)
def ZcW (c d:Vl) (R:RT) (w:Wd):Prop:=
 opV Pg (Instr.box 120 c) (Zb R) w λ a w=>
 opV Pg (Instr.box 296 d) (Zb R) w λ b w=>
 opV Pg (Instr.alloc 300 true (.tuple #[])) (Zb R) w λ e w=>
 opV Pg (loadAt 120 a) (Zb R) w λ f w=>
 opV Pg (loadAt 296 b) (Zb R) w λ g w=>
 Zg Pg 259 #[f,(.string { data := #[] }),g,(.func (.func 258) #[] #[])] (Zb R) w λ h w=>
 yd a b e h R w
theorem ZcX {t0 t1:Vl} {R:RT} {w:Wd} (h:ZcW t0 t1 R w):Calls Pg 249 #[t0,t1] w R:=by
 refine yD func249 ?_
 refine zs<|zr<|yv h λ _ w h=>yv h λ _ w h=>yv h λ _ w h=>zm<|zn<|zk<|zs<|zr<|zm<|zn<|zk<|zs<|zs ?_
 refine zr<|yv h λ _ w h=>yv h λ _ w h=>zm<|yc h Zgw λ _ w h=>zm<|zn<|zk<|zs<|zr<|zm<|yb h λ _ w h=>zn<|zk<|yC h (λ h=>zs<|zr<|yB h λ _ w h=>zm<|yu h λ w h=>zm<|zn<|zk<|Zi<|Zc<|YO rfl rfl rfl h) λ h=>?_
 refine Zo<|zk<|zs<|zr<|yF h λ _ w h=>zm<|zn<|zk<|zs<|zr<|zm<|yV h λ _ w h=>zm<|yV h λ _ w h=>yB h λ _ w h=>?_
 exact yu h λ w h=>zm<|zn<|zk<|Zi<|YO rfl rfl rfl h
def ZdA (a b:Vl) (R:RT) (w:Wd):Prop:=
 Zg Pg 199 #[a,b] (Zb R) w λ c w=>
 opV Pg (Zh .geq 3 true c (.int .i64 0)) (Zb R) w λ d w=>
 R (.returned d) w
theorem ZdB {t0 t1:Vl} {R:RT} {w:Wd} (h:ZdA t0 t1 R w):Calls Pg 250 #[t0,t1] w R:=by
 refine yD func250 ?_
 refine zs<|zr<|zm<|zn<|zk<|zs<|zr<|zm<|zm<|yc h Zcm λ _ w h=>yb h λ _ w h=>zm<|zn<|zk<|Zi ?_
 exact Zk rfl rfl h
def n71 (e f:Vl) (R:RT) (w:Wd):Prop:=
 opV Pg (Instr.box 123 e) (Zb R) w λ b w=>
 opV Pg (fieldAt 123 b 1) (Zb R) w λ g w=>
 opV Pg (loadAt 117 g) (Zb R) w λ h w=>
 opV Pg (Zh .eql 117 true h (.int .i64 9)) (Zb R) w λ c w=>
 Zq (λ (a:Vl) (w:Wd)=>
 ZD c a (.bool false) λ i=>
 R (.returned i) w) λ d=>
 Zp c true (
 opV Pg (fieldAt 123 b 9) (Zb R) w λ j w=>
 opV Pg (loadAt 9 j) (Zb R) w λ k w=>
 opV Pg (fieldAt 123 f 9) (Zb R) w λ l w=>
 opV Pg (loadAt 9 l) (Zb R) w λ m w=>
 opV Pg (Zh .eql 9 false k m) (Zb R) w λ a w=>
 d a w) (
 d undef w)
theorem ZhA {t0 t1:Vl} {R:RT} {w:Wd} (h:n71 t0 t1 R w):Calls Pg 251 #[t0,t1] w R:=by
 refine yD func251 ?_
 refine zs<|zr<|yv h λ _ w h=>zm<|zn<|zk<|zs<|Zr<|yG 4<|yv h λ _ w h=>yv h λ _ w h=>yb h λ _ w h=>zm<|zn<|yg1 5 3 true [8,9,10,11,12] 12 h (λ _ T hT h=>?_) λ σ w h=>?_
 · refine yv h λ _ w h=>yv h λ _ w h=>yv h λ _ w h=>yv h λ _ w h=>yb h λ _ w h=>zn ?_
   exact zt hT h
 exact yG 2<|yp h λ _ h=>zm<|zn<|ZK<|zk<|Zi<|Zk rfl rfl h
def jz (b c d:Vl) (a:WPr) (e:KV) (R:RT) (w:Wd):Prop:=
 opV Pg (buildSlice 170 3 #[(0,b),(1,c),(2,d)]) (Zb R) w λ f w=>
 a w∧(
 Zg Pg 74 #[f] (Zb R) w λ g w=>
 a w∧(
 qV Pg a (Op.unary .not g) λ h=>
 e h w))
def jA (b:Vl) (a:WPr) (c:KV) (R:RT) (w:Wd):Prop:=
 qV Pg a (fieldAt 128 b 0) λ d=>
 qV Pg a (loadAt 9 d) λ e=>
 qV Pg a (fieldAt 128 b 1) λ f=>
 qV Pg a (loadAt 3 f) λ g=>
 qV Pg a (Zh .neq 3 true g (.int .i64 0)) λ h=>
 qV Pg a (fieldAt 128 b 1) λ i=>
 qV Pg a (loadAt 3 i) λ j=>
 Zg Pg 35 #[e] (Zb R) w λ k w=>
 a w∧(
 Zg Pg 253 #[j] (Zb R) w λ l w=>
 a w∧(
 jz k h l a c R w))
def Zde (e b:Vl) (R:RT) (w:Wd):Prop:=
 opV Pg (Instr.box 128 e) (Zb R) w λ a w=>
 opV Pg (loadAt 199 b) (Zb R) w λ f w=>
 opV Pg (fieldAt 128 a 0) (Zb R) w λ g w=>
 opV Pg (loadAt 9 g) (Zb R) w λ h w=>
 opV Pg (Instr.lookup 199 f h false) (Zb R) w λ c w=>
 opV Pg (loadAt 199 b) (Zb R) w λ i w=>
 opV Pg (fieldAt 128 a 0) (Zb R) w λ j w=>
 opV Pg (loadAt 9 j) (Zb R) w λ k w=>
 opU Pg (mapUpdate 199 i k (.bool true)) (Zb R) w λ w=>
 Ye w λ l w=>
 Zq (λ (m:Vl) (w:Wd)=>
 ZD c (.bool true) m λ n=>
 R (.returned n) w) λ d=>
 Zp c false (
 jA a l d R w) (
 d undef w)
theorem Zdf {t0 t1:Vl} {R:RT} {w:Wd} (h:Zde t0 t1 R w):Calls Pg 252 #[t0,t1] w R:=by
 refine yD func252 ?_
 refine zs<|zr<|yv h λ _ w h=>zm<|zn<|zk<|zs<|zr<|yv h λ _ w h=>yv h λ _ w h=>yv h λ _ w h=>yv h λ _ w h=>zm<|zn<|zk ?_
 refine zs<|zr<|yv h λ _ w h=>yv h λ _ w h=>yv h λ _ w h=>yu h λ w h=>zn<|zk<|zs<|yh [3,12,13,14,15,16,17,18,19,20,21,22,23,24,25,26] h λ C hC h=>yw 0 hC ?_
 refine yw 1 hC ?_
 refine yj1 2 [13,12,11,10,4,9,8,7,6,5,3,2,1,0] [14,15,16,17,18,19,20,21,22,23,24,25] 25 h (λ _ hT hb h=>?_) (λ _ hT hb h=>?_) λ σ w hC h=>?_
 · refine ye 2 hC h λ _ h=>?_
   refine ye 3 hC h λ _ h=>?_
   refine ye 5 hC h λ _ h=>?_
   refine ye 6 hC h λ _ h=>?_
   refine ye 7 hC h λ _ h=>?_
   refine ye 8 hC h λ _ h=>?_
   refine ye 9 hC h λ _ h=>?_
   refine yo 4 ?_
   refine yc h c35 λ _ w h=>zn ?_
   obtain ⟨hC,h⟩:=h
   refine ⟨hC,?_⟩
   refine yo 10 ?_
   refine yc h Zcq λ _ w h=>zn ?_
   obtain ⟨hC,h⟩:=h
   refine ⟨hC,?_⟩
   refine yo 11 ?_
   refine yS h λ _ w h=>zn ?_
   obtain ⟨hC,h⟩:=h
   refine ⟨hC,?_⟩
   refine yo 12 ?_
   refine yc h c74 λ _ w h=>zn ?_
   obtain ⟨hC,h⟩:=h
   refine ⟨hC,?_⟩
   refine ye 13 hC h λ _ h=>?_
   exact yt hT hC h
 · refine yi 2 hC ?_
   refine yi 3 hC ?_
   refine yi 5 hC ?_
   refine yi 6 hC ?_
   refine yi 7 hC ?_
   refine yi 8 hC ?_
   refine yi 9 hC ?_
   refine yi 4 hC ?_
   refine yi 10 hC ?_
   refine yi 11 hC ?_
   refine yi 12 hC ?_
   refine yi 13 hC ?_
   exact yt hT hC h
 refine yP 14 hC h λ _ h=>?_
 refine yw 15 hC ?_
 exact yz<|zk<|Zi<|Zk rfl rfl h
def Zdp (b:Vl) (R:RT) (w:Wd):Prop:=
 opV Pg (Zh .geq 3 true b (.int .i64 (-1048576))) (Zb R) w λ c w=>
 Zq (λ (a:Vl) (w:Wd)=>
 ZD c a (.bool false) λ e=>
 R (.returned e) w) λ d=>
 Zp c true (
 opV Pg (Zh .leq 3 true b (.int .i64 1048576)) (Zb R) w λ a w=>
 d a w) (
 d undef w)
theorem Zdq {t0:Vl} {R:RT} {w:Wd} (h:Zdp t0 R w):Calls Pg 253 #[t0] w R:=by
 refine yD func253 ?_
 refine zs<|zr<|zm<|zn<|zk<|zs<|Zr<|yG 3<|zm<|yb h λ _ w h=>zm<|zn<|yg1 2 2 true [6,7] 7 h (λ _ T hT h=>?_) λ σ w h=>?_
 · refine zm<|yb h λ _ w h=>zn ?_
   exact zt hT h
 exact yG 2<|yp h λ _ h=>zm<|zn<|ZK<|zk<|Zi<|Zk rfl rfl h
def ZdE (a b:Vl) (R:RT) (w:Wd):Prop:=
 Zg Pg 263 #[a,b] (Zb R) w λ c w=>
 opV Pg (Zh .geq 3 true c (.int .i64 0)) (Zb R) w λ d w=>
 R (.returned d) w
theorem ZdF {t0 t1:Vl} {R:RT} {w:Wd} (h:ZdE t0 t1 R w):Calls Pg 254 #[t0,t1] w R:=by
 refine yD func254 ?_
 refine zs<|zr<|zm<|zn<|zk<|zs<|zr<|zm<|zm<|yc h Zgz λ _ w h=>yb h λ _ w h=>zm<|zn<|zk<|Zi ?_
 exact Zk rfl rfl h
def BN (a b:Vl) (R:RT) (w:Wd):Prop:=
 opV Pg (fieldAt 123 a 5) (Zb R) w λ c w=>
 opV Pg (loadAt 3 c) (Zb R) w λ d w=>
 opV Pg (fieldAt 123 a 5) (Zb R) w λ e w=>
 opV Pg (loadAt 3 e) (Zb R) w λ f w=>
 opV Pg (Instr.build 300 #[(0,d),(1,f)]) (Zb R) w λ g w=>
 opU Pg (storeAt 300 b g) (Zb R) w λ w=>
 qW Pg 300 b w λ r0=>
 R (.returned (.tuple #[r0,(.int .i64 0)])) w
def BO (a b:Vl) (R:RT) (w:Wd):Prop:=
 opV Pg (fieldAt 123 a 5) (Zb R) w λ c w=>
 opV Pg (loadAt 3 c) (Zb R) w λ d w=>
 opV Pg (fieldAt 123 a 6) (Zb R) w λ e w=>
 opV Pg (loadAt 3 e) (Zb R) w λ f w=>
 opV Pg (Instr.build 300 #[(0,d),(1,f)]) (Zb R) w λ g w=>
 opU Pg (storeAt 300 b g) (Zb R) w λ w=>
 qW Pg 300 b w λ r0=>
 R (.returned (.tuple #[r0,(.int .i64 0)])) w
def BP (a:Vl) (R:RT) (w:Wd):Prop:=
 opV Pg (Instr.build 300 #[]) (Zb R) w λ b w=>
 opU Pg (storeAt 300 a b) (Zb R) w λ w=>
 qW Pg 300 a w λ r0=>
 R (.returned (.tuple #[r0,(.int .i64 2)])) w
def BQ (a b:Vl) (R:RT) (w:Wd):Prop:=
 opV Pg (fieldAt 123 a 1) (Zb R) w λ c w=>
 opV Pg (loadAt 117 c) (Zb R) w λ d w=>
 opV Pg (Zh .eql 117 true d (.int .i64 2)) (Zb R) w λ e w=>
 Zu e (
 BN a b R w) (
 BO a b R w)
def n64 (c:Vl) (R:RT) (w:Wd):Prop:=
 opV Pg (Instr.box 123 c) (Zb R) w λ a w=>
 opV Pg (Instr.alloc 300 true (.tuple #[])) (Zb R) w λ b w=>
 opV Pg (loadAt 123 a) (Zb R) w λ d w=>
 Zg Pg 264 #[d] (Zb R) w λ e w=>
 opV Pg (Op.unary .not e) (Zb R) w λ f w=>
 Zu f (
 BP b R w) (
 BQ a b R w)
theorem Zhu {t0:Vl} {R:RT} {w:Wd} (h:n64 t0 R w):Calls Pg 255 #[t0] w R:=by
 refine yD func255 ?_
 refine zs<|zr<|yv h λ _ w h=>yv h λ _ w h=>zm<|zn<|zk<|zs<|Zn<|zs<|zr<|yv h λ _ w h=>yc h ZgA λ _ w h=>yv h λ _ w h=>zm ?_
 refine zn<|zk<|yC h (λ h=>zs<|zr<|yB h λ _ w h=>yu h λ w h=>zm<|zn<|zk<|Zi<|Zj<|Zc<|YO rfl rfl rfl h) λ h=>zs<|zr<|yv h λ _ w h=>yv h λ _ w h=>yb h λ _ w h=>zm<|zn<|zk<|yC h (λ h=>zs<|zr<|yv h λ _ w h=>yv h λ _ w h=>yv h λ _ w h=>yv h λ _ w h=>yB h λ _ w h=>yu h λ w h=>zm<|zn<|zk<|Zi<|Zj<|Zc<|YO rfl rfl rfl h) λ h=>Zo ?_
 exact Zf<|zk<|zs<|zr<|yv h λ _ w h=>yv h λ _ w h=>yv h λ _ w h=>yv h λ _ w h=>yB h λ _ w h=>yu h λ w h=>zm<|zn<|zk<|Zi<|YO rfl rfl rfl h
def Zdw (a:Vl) (R:RT) (w:Wd):Prop:=
 opV Pg (Zh .eql 118 true a (Value.slice none 0 0)) (Zb R) w λ b w=>
 Zu b (
 R (.returned (Value.slice none 0 0)) w) (
 opV Pg (buildSlice 118 0 #[]) (Zb R) w λ c w=>
 opV Pg (Builtin.append_ #[118,118] 118 #[c,a]) (Zb R) w λ d w=>
 R (.returned d) w)
theorem Zdx {t0:Vl} {R:RT} {w:Wd} (h:Zdw t0 R w):Calls Pg 256 #[t0] w R:=by
 refine yD func256 ?_
 refine zs<|zr<|zm<|zn<|zk<|zs<|zs<|zr<|zm<|yb h λ _ w h=>zn<|zk<|yC h (λ h=>zs<|zr<|zm<|zn<|zk<|Zi<|Zc<|Zk rfl rfl h) λ h=>Zo ?_
 exact zk<|zs<|zr<|yS h λ _ w h=>zm<|yx h λ _ w h=>zm<|zn<|zk<|Zi<|Zk rfl rfl h
def jx (a b:Vl) (ZA:KV) (R:RT) (w:Wd):Prop:=
 opV Pg (Op.unary .not b) (Zb R) w λ c w=>
 Zu c (
 R (.returned (.tuple #[])) w) (
 opV Pg (Zh .add 3 true a (.int .i64 1)) (Zb R) w λ d w=>
 ZA d w)
def jy (c d a:Vl) (ZA:KV) (R:RT) (w:Wd):Prop:=
 opV Pg (indexAt 118 d a) (Zb R) w λ e w=>
 opV Pg (loadAt 128 e) (Zb R) w λ f w=>
 opV Pg (Instr.alloc 128 true (.tuple #[])) (Zb R) w λ b w=>
 opU Pg (storeAt 128 b f) (Zb R) w λ w=>
 opV Pg (fieldAt 128 b 0) (Zb R) w λ g w=>
 opV Pg (loadAt 9 g) (Zb R) w λ h w=>
 XO Pg c #[h] (Zb R) w λ i w=>
 jx a i ZA R w
def Zda (c d:Vl) (R:RT) (w:Wd):Prop:=
 opV Pg (loadAt 118 d) (Zb R) w λ a w=>
 opV Pg (Builtin.len_ #[118] 3 #[a]) (Zb R) w λ e w=>
 Xd (λ b w ZA=>
 opV Pg (Zh .lss 3 false b e) (Zb R) w λ f w=>
 Zu f (
 jy c a b ZA R w) (
 R (.returned (.tuple #[])) w)) (.int .i64 0) w
theorem Zdb {t0 t1:Vl} {R:RT} {w:Wd} (h:Zda t0 t1 R w):Calls Pg 257 #[t0,t1] w R:=by
 refine yD func257 ?_
 refine zs<|zr<|yv h λ _ w h=>yx h λ _ w h=>zm<|zn<|zk<|Zn<|yl1 [4,7,8,9,10,11,12,13,14,15,16] 7 h λ σ w next h=>zs<|zr<|yb h λ _ w h=>zn<|zk<|zs ?_
 refine yC h (λ h=>?_) λ h=>?_
 · refine Zo<|zk<|zs<|Zn<|zs<|zr<|yv h λ _ w h=>yv h λ _ w h=>yv h λ _ w h=>yu h λ w h=>zn<|zk<|zs<|zr<|zm ?_
   refine yv h λ _ w h=>yv h λ _ w h=>yV h λ _ w h=>yv h λ _ w h=>zn<|zk<|yC h (λ h=>Zi<|Zj<|Zc<|Zc<|Zj<|ZO rfl h) λ h=>Zo<|Zf<|zk<|zr<|yb h λ _ w h=>zm<|zn ?_
   exact zk<|⟨rfl,h⟩
 exact ZR<|Ze<|Ze<|Zx<|ZH<|ZO rfl h
def ZcY (b:Vl) (R:RT) (w:Wd):Prop:=
 opV Pg (Instr.box 300 b) (Zb R) w λ a w=>
 opV Pg (fieldAt 300 a 0) (Zb R) w λ c w=>
 opV Pg (loadAt 3 c) (Zb R) w λ d w=>
 opV Pg (Zh .geq 3 true d (.int .i64 0)) (Zb R) w λ e w=>
 opV Pg (fieldAt 300 a 0) (Zb R) w λ f w=>
 opV Pg (loadAt 3 f) (Zb R) w λ g w=>
 opV Pg (fieldAt 300 a 1) (Zb R) w λ h w=>
 opV Pg (loadAt 3 h) (Zb R) w λ i w=>
 opV Pg (Zh .leq 3 false g i) (Zb R) w λ j w=>
 opV Pg (fieldAt 300 a 1) (Zb R) w λ k w=>
 opV Pg (loadAt 3 k) (Zb R) w λ l w=>
 opV Pg (Zh .lss 3 true l (.int .i64 34359738368)) (Zb R) w λ m w=>
 opV Pg (buildSlice 170 3 #[(0,e),(1,j),(2,m)]) (Zb R) w λ n w=>
 Zg Pg 74 #[n] (Zb R) w λ o w=>
 R (.returned o) w
theorem ZcZ {t0:Vl} {R:RT} {w:Wd} (h:ZcY t0 R w):Calls Pg 258 #[t0] w R:=by
 refine yD func258 ?_
 refine zs<|zr<|yv h λ _ w h=>zm<|zn<|zk<|zs<|zr<|yv h λ _ w h=>yv h λ _ w h=>yb h λ _ w h=>yv h λ _ w h=>yv h λ _ w h=>yv h λ _ w h=>yv h λ _ w h=>?_
 exact yb h λ _ w h=>yv h λ _ w h=>yv h λ _ w h=>yb h λ _ w h=>yS h λ _ w h=>yc h c74 λ _ w h=>zm<|zn<|zk<|Zi<|Zk rfl rfl h
def Wq (b c d:Vl) (e:WPr) (a:PEn) (f:Nat→Wd→Prop) (R:RT) (w:Wd):Prop:=
 opV Pg (loadAt 311 b) a w λ g w=>
 opV Pg (loadAt 300 d) a w λ h w=>
 XO Pg g #[h] a w λ i w=>
 opV Pg (Op.unary .not i) a w λ j w=>
 Zu j (
 opU Pg (storeAt 49 c (.int .i64 2)) a w λ w=>
 f 0 w) (
 e w)
def Wr (f g h i j c:Vl) (k:WPr) (a:PEn) (l:Nat→Wd→Prop) (R:RT) (w:Wd):Prop:=
 opV Pg (loadAt 296 g) a w λ m w=>
 opV Pg (Instr.lookup 296 m c true) a w λ d w=>
 opV Pg (Instr.extract d 0) a w λ n w=>
 opV Pg (Instr.extract d 1) a w λ o w=>
 opV Pg (Instr.alloc 300 true (.tuple #[])) a w λ e w=>
 opU Pg (storeAt 300 e n) a w λ w=>
 opV Pg (loadAt 9 f) a w λ p w=>
 opV Pg (Zh .eql 9 false c p) a w λ q w=>
 Zq (λ (w:Wd)=>
 k w) λ b=>
 Zu q (
 b w) (
 opV Pg (Op.unary .not o) a w λ r w=>
 Zu r (
 opU Pg (storeAt 4 j (.bool true)) a w λ w=>
 b w) (
 Wq h i e b a l R w))
def Ws (a b:Vl) (ds:LDf) (R:RT) (w:Wd):Prop:=
 opV Pg (loadAt 4 b) (Zy Pg ds [(some 49,a)] R) w λ c w=>
 Zu c (
 opU Pg (storeAt 49 a (.int .i64 9)) (Zy Pg ds [(some 49,a)] R) w λ w=>
 VH Pg ds [(some 49,a)] R w) (
 opU Pg (storeAt 49 a (.int .i64 0)) (Zy Pg ds [(some 49,a)] R) w λ w=>
 VH Pg ds [(some 49,a)] R w)
def Wc (c d e a b f:Vl) (ds:LDf) (R:RT) (w:Wd):Prop:=
 An Pg f ds (λ l1 g w h i j=>
 qM l1 w λ w=>
 Wr c d e a b g h j i R w) (λ ch ds w=>Zy Pg ds [(some 49,a)] R ch w) w (λ ds w=>
 Ws a b ds R w) [λ ds w=>
 VH Pg ds [(some 49,a)] R w]
def Wt (c d e f a:Vl) (ds:LDf) (R:RT) (w:Wd):Prop:=
 opV Pg (Instr.alloc 4 true (.tuple #[])) (Zy Pg ds [(some 49,a)] R) w λ b w=>
 opU Pg (storeAt 4 b (.bool false)) (Zy Pg ds [(some 49,a)] R) w λ w=>
 opV Pg (loadAt 120 c) (Zy Pg ds [(some 49,a)] R) w λ g w=>
 Zg Pg 248 #[g] (Zy Pg ds [(some 49,a)] R) w λ h w=>
 Wc d e f a b h ds R w
def Wu (b c d e a f:Vl) (ds:LDf) (R:RT) (w:Wd):Prop:=
 opV Pg (Op.unary .not f) (Zy Pg ds [(some 49,a)] R) w λ g w=>
 Zu g (
 opU Pg (storeAt 49 a (.int .i64 2)) (Zy Pg ds [(some 49,a)] R) w λ w=>
 VH Pg ds [(some 49,a)] R w) (
 Wt b c d e a ds R w)
def ZbE (c d e f:Vl) (R:RT) (w:Wd):Prop:=
 (λ (ds:LDf)=>
 opV Pg (Instr.box 120 c) (Zy Pg ds [(some 49,undef)] R) w λ b w=>
 opV Pg (Instr.box 9 d) (Zy Pg ds [(some 49,undef)] R) w λ g w=>
 opV Pg (Instr.box 296 e) (Zy Pg ds [(some 49,undef)] R) w λ h w=>
 opV Pg (Instr.box 311 f) (Zy Pg ds [(some 49,undef)] R) w λ i w=>
 opV Pg (Instr.alloc 49 true (.tuple #[])) (Zy Pg ds [(some 49,undef)] R) w λ a w=>
 opV Pg (loadAt 120 b) (Zy Pg ds [(some 49,a)] R) w λ j w=>
 Zg Pg 246 #[j] (Zy Pg ds [(some 49,a)] R) w λ k w=>
 Wu b g h i a k ds R w) []
theorem Zdi {t0 t1 t2 t3:Vl} {R:RT} {w:Wd} (h:ZbE t0 t1 t2 t3 R w):Calls Pg 259 #[t0,t1,t2,t3] w R:=by
 refine yE func259 ?_
 unfold ZbE at h
 dsimp only at h
 refine zs<|zr<|yv h λ _ w h=>yv h λ _ w h=>yv h λ _ w h=>yv h λ _ w h=>yv h λ _ w h=>zn<|zk<|zs<|zs<|zr<|yv h λ _ w h=>yc h Zbi λ _ w h=>yv h λ _ w h=>?_
 refine zn<|zk<|yC h (λ h=>zs<|zr<|yu h λ w h=>zn<|zk<|Zi<|Zc<|XN rfl h) λ h=>Zo<|zk<|zs<|zr<|yv h λ _ w h=>yu h λ w h=>zn<|zk<|zs<|zs<|zr ?_
 refine yv h λ _ w h=>yc h Zcp λ _ w h=>zn<|zk<|Zn<|JO [.ret] h rfl (λ l1 t18 w Kr1 Xr1 Qr1 h=>?_) (λ ds w h=>?_) (λ c ds w h=>?_) (λ ch ds w h=>XM rfl h)
 · refine zr<|zm<|zn<|zk ?_
   obtain ⟨hr,h⟩:=h
   refine ⟨rfl,hr,λ w hb=>?_⟩
   have h:=h w hb
   refine Zn<|zs<|zr<|yv h λ _ w h=>zm<|yv h λ _ w h=>zm<|yv h λ _ w h=>yv h λ _ w h=>yv h λ _ w h=>yu h λ w h=>zm<|zn<|zk<|Zn ?_
   refine zs<|zr<|zm<|yv h λ _ w h=>yb h λ _ w h=>zm<|zn<|zk<|yJ0 [29,30,31,32,33,34,35,36] h (λ _ _ hkK2 h=>?_) λ σ w h=>?_
   · refine yC h (λ h=>?_) λ h=>?_
     · refine Zo<|zk ?_
       exact zt hkK2 h
     refine zs<|zr<|zm<|yv h λ _ w h=>zm<|zn<|zk<|yC h (λ h=>?_) λ h=>?_
     · refine zr<|yu h λ w h=>zn<|zk ?_
       exact zt hkK2 h
     refine zs<|zr<|yv h λ _ w h=>yv h λ _ w h=>yV h λ _ w h=>yv h λ _ w h=>zm<|zn<|zk<|yC h (λ h=>zs<|zr<|yu h λ w h=>zn<|zk<|Zi<|Zc<|Zj<|Zj<|⟨rfl,0,rfl,h⟩) λ h=>Zo<|zk ?_
     exact zt hkK2 h
   exact Zf<|Zf<|⟨rfl,h⟩
 · refine Zf<|zk<|zs<|zs<|zr<|yv h λ _ w h=>zn<|zk<|yC h (λ h=>zs<|zr<|yu h λ w h=>zn<|zk<|Zi<|Zc<|XN rfl h) λ h=>Zo<|zk<|zs<|zr<|yu h λ w h=>?_
   exact zn<|zk<|Zi<|XN rfl h
 rcases c with _ | c
 · refine ⟨_,rfl,.inl ⟨rfl,?_⟩⟩
   exact Zj<|Zc<|XN rfl h
 exact h.elim
def Zc0 (a b c:Vl) (R:RT) (w:Wd):Prop:=
 opV Pg (Instr.box 4 a) (Zb R) w λ d w=>
 opV Pg (loadAt 120 b) (Zb R) w λ e w=>
 opV Pg (makeFunc (.func 262) #[] #[c,d]) (Zb R) w λ f w=>
 Zg Pg 261 #[e,f] (Zb R) w λ g w=>
 R (.returned g) w
theorem Zc1 {t0 t1 t2:Vl} {R:RT} {w:Wd} (h:Zc0 t0 t1 t2 R w):Calls Pg 260 #[t0,t1,t2] w R:=by
 refine yD func260 ?_
 refine zs<|zr<|yv h λ _ w h=>zm<|zn<|zk<|zs<|zr<|yv h λ _ w h=>yF h λ _ w h=>yc h Zgx λ _ w h=>zm<|zn<|zk<|Zi ?_
 exact Zk rfl rfl h
open Go.RowKit (intOf)
def JG (c:UInt8):Bool:=(decide (65≤(c.toNat:Int))&&decide ((c.toNat:Int)≤90))||(decide (97≤(c.toNat:Int))&&decide ((c.toNat:Int)≤122))
def CJ (c:UInt8):Bool:=decide (48≤(c.toNat:Int))&&decide ((c.toNat:Int)≤57)
def AQ (c:UInt8):Bool:=JG c||CJ c||((c.toNat:Int) == 95)
def GL (v:Int):Bool:=decide (-1048576≤v)&&decide (v≤1048576)
def Yj (s:BAr):Bool:=decide (1≤(s.size:Int))&&decide ((s.size:Int)≤32)&&(match s.data.toList with | []=>false | c::_=>JG c)&&s.data.toList.all AQ
theorem jl (w0:Wd) (c:UInt8):Ret Pg 72 #[.int .u8 c.toNat] w0 λ r w'=>r = .bool (JG c)∧Ext w0 w':=by
 refine Zdm (R:=ZJ _) ?_;unfold Zdl
 simp (disch:=try exact DI) only [↓PR,QR,simprocAttr,↓Hd,↓He]
 unfold JG
 have e:=Ext.refl w0
 generalize decide (65≤(c.toNat:Int))=b1
 generalize decide ((c.toNat:Int)≤90)=b2
 generalize decide (97≤(c.toNat:Int))=b3
 generalize decide ((c.toNat:Int)≤122)=b4
 cases b1<;>cases b2<;>cases b3<;>cases b4<;>simp (disch:=try exact DI) only [↓PR,QR,simprocAttr,↓Hd,↓He]<;>exact ⟨by trivial,e⟩
theorem LD (w0:Wd) (c:UInt8):Ret Pg 73 #[.int .u8 c.toNat] w0 λ r w'=>r = .bool (CJ c)∧Ext w0 w':=by
 refine Zdk (R:=ZJ _) ?_;unfold Zdj
 simp (disch:=try exact DI) only [↓PR,QR,simprocAttr,Sw.joinK_eq]
 unfold CJ
 have e:=Ext.refl w0
 generalize decide (48≤(c.toNat:Int))=b1
 generalize decide ((c.toNat:Int)≤57)=b2
 cases b1<;>cases b2<;>simp (disch:=try exact DI) only [↓PR,QR,simprocAttr,Sw.joinK_eq]<;>exact ⟨by trivial,e⟩
theorem Cb (w0:Wd) (v:Int):Ret Pg 253 #[.int .i64 v] w0 λ r w'=>r = .bool (GL v)∧Ext w0 w':=by
 refine Zdq (R:=ZJ _) ?_;unfold Zdp
 simp (disch:=try exact DI) only [↓PR,QR,simprocAttr,Sw.joinK_eq]
 unfold GL
 have e:=Ext.refl w0
 generalize decide (-1048576≤v)=b1
 generalize decide (v≤1048576)=b2
 cases b1<;>cases b2<;>simp (disch:=try exact DI) only [↓PR,QR,simprocAttr,Sw.joinK_eq]<;>exact ⟨by trivial,e⟩
def qj (w:Wd) (v:Vl) (l:List Bool):Prop:=Zd w 1 Zb9 v l
theorem qA (w0:Wd) (v:Vl) (l:List Bool) (x:Bool) (hs:qj w0 v l) :
 Ret Pg 137 #[v,.bool x] w0 λ r w'=>r = .int .i64 (idx (x == ·) l)∧Ext w0 w':=by
 obtain ⟨A,c,rfl,hlc,hcm,hlm,YV⟩:=Zd.open hs
 refine Zd9 (R:=ZJ _) ?_;unfold Zd8
 simp (disch:=try exact DI) only [↓PR,QR,simprocAttr]
 refine ZQ (λ i w=>∃ k:Nat,i = .int .i64 k∧k≤l.length∧Ext w0 w∧∀ (j:Nat) y,j < k→l[j]?=some y→(x == y)=false) (λ i _=>l.length - (intOf i).toNat) ⟨0,rfl,by omega,Ext.refl _,λ j y h=>by omega⟩ ?_
 rintro i w ⟨k,rfl,hk,e,hb⟩
 by_cases Yq:k < l.length
 · obtain ⟨y,hy⟩:=getElem?_lt Yq
   obtain ⟨b,o,cs,rfl,hl,hA,rfl⟩:=YV k y hy
   have hd:decide ((k:Int) < (l.length:Int))=true:=by simp;omega
   have hc:w.cell? ⟨b,o+k*1,none⟩=some (.bool y):=(hA.ext e).cell 0 rfl
   simp (disch:=try exact DI) only [↓PR,QR,simprocAttr,hd,hc,↓Hg]
   cases hp:(x == y) with
   | true=>
    simp (disch:=try exact DI) only [↓PR,QR,simprocAttr]
    exact ⟨by rw [QJ hy hp hb],e⟩
   | false=>
    simp (disch:=try exact DI) only [↓PR,QR,simprocAttr]
    exact ⟨⟨k+1,rfl,by omega,e,before_succ hb hy hp⟩,by simp [intOf];omega⟩
 · have hd:decide ((k:Int) < (l.length:Int))=false:=by simp;omega
   simp (disch:=try exact DI) only [↓PR,QR,simprocAttr,hd,↓Hg]
   exact ⟨by rw [QK λ j y hy=>hb j y (by have:=(List.getElem?_eq_some_iff.1 hy).1;omega) hy],e⟩
theorem GP (w0:Wd) (v:Vl) (l:List Bool) (x:Bool) (hs:qj w0 v l) :
 Ret Pg 107 #[v,.bool x] w0 λ r w'=>r = .bool (l.any (x == ·))∧Ext w0 w':=by
 refine ZdL (R:=ZJ _) ?_;unfold ZdK
 refine Zl (qA _ _ l x hs) ?_
 rintro r w' ⟨rfl,e⟩
 simp (disch:=try exact DI) only [↓PR,QR,simprocAttr,Sw.joinK_eq]
 exact ⟨by rw [W4],e⟩
theorem Cp (w0:Wd) (v:Vl) (l:List Bool) (hs:qj w0 v l) :
 Ret Pg 74 #[v] w0 λ r w'=>r = .bool (l.all id)∧Ext w0 w':=by
 refine Zdh (R:=ZJ _) ?_;unfold Zdg
 refine Zl (GP _ _ l false hs) ?_
 rintro r w' ⟨rfl,e⟩
 simp (disch:=try exact DI) only [↓PR,QR,simprocAttr,Sw.joinK_eq]
 refine ⟨?_,e⟩
 congr 1
 clear hs
 induction l with
 | nil=>rfl
 | cons a l ih=>cases a<;>simp_all
theorem FF (w0:Wd) (c:UInt8):Ret Pg 71 #[.int .u8 c.toNat] w0 λ r w'=>r = .bool (!AQ c)∧Ext w0 w':=by
 refine Zc7 (R:=ZJ _) ?_;unfold Zc6
 refine Zl (jl _ c) ?_
 rintro r w' ⟨rfl,e⟩
 simp (disch:=try exact DI) only [↓PR,QR,simprocAttr,↓yf,↓yg]
 unfold AQ
 cases JG c with
 | true=>simp (disch:=try exact DI) only [↓PR,QR,simprocAttr,↓yf,↓yg];exact ⟨by trivial,e⟩
 | false=>
  simp (disch:=try exact DI) only [↓PR,QR,simprocAttr,↓yf,↓yg]
  refine Zl (LD _ c) ?_
  rintro r w2 ⟨rfl,e2⟩
  have e3:=e.trans e2
  cases CJ c with
  | true=>simp (disch:=try exact DI) only [↓PR,QR,simprocAttr,↓yf,↓yg];exact ⟨by trivial,e3⟩
  | false=>simp (disch:=try exact DI) only [↓PR,QR,simprocAttr,↓yf,↓yg];exact ⟨by trivial,e3⟩
def GO (w:Wd) (v:Vl) (l:List UInt8):Prop:=Zd w 1 Bk v l
theorem U7 (w0:Wd) (v:Vl) (l:List UInt8) (g:FuncId) (caps:AVl) (p:UInt8→Bool) (hs:GO w0 v l) (hg:Callable Pg g) (hc:Uh w0 (λ _ v x=>v = .int .u8 (x.toNat:Int)) g caps p l) :
 Ret Pg 75 #[v,.func (.func g) #[] caps] w0 λ r w'=>r = .bool (l.any p)∧Ext w0 w':=by
 refine ZdH (R:=ZJ _) ?_;unfold ZdG
 refine Zl (Gf _ _ l g caps p hs hg hc) ?_
 rintro r w' ⟨rfl,e⟩
 simp (disch:=try exact DI) only [↓PR,QR,simprocAttr,Sw.joinK_eq]
 exact ⟨by rw [W4],e⟩
theorem qL (w:Wd) (l:List Bool) (T:TypeId) (hl:l.length≤9223372036854775807):qj (w.alloc (.cells (l.map Value.bool).toArray T)) (.slice (some ⟨w.heap.size,0,none⟩) l.length l.length) l:=Zd.new1 _ (λ _ _=>rfl) w l T hl
theorem M0 {w:Wd} {p:Nat} (hp:p=w.heap.size) (a b:Bool) (T:TypeId):Ret Pg 74 #[.slice (some ⟨p,0,none⟩) 2 2] (w.alloc (.cells #[.bool a,.bool b] T)) λ r w'=>r = .bool (a&&b)∧Ext (w.alloc (.cells #[.bool a,.bool b] T)) w':=by
 subst hp
 have h:=Cp _ _ [a,b] (qL w [a,b] T (by simp))
 simpa using h
theorem DL {w:Wd} {p:Nat} (hp:p=w.heap.size) (a b c:Bool) (T:TypeId):Ret Pg 74 #[.slice (some ⟨p,0,none⟩) 3 3] (w.alloc (.cells #[.bool a,.bool b,.bool c] T)) λ r w'=>r = .bool (a&&b&&c)∧Ext (w.alloc (.cells #[.bool a,.bool b,.bool c] T)) w':=by
 subst hp
 have h:=Cp _ _ [a,b,c] (qL w [a,b,c] T (by simp))
 simpa [Bool.and_assoc] using h
theorem Ud (w0:Wd) (s:BAr):Ret Pg 35 #[.string s] w0 λ r w'=>r = .bool (Yj s)∧Ext w0 w':=by
 refine Zc5 (R:=ZJ _) ?_;unfold Zc4
 simp (disch:=try exact DI) only [↓PR,QR,simprocAttr,↓Gr,↓Gs]
 have e1:Ext w0 (w0.alloc (.cells #[.bool (decide (1≤(s.size:Int))),.bool (decide ((s.size:Int)≤32))] 4)):=(Ext.refl w0).alloc _
 refine Zl (Cp _ _ [decide (1≤(s.size:Int)),decide ((s.size:Int)≤32)] (qL w0 [decide (1≤(s.size:Int)),decide ((s.size:Int)≤32)] 4 (by simp))) ?_
 rintro r w1 ⟨rfl,e2⟩
 have e:=e1.trans e2
 have hall:[decide (1≤(s.size:Int)),decide ((s.size:Int)≤32)].all id=(decide (1≤(s.size:Int))&&decide ((s.size:Int)≤32)):=by simp
 rw [hall]
 unfold Yj
 cases h1:(decide (1≤(s.size:Int))&&decide ((s.size:Int)≤32)) with
 | false=>simp (disch:=try exact DI) only [↓PR,QR,simprocAttr,↓Gr,↓Gs];exact ⟨by trivial,e⟩
 | true=>
  simp (disch:=try exact DI) only [↓PR,QR,simprocAttr,↓Gr,↓Gs]
  have XA:s.size≤9223372036854775807:=by simp only [Bool.and_eq_true,decide_eq_true_eq] at h1;omega
  obtain ⟨c,cs,hcs⟩:∃ c cs,s.data.toList=c::cs:=by
   simp only [Bool.and_eq_true,decide_eq_true_eq] at h1
   cases hd:s.data.toList with
   | nil=>
    have:s.data.size=0:=by rw [← Array.length_toList,hd];rfl
    have h0:s.size=s.data.size:=rfl
    omega
   | cons c cs=>exact ⟨c,cs,rfl⟩
  rw [UP underlying9 s .i64 (b:=c) (by rw [hcs];rfl)]
  refine Zl (jl _ c) ?_
  rintro r w2 ⟨rfl,e3⟩
  have e:=e.trans e3
  rw [hcs]
  cases hl:JG c with
  | false=>simp (disch:=try exact DI) only [↓PR,QR,simprocAttr,↓Gr,↓Gs];exact ⟨by rw [hl];rfl,e⟩
  | true=>
   simp (disch:=try exact DI) only [↓PR,QR,simprocAttr,↓Gr,↓Gs]
   refine Ad underlying9 underlying40 underlying5 s XA ?_
   rintro v w3 e4 ⟨A,cp,rfl,hc1,hc2,b,rfl,XJ⟩
   have JA:s.data.toList.length=s.size:=by rw [Array.length_toList];rfl
   have hB:GO w3 (.slice (some ⟨b,0,none⟩) s.size cp) s.data.toList:=by
    rw [← JA]
    refine ⟨_,_,rfl,by omega,hc2,λ _=>⟨_,_,rfl,λ k x hx=>⟨[.int .u8 x.toNat],rfl,λ j v hv=>?_,rfl⟩⟩⟩
    cases j with
    | zero=>injection hv with hv;subst hv;simpa using XJ k x hx
    | succ j=>cases hv
   have e:=e.trans e4
   refine Zl (U7 _ _ s.data.toList _ _ (λ x=>!AQ x) hB c71 ?_) ?_
   · rintro w v x _ _ rfl
     exact FF w x
   · rintro r w4 ⟨rfl,e5⟩
     simp (disch:=try exact DI) only [↓PR,QR,simprocAttr,↓Gr,↓Gs]
     refine ⟨?_,e.trans e5⟩
     rw [hcs,hl]
     congr 1
     generalize c::cs=l
     clear hall
     induction l with
     | nil=>rfl
     | cons a l ih=>simp only [List.any_cons,List.all_cons,Bool.not_or,Bool.not_not,Bool.true_and] at *;rw [ih]
def x7 (t:YU):Bool:=Yj t.field&&(t.factor != 0)&&GL t.factor
theorem DH (w:Wd) (t:YU) (pb r:Nat) (names:List BAr) (XJ:w.cell? ⟨pb,0,none⟩=some (.map (some r))) (hm:UW w r names) :
 Ret Pg 252 #[VX t,.pointer (some ⟨pb,0,none⟩)] w λ v w'=>v = .bool (za names t.field||!x7 t)∧UW w' r (names++[t.field])∧w'.cell? ⟨pb,0,none⟩=some (.map (some r)) ∧
  ∀ w0,Ext w0 w→w0.heap.size≤r→Ext w0 w':=by
 have hpb:pb < w.heap.size:=World.block_lt_of_cell? w _ XJ
 obtain ⟨L,c,hM,hl⟩:=hm
 refine Zdf (R:=ZJ _) ?_;unfold Zde
 unfold VX
 simp (disch:=try exact DI) only [↓PR,QR,simprocAttr,XJ]
 have e1:Ext w (w.alloc (.cells #[.string t.field,.int .i64 t.factor] 128)):=(Ext.refl w).alloc _
 rw [xT underlying199 underlying9 ty4 (hM.ext e1)]
 simp (disch:=try exact DI) only [↓PR,QR,simprocAttr,XJ]
 rw [J4 underlying199 underlying9 (hM.ext e1)]
 obtain ⟨W,hW⟩:∃ W,((w.alloc (.cells #[.string t.field,.int .i64 t.factor] 128)).putObj r (JH (V7 L c t.field (.bool true)) (Uz L c t.field)))=W:=⟨_,rfl⟩
 have hS:UW W r (names++[t.field]):=by rw [← hW];exact UW.put (hM.ext e1) hl _
 have hC:W.cell? ⟨pb,0,none⟩=some (.map (some r)):=by rw [← hW,Kk (hM.ext e1)];exact e1.cell XJ
 have hE:∀ w0,Ext w0 w→w0.heap.size≤r→Ext w0 W:=λ w0 h0 hr=>by rw [← hW];exact (h0.trans e1).putObj hr _
 have hA0:W.cell? ⟨w.heap.size,0,none⟩=some (.string t.field):=by rw [← hW,Kk (hM.ext e1),Qp];rfl
 have hA1:W.cell? ⟨w.heap.size,1,none⟩=some (.int .i64 t.factor):=by rw [← hW,Kk (hM.ext e1),Qp];rfl
 rw [hW]
 refine ZG ?_
 have ht8:(Sw.look L t.field).getD (.bool false) = .bool (za names t.field):=by rw [hl];cases za names t.field<;>rfl
 rw [ht8]
 have fin:∀ b w',Ext W w'→b=(za names t.field||!x7 t)→(Value.bool b = .bool (za names t.field||!x7 t)∧UW w' r (names++[t.field])∧w'.cell? ⟨pb,0,none⟩=some (.map (some r))∧∀ w0,Ext w0 w→w0.heap.size≤r→Ext w0 w'):=
  λ b w' e hb=>⟨by rw [hb],hS.ext e,e.cell hC,λ w0 h0 hr=>(hE w0 h0 hr).trans e⟩
 cases NC:za names t.field with
 | true=>
  simp (disch:=try exact DI) only [↓PR,QR,simprocAttr,↓jz,↓jA]
  exact ⟨trivial,(fin (true||!x7 t) _ (Ext.refl _).wdrew (by rw [NC])).2⟩
 | false=>
  simp (disch:=try exact DI) only [↓PR,QR,simprocAttr,↓jz,↓jA,hA0,hA1]
  refine zcr (Ud _ t.field) λ w1 e2=>?_
  refine ⟨e2,?_⟩
  refine zcr (Cb _ t.factor) λ w2 e3=>?_
  refine ⟨e2.trans e3,?_⟩
  simp (disch:=try exact DI) only [↓PR,QR,simprocAttr,↓jz,↓jA]
  have e:=e2.trans e3
  refine ⟨e.alloc _,?_⟩
  refine zcr (DL rfl _ _ _ _) λ w3 e4=>?_
  refine ⟨(e.alloc _).trans e4,?_⟩
  simp (disch:=try exact DI) only [↓PR,QR,simprocAttr,↓jz,↓jA]
  exact ⟨rfl,(fin (!x7 t) w3 (((Ext.refl _).wdrew).trans ((e.alloc _).trans e4)) (by rw [NC];rfl)).2⟩
def AH:List BAr→List YU→Bool
 | _,[]=>true
 | seen,t::ts=>!(za seen t.field)&&x7 t&&AH (seen++[t.field]) ts
theorem AI:∀ (ts:List YU) (seen:List BAr),AH seen ts=true↔∀ k x,ts[k]?=some x→(za (seen++(ts.take k).map (·.field)) x.field||!x7 x)=false
 | [],seen=>by simp [AH]
 | t::ts,seen=>by
  simp only [AH,Bool.and_eq_true,AI ts]
  constructor
  · rintro ⟨⟨h1,h2⟩,h3⟩ k x hx
    cases k with
    | zero=>simp at hx;subst hx;simpa using ⟨by simpa using h1,h2⟩
    | succ k=>have:=h3 k x (by simpa using hx);simpa using this
  · intro h
    refine ⟨?_,λ k x hx=>by simpa using h (k+1) x (by simpa using hx)⟩
    have:=h 0 t rfl
    simp at this
    exact ⟨by rw [this.1];rfl,this.2⟩
theorem Kc (w0 w1:Wd) (v:Vl) (l:List YU) (g:FuncId) (caps:AVl) (p:Nat→Bool) (J:Nat→Wd→Prop) (hs:ZW w0 v l) (hg:Callable Pg g) (hJ:∀ k w,J k w→Ext w0 w) (h0:J 0 w1)
 (hc:∀ k x w u,l[k]?=some x→J k w→(λ _ v x=>v=VX x) w u x→Ret Pg g (#[u]++caps) w λ r w'=>r = .bool (p k)∧J (k+1) w') :
 Ret Pg 254 #[v,.func (.func g) #[] caps] w1 λ r w'=>r = .bool ((List.range l.length).any p)∧∃ k,J k w':=by
 refine ZdF (R:=ZJ _) ?_;unfold ZdE
 refine Zl (GS w0 _ _ l g caps p J hs hg hJ h0 hc) ?_
 rintro r w' ⟨rfl,e⟩
 simp (disch:=try exact DI) only [↓PR,QR,simprocAttr,Sw.joinK_eq]
 exact ⟨by rw [W4],e⟩
def Js (base:Int) (ts:List YU):Bool:=GL base&&decide (ts.length≤4)&&AH [] ts
theorem zG (w0:Wd) (v:Vl) (base:Int) (ts:List YU) (hs:GW w0 v base ts) :
 Ret Pg 246 #[v] w0 λ r w'=>r = .bool (Js base ts)∧Ext w0 w':=by
 obtain ⟨tv,rfl,hT⟩:=hs
 refine Zdd (R:=ZJ _) ?_;unfold Zdc
 simp (disch:=try exact DI) only [↓PR,QR,simprocAttr]
 obtain ⟨A,c,rfl,hlc,hcm,hlm,YV⟩:=Zd.open hT
 obtain ⟨W1,hW1⟩:∃ W1,w0.alloc (.cells #[.int .i64 base,.slice A ts.length c] 120)=W1:=⟨_,rfl⟩
 have e0:Ext w0 W1:=by rw [← hW1];exact (Ext.refl w0).alloc _
 have hc0:W1.cell? ⟨w0.heap.size,0,none⟩=some (.int .i64 base):=by rw [← hW1];simp (disch:=try exact DI) only [↓PR,QR,simprocAttr]
 have hc1:W1.cell? ⟨w0.heap.size,1,none⟩=some (.slice A ts.length c):=by rw [← hW1];simp (disch:=try exact DI) only [↓PR,QR,simprocAttr]
 have JA:w0.heap.size+1=W1.heap.size:=by rw [← hW1];simp (disch:=try exact DI) only [↓PR,QR,simprocAttr]
 simp only [hW1,JA]
 refine CK (w1:=W1) (((Ext.refl W1).alloc _).alloc _) ?_
 simp (disch:=try exact DI) only [↓PR,QR,simprocAttr,↓yj,↓yl,↓ym,hc0,hc1]
 generalize hW:(World.drew _)=W
 have e1:Ext W1 W:=by rw [← hW];exact (((Ext.refl W1).alloc _).alloc _).wdrew
 have hpb:W.cell? ⟨W1.heap.size+1,0,none⟩=some (.map (some W1.heap.size)):=by rw [← hW];simp (disch:=try exact DI) only [↓PR,QR,simprocAttr]
 have hset:UW W W1.heap.size []:=by
  rw [← hW]
  have h:=(qE.new W1).ext (((Ext.refl _).alloc (Obj.cells (#[Value.map none].setIfInBounds 0 (Value.map (some W1.heap.size))) 199)).wdrew)
  exact ⟨[],0,by simpa using h,λ s=>rfl⟩
 clear hW
 refine zcr (Cb _ base) λ w1 e2=>?_
 refine ⟨e1.trans e2,?_⟩
 simp (disch:=try exact DI) only [↓PR,QR,simprocAttr]
 refine ⟨e1.trans (e2.alloc _),?_⟩
 refine zcr (M0 rfl _ _ _) λ w2 e3=>?_
 replace e2:=(e2.alloc _).trans e3
 refine ⟨e1.trans e2,?_⟩
 simp (disch:=try exact DI) only [↓PR,QR,simprocAttr,↓yj,↓yl,↓ym]
 unfold Js
 cases hb:(GL base&&decide (ts.length≤4)) with
 | false=>
  have hb':(GL base&&decide ((ts.length:Int)≤4))=false:=by rw [← hb];congr 1;simp;omega
  rw [hb']
  simp (disch:=try exact DI) only [↓PR,QR,simprocAttr,↓yj,↓yl,↓ym,hc0,hc1]
  exact ⟨by trivial,e0.trans (e1.trans e2)⟩
 | true=>
  have hb':(GL base&&decide ((ts.length:Int)≤4))=true:=by rw [← hb];congr 1;simp;omega
  rw [hb']
  simp (disch:=try exact DI) only [↓PR,QR,simprocAttr,↓yj,↓yl,↓ym,hc0,hc1]
  refine Zl (Kc W1 w2 _ ts 252 _ (λ k=>match ts[k]? with | some t=>za ((ts.take k).map (·.field)) t.field||!x7 t | none=>true) (λ k w=>UW w W1.heap.size ((ts.take k).map (·.field))∧w.cell? ⟨W1.heap.size+1,0,none⟩=some (.map (some W1.heap.size))∧Ext W1 w) (hT.ext e0) Zgr (λ k w h=>h.2.2) ⟨hset.ext e2,e2.cell hpb,e1.trans e2⟩ ?_) ?_
  · rintro k x w u hx ⟨h1,h2,h3⟩ rfl
    simp only [JA]
    refine Ret.mono (DH w x _ _ _ h2 h1) ?_
    rintro v w' ⟨rfl,h4,h5,h6⟩
    refine ⟨by rw [hx],?_,h5,h6 _ h3 (Nat.le_refl _)⟩
    rw [List.take_add_one,hx]
    simpa using h4
  · rintro _ w3 ⟨rfl,k,h1,h2,h3⟩
    refine ⟨h3,?_⟩
    simp (disch:=try exact DI) only [↓PR,QR,simprocAttr,↓yj,↓yl,↓ym]
    refine ⟨?_,e0.trans h3⟩
    congr 1
    rw [Bool.eq_iff_iff,AI,Bool.not_eq_true',List.any_eq_false]
    simp only [List.mem_range,List.nil_append]
    constructor
    · intro h k x hx
      have:=h k (List.getElem?_eq_some_iff.1 hx).1
      rw [hx] at this
      simpa using this
    · intro h k hk
      rw [List.getElem?_eq_getElem hk]
      have:=h k _ (List.getElem?_eq_getElem hk)
      simpa using this
def W6 (f:Zt):Bool:=f.kind == 1||f.kind == 2||f.kind == 3
def V4 (f:Zt):Int:=if f.kind == 2 then f.low else f.high
abbrev Ys (lo hi:Int):Vl := .agg #[.int .i64 lo,.int .i64 hi]
theorem FG (w0:Wd) (v:Vl) (f:Zt) (hf:ZZ w0 v f):Ret Pg 264 #[v] w0 λ r w'=>r = .bool (W6 f)∧Ext w0 w':=by
 obtain ⟨tv,cv,rfl,hT,hC⟩:=hf
 refine Zht (R:=ZJ _) ?_;unfold n63
 simp (disch:=try exact DI) only [↓PR,QR,simprocAttr,↓ZaE]
 exact ⟨by first | trivial | rfl,ee⟩
theorem Lk (w0:Wd) (v:Vl) (f:Zt) (hf:ZZ w0 v f):Ret Pg 255 #[v] w0 λ r w'=>r = .tuple #[if W6 f then Ys f.low (V4 f) else Ys 0 0,.int .i64 (if W6 f then 0 else 2)]∧Ext w0 w':=by
 obtain ⟨tv,cv,rfl,hT,hC⟩:=hf
 refine Zhu (R:=ZJ _) ?_;unfold n64
 simp (disch:=try exact DI) only [↓PR,QR,simprocAttr,↓BN,↓BO,↓BP,↓BQ]
 refine zcr (FG _ _ f ⟨tv,cv,rfl,ZW.ext hT ee,Yh.ext hC ee⟩) λ w1 e1=>?_
 have s1:=e1.size
 try simp only [World.size_alloc,World.size_setCell,World.size_drew,World.putObj_size,Sw.putW_size] at s1
 cases hn:W6 f with
 | false=>
  simp (disch:=try exact DI) only [↓PR,QR,simprocAttr,↓BN,↓BO,↓BP,↓BQ,e1.cellQ,e1.frozenQ]
  exact ⟨by first | trivial | rfl,ee⟩
 | true=>
  simp (disch:=try exact DI) only [↓PR,QR,simprocAttr,↓BN,↓BO,↓BP,↓BQ,e1.cellQ,e1.frozenQ]
  unfold V4
  cases f.kind == 2
  · simp (disch:=try exact DI) only [↓PR,QR,simprocAttr,↓BN,↓BO,↓BP,↓BQ,e1.cellQ,e1.frozenQ]
    exact ⟨by first | trivial | rfl,ee⟩
  · simp (disch:=try exact DI) only [↓PR,QR,simprocAttr,↓BN,↓BO,↓BP,↓BQ,e1.cellQ,e1.frozenQ]
    exact ⟨by first | trivial | rfl,ee⟩
theorem G6 (w0:Wd) (v:Vl) (l:List Y8) (g:FuncId) (caps:AVl) (p:Y8→Bool) (hs:Va w0 v l) (hg:Callable Pg g) (hc:Uh w0 QV g caps p l) :
 Ret Pg 138 #[v,.func (.func g) #[] caps] w0 λ r w'=>r = .tuple #[.int .i64 (if idx p l < 0 then 0 else idx p l),.bool (l.any p)]∧Ext w0 w':=by
 refine ZhL (R:=ZJ _) ?_;unfold n81
 refine zcr (U8 _ _ l g caps p hs hg hc) λ w1 e1=>?_
 have s1:=e1.size
 try simp only [World.size_alloc,World.size_setCell,World.size_drew,World.putObj_size,Sw.putW_size] at s1
 simp (disch:=try exact DI) only [↓PR,QR,simprocAttr,↓ZaP]
 exact ⟨by rw [W4],e1⟩
theorem qc (w0:Wd) (v:Vl) (l:List Zt) (g:FuncId) (caps:AVl) (p:Zt→Bool) (hs:YC w0 v l) (hg:Callable Pg g) (hc:Uh w0 ZZ g caps p l) :
 Ret Pg 164 #[v,.func (.func g) #[] caps] w0 λ r w'=>r = .tuple #[.int .i64 (if idx p l < 0 then 0 else idx p l),.bool (l.any p)]∧Ext w0 w':=by
 refine ZhK (R:=ZJ _) ?_;unfold n80
 refine zcr (WV _ _ l g caps p hs hg hc) λ w1 e1=>?_
 have s1:=e1.size
 try simp only [World.size_alloc,World.size_setCell,World.size_drew,World.putObj_size,Sw.putW_size] at s1
 simp (disch:=try exact DI) only [↓PR,QR,simprocAttr,↓ZaO]
 exact ⟨by rw [W4],e1⟩
def LO {α:Type} (p:α→Bool) (l:List α):Int:=if idx p l < 0 then 0 else idx p l
theorem DF (w0:Wd) (v:Vl) (f:Zt) (pb:Nat) (s:BAr) (hf:ZZ w0 v f) (hp:w0.cell? ⟨pb,0,none⟩=some (.string s)):Ret Pg 165 #[v,.pointer (some ⟨pb,0,none⟩)] w0 λ r w'=>r = .bool (decide (f.name=s))∧Ext w0 w':=by
 obtain ⟨tv,cv,rfl,hT,hC⟩:=hf
 have hb:=World.block_lt_of_cell? w0 _ hp
 simp only at hb
 refine Zhq (R:=ZJ _) ?_;unfold n60
 simp (disch:=try exact DI) only [↓PR,QR,simprocAttr,Sw.joinK_eq,hp]
 exact ⟨by first | trivial | rfl,ee⟩
theorem FE (w0:Wd) (v:Vl) (m:Y8) (pb:Nat) (s:BAr) (hf:QV w0 v m) (hp:w0.cell? ⟨pb,0,none⟩=some (.string s)):Ret Pg 139 #[v,.pointer (some ⟨pb,0,none⟩)] w0 λ r w'=>r = .bool (decide (m.name=s))∧Ext w0 w':=by
 obtain ⟨fv,rfl,hF⟩:=hf
 have hb:=World.block_lt_of_cell? w0 _ hp
 simp only at hb
 refine Zhs (R:=ZJ _) ?_;unfold n62
 simp (disch:=try exact DI) only [↓PR,QR,simprocAttr,Sw.joinK_eq,hp]
 exact ⟨by first | trivial | rfl,ee⟩
theorem zD (w0:Wd) (v:Vl) (m:Y8) (s:BAr) (hm:QV w0 v m):Ret Pg 140 #[v,.string s] w0 λ r w'=>r = .tuple #[.int .i64 (LO (λ f=>decide (f.name=s)) m.fields),.bool (m.fields.any λ f=>decide (f.name=s))]∧Ext w0 w':=by
 obtain ⟨fv,rfl,hF⟩:=hm
 refine Zhp (R:=ZJ _) ?_;unfold n59
 simp (disch:=try exact DI) only [↓PR,QR,simprocAttr,Sw.joinK_eq]
 refine Zl (qc _ _ m.fields _ _ (λ f=>decide (f.name=s)) (hF.ext ee) ZfR ?_) ?_
 · intro w v f hf e hv
   exact DF w v f _ s hv (e.cell (by simp (disch:=try exact DI) only [↓PR,QR,simprocAttr]))
 rintro _ w1 ⟨rfl,e1⟩
 simp (disch:=try exact DI) only [↓PR,QR,simprocAttr,Sw.joinK_eq]
 exact ⟨by first | trivial | rfl,ee⟩
theorem MU (w0:Wd) (v:Vl) (d:Qk) (s:BAr) (hd:XU w0 v d):Ret Pg 109 #[v,.string s] w0 λ r w'=>r = .tuple #[.int .i64 (LO (λ m=>decide (m.name=s)) d.msgs),.bool (d.msgs.any λ m=>decide (m.name=s))]∧Ext w0 w':=by
 obtain ⟨fv,rfl,hF⟩:=hd
 refine Zhr (R:=ZJ _) ?_;unfold n61
 simp (disch:=try exact DI) only [↓PR,QR,simprocAttr,Sw.joinK_eq]
 refine Zl (G6 _ _ d.msgs _ _ (λ m=>decide (m.name=s)) (hF.ext ee) ZfJ ?_) ?_
 · intro w v f hf e hv
   exact FE w v f _ s hv (e.cell (by simp (disch:=try exact DI) only [↓PR,QR,simprocAttr]))
 rintro _ w1 ⟨rfl,e1⟩
 simp (disch:=try exact DI) only [↓PR,QR,simprocAttr,Sw.joinK_eq]
 exact ⟨by first | trivial | rfl,ee⟩
open Go.RowKit (intOf Below)
theorem qv (w0:Wd) (v:Vl) (css:List (Cs 2)) (hs:Zd w0 2 (λ _ cs x=>cs=x.1) v css) (h1:∀ x∈css,∀ u∈x.1,u.oneCell'=true) (hb:css.length≤1048576) :
 Ret Pg 256 #[v] w0 λ r w'=>ZT w' w0.heap.size 128 2 Subtype.val r css∧Ext w0 w':=by
 obtain ⟨A,c,rfl,hlc,hcm,hlm,YV⟩:=Zd.open hs
 refine Zdx (R:=ZJ _) ?_;unfold Zdw
 simp (disch:=try exact DI) only [↓PR,QR,simprocAttr]
 cases A with
 | none=>
  have:css=[]:=by
   cases css with
   | nil=>rfl
   | cons x l=>obtain ⟨_,_,_,h,_⟩:=YV 0 x rfl;cases h
  subst this
  simp only [Option.isNone_none]
  simp (disch:=try exact DI) only [↓PR,QR,simprocAttr]
  exact ⟨ZT.nil _ _ _ _ _,ee⟩
 | some a=>
  simp only [Option.isNone_some]
  simp (disch:=try exact DI) only [↓PR,QR,simprocAttr]
  have hO:=ZT.new w0 128 2 (Subtype.val:Cs 2→List Vl) [] (λ x=>x.2) (by simp)
  simp only [List.flatMap_nil,List.length_nil] at hO
  have eW:Ext w0 (w0.alloc (.cells #[] 128)):=ee
  have JA:w0.heap.size≤(w0.alloc (.cells #[] 128)).heap.size:=eW.size
  generalize w0.alloc (.cells #[] 128)=W at hO eW JA ⊢
  cases hcs:css with
  | nil=>
   subst hcs
   simp only [List.length_nil]
   rw [HK underlying118 Gc _ _ _ _ _ (Nat.le_refl 0)]
   simp (disch:=try exact DI) only [↓PR,QR,simprocAttr]
   exact ⟨hO,eW⟩
  | cons x0 l0=>
   obtain ⟨b,o,_,hA,_⟩:=YV 0 x0 (by rw [hcs];rfl)
   injection hA with hA
   subst hA
   rw [← hcs]
   refine Wv underlying118 Gc rfl (by decide) (λ x=>x.2) h1 hO (λ j x hx=>?_) JA ?_ (by simp;omega) ?_
   · obtain ⟨b',o',cs,hA',hl',hE,rfl⟩:=YV j x hx
     injection hA' with hA'
     injection hA' with h3 h4
     subst h3 h4
     exact hE.ext eW
   · have:=Zcc
     rw [List.length_nil,Nat.zero_add]
     exact Nat.le_trans (Nat.mul_le_mul hb this) (by decide)
   · intro v' w' ho hg
     simp (disch:=try exact DI) only [↓PR,QR,simprocAttr]
     refine ⟨ho,eW.grown hg ?_⟩
     intro k hk
     have h:=hO.lt k hk
     exact h.1
theorem MT.one {w:Wd} {cs:List Vl} {m:Y8} (h:MT w cs m):∀ u∈cs,u.oneCell'=true:=by
 obtain ⟨fv,rfl,h1⟩:=h
 have:=h1.oneCell
 intro u hu
 simp only [List.mem_cons,List.not_mem_nil,or_false] at hu
 rcases hu with rfl | rfl
 · rfl
 · exact this
theorem Bl.one {w:Wd} {cs:List Vl} {t:YU} (h:Bl w cs t):∀ u∈cs,u.oneCell'=true:=by
 obtain rfl:=h
 intro u hu
 simp only [List.mem_cons,List.not_mem_nil,or_false] at hu
 rcases hu with rfl | rfl<;>rfl
def XP (l:List Zt):List (BAr×Vl):=(l.filter W6).map λ f=>(f.name,Ys f.low (V4 f))
theorem J2 (l:List Zt) (f:Zt):XP (l++[f])=XP l++(if W6 f then [(f.name,Ys f.low (V4 f))] else []):=by
 unfold XP
 rw [List.filter_append,List.map_append]
 cases h:W6 f<;>simp [List.filter_cons,h]
theorem Qe {α:Type} {l:List α} {k:Nat} {x:α} (hx:l[k]?=some x):l.take (k+1)=l.take k++[x]:=by
 rw [List.take_add_one,hx];rfl
theorem UT (w0:Wd) (v:Vl) (l:List Zt) (hs:YC w0 v l) :
 Ret Pg 247 #[v] w0 λ r w'=>∃ m,r = .map (some m)∧w0.heap.size≤m∧YQ w' m (XP l)∧Ext w0 w':=by
 obtain ⟨A,c,rfl,hlc,hcm,hlm,YV⟩:=Zd.open hs
 refine ZcT (R:=ZJ _) ?_;unfold ZcS
 simp (disch:=try exact DI) only [↓PR,QR,simprocAttr]
 have hM0:=YQ.new w0
 have e0:Ext w0 (w0.alloc (.map #[] 0)):=ee
 refine ZQ (λ a0 w=>∃ (k:Nat) , a0 = .int .i64 (k:Int)∧k≤l.length∧Ext w0 w∧YQ w w0.heap.size (XP (l.take k))) (λ a0 _=>l.length - (intOf a0).toNat) ⟨0,rfl,Nat.zero_le _,ee,hM0⟩ ?_
 rintro _ w ⟨k,rfl,hk,e,hI⟩
 have se:=e.size
 rcases ZY hk with ⟨x,hx,hd,Yq,Z5⟩ | ⟨hk,hd,Z5⟩
 · obtain ⟨b,o,cs,rfl,hl,hA,hE⟩:=YV k x hx
   obtain ⟨tv,cv,rfl,hT,hC,ht1,hc1⟩:=hE.op
   have hlt2:=hI.lt
   simp (disch:=try exact DI) only [↓PR,QR,simprocAttr,↓zZ,↓z7,↓ya,Z5,hA.c15]
   refine zcr (Lk _ _ x ⟨tv,cv,rfl,ZW.ext hT ee,Yh.ext hC ee⟩) λ w1 e1=>?_
   have s1:=e1.size
   try simp only [World.size_alloc,World.size_setCell,World.size_drew,World.putObj_size,Sw.putW_size] at s1
   have hI1:=(hI.ext ((Ext.refl w).alloc _)).ext e1
   have hI2:∀ o,YQ (w1.alloc o) w0.heap.size (XP (l.take k)):=λ o=>hI1.ext ((Ext.refl w1).alloc _)
   cases hn:W6 x with
   | false=>
    simp (disch:=try exact DI) only [↓PR,QR,simprocAttr,↓zZ,↓z7,↓ya,e1.cellQ,e1.frozenQ,Ys]
    have hf:=hI2 (.cells #[.int .i64 0,.int .i64 0] 300)
    rw [show XP (l.take k)=XP (l.take (k+1)) by rw [Qe hx,J2,hn];simp] at hf
    exact ⟨⟨k+1,rfl,by omega,ee,hf⟩,Yf (kd := .i64) Yq⟩
   | true=>
    simp (disch:=try exact DI) only [↓PR,QR,simprocAttr,↓zZ,↓z7,↓ya,e1.cellQ,e1.frozenQ,Ys]
    have hf:=hI2 (.cells #[.int .i64 x.low,.int .i64 (V4 x)] 300)
    rw [HS underlying296 underlying9 hf]
    have hg:=hf.put x.name (Ys x.low (V4 x))
    have eg:Ext w0 (putW (w1.alloc (.cells #[.int .i64 x.low,.int .i64 (V4 x)] 300)) w0.heap.size (XP (l.take k)) x.name (Ys x.low (V4 x))):=Ext.putW ee (Nat.le_refl _) _ _
    rw [show XP (l.take k)++[(x.name,Ys x.low (V4 x))]=XP (l.take (k+1)) by rw [Qe hx,J2,hn];simp] at hg
    simp (disch:=try exact DI) only [↓PR,QR,simprocAttr,↓zZ,↓z7,↓ya]
    exact ⟨⟨k+1,rfl,by omega,ee,hg⟩,Yf (kd := .i64) Yq⟩
 · subst hk
   simp (disch:=try exact DI) only [↓PR,QR,simprocAttr,↓zZ,↓z7,↓ya,Z5]
   rw [List.take_length] at hI
   exact ⟨_,rfl,Nat.le_refl _,hI,e⟩
def Qi (w:Wd) (pb:Nat) (tv:Vl) (ts:List YU):Prop:=w.cell? ⟨pb,0,none⟩=some tv∧ZW w tv ts∧∀ A m c,tv = .slice (some A) m c→pb < A.block
theorem Qi.ext {w w':Wd} {pb:Nat} {tv:Vl} {ts:List YU} (h:Qi w pb tv ts) (e:Ext w w'):Qi w' pb tv ts:=⟨e.cell h.1,ZW.ext h.2.1 e,h.2.2⟩
theorem Qi.set {w:Wd} {pb:Nat} {tv:Vl} {ts:List YU} (h:Qi w pb tv ts) {b o:Nat} (hb:b < pb) (u:Vl):Qi (w.setCell ⟨b,o,none⟩ u) pb tv ts:=
 ⟨by rw [YX (by omega)];exact h.1,Zd.setOther h.2.1 u (λ A m c e=>by have:=h.2.2 A m c e;omega) (λ _ _ h=>h),h.2.2⟩
theorem Bm (w0:Wd) (v:Vl) (base:Int) (ts:List YU) (hs:GW w0 v base ts) (hb:ts.length≤1048576) :
 Ret Pg 248 #[v] w0 λ r w'=>∃ pb tv,r = .func (.func 257) #[] #[.pointer (some ⟨pb,0,none⟩)]∧Qi w' pb tv (if Js base ts then ts else [])∧w0.heap.size≤pb∧Ext w0 w':=by
 obtain ⟨tv,rfl,hT⟩:=hs
 have ht1:=Zd.oneCell hT
 refine Zc9 (R:=ZJ _) ?_;unfold Zc8
 simp (disch:=try exact DI) only [↓PR,QR,simprocAttr,↓jw]
 refine zcr (zG _ _ base ts ⟨tv,rfl,ZW.ext hT ee⟩) λ w1 e1=>?_
 have s1:=e1.size
 try simp only [World.size_alloc,World.size_setCell,World.size_drew,World.putObj_size,Sw.putW_size] at s1
 cases hv:Js base ts with
 | false=>
  simp (disch:=try exact DI) only [↓PR,QR,simprocAttr,↓jw]
  refine ⟨_,_,rfl,⟨e1.cell (by simp (disch:=try exact DI) only [↓PR,QR,simprocAttr]),Zd.nil _ _ _,λ A m c e=>by cases e⟩,by omega,ee⟩
 | true=>
  simp (disch:=try exact DI) only [↓PR,QR,simprocAttr,↓jw,e1.cellQ,e1.frozenQ]
  obtain ⟨cssT,hrawT,hmatesT⟩:=Zd.raw hT
  refine Zl (qv _ tv cssT (hrawT.ext Sg ee) (λ y hy=>by obtain ⟨m,_,hm⟩:=hmatesT.mem hy;exact hm.one) (by rw [hmatesT.1];exact hb)) ?_
  rintro t8 w2 ⟨hO,e2⟩
  have s2:=e2.size
  have hO':=ZT.mates hO (hmatesT.imp λ _ _ h=>h)
  have hS:=hO'.slice (E:=Bl) (λ _=>rfl) (λ _ _=>rfl)
  have h8:=Zd.oneCell hS
  have hTy:Gh w2 (w0.heap.size+1) 118:=(Gh.ext (w:=(w0.alloc _).alloc (.cells #[.slice none 0 0] 118)) ⟨_,_,by have:=Zz (w0.alloc (.cells #[.int .i64 base,tv] 120)) #[.slice none 0 0] 118;rw [World.size_alloc] at this;exact this⟩ (e1.trans e2))
  simp (disch:=try exact DI) only [↓PR,QR,simprocAttr,↓jw,e1.cellQ,e1.frozenQ,e2.cellQ,e2.frozenQ]
  have hS2:=((hO'.range.only (YH.setCell w2 (w0.heap.size+1) 0 t8) (.inr (.inl (by omega)))).1).slice (E:=Bl) (λ _=>rfl) (λ _ _=>rfl)
  refine ⟨_,t8,rfl,⟨?_,hS2,λ A m c e=>by subst e;have:=hO'.lt A.block rfl;omega⟩,by omega,ee⟩
  simp (disch:=try exact DI) only [↓PR,QR,simprocAttr,e1.cellQ,e1.frozenQ,e2.cellQ,e2.frozenQ]
def UN (ts:List YU) (k:Nat):Vl:=match ts[k]? with
 | some t => .string t.field
 | none=>undef
theorem Bn (pb:Nat) (tv:Vl) (ts:List YU):Is Pg 257 #[.pointer (some ⟨pb,0,none⟩)] ts.length (UN ts) (λ w=>Qi w pb tv ts):=by
 intro yv J Jx Jp w hFP hJe hJx XG h0
 obtain ⟨hc,hT,_⟩:=hFP 0 w h0
 obtain ⟨A,c,rfl,hlc,hcm,hlm,YV⟩:=Zd.open hT
 refine Zdb (t0:=yv) (t1 := .pointer (some ⟨pb,0,none⟩)) ?_
 unfold Zda
 simp (disch:=try exact DI) only [↓PR,QR,simprocAttr,hc]
 refine ZQ (λ i w=>∃ k:Nat,i = .int .i64 k∧k≤ts.length∧J k w) (λ i _=>ts.length - (intOf i).toNat) ⟨0,rfl,by omega,h0⟩ ?_
 rintro i w' ⟨k,rfl,hk,hJ⟩
 rcases ZY hk with ⟨x,hx,hd,Yq,Z5⟩ | ⟨hk,hd,Z5⟩
 · obtain ⟨_,hT',_⟩:=hFP k w' hJ
   obtain ⟨A',c',hv,_,_,_,hel'⟩:=Zd.open hT'
   injection hv with hv _ hv'
   subst hv hv'
   obtain ⟨b,o,cs,rfl,hl,hA,rfl⟩:=hel' k x hx
   have er:=Ext.refl w'
   simp (disch:=try exact DI) only [↓PR,QR,simprocAttr,↓jx,↓jy,Z5,hA.c2]
   have hs:=XG k Yq _ (hJe k w' _ hJ ((Ext.refl w').alloc (.cells #[.string x.field,.int .i64 x.factor] 128)))
   rw [show UN ts k = .string x.field by unfold UN;rw [hx]] at hs
   refine UF hs (λ ch w h=>h) ?_
   rintro v w2 (⟨rfl,h2⟩ | ⟨rfl,h2⟩)
   · simp (disch:=try exact DI) only [↓PR,QR,simprocAttr,↓jx,↓jy]
     exact ⟨⟨k+1,rfl,by omega,h2⟩,Yf (kd := .i64) Yq⟩
   · simp (disch:=try exact DI) only [↓PR,QR,simprocAttr,↓jx,↓jy]
     exact .inr h2
 · subst hk
   simp (disch:=try exact DI) only [↓PR,QR,simprocAttr,↓jx,↓jy,Z5]
   exact .inl hJ
theorem Qi.lasts (B pb:Nat) (tv:Vl) (ts:List YU):ZM B (λ w=>Qi w pb tv ts):=
 ZM.and (ZM.cell B) (ZM.and ⟨λ _ _ h e=>ZW.ext h e,λ _ _ _ _ _ h hl=>Zd.putLoop (λ _ _ h=>h) hl h⟩ (ZM.const _ _))
def Qa (but:BAr) (ps:List (BAr×Vl)) (p:Vl→Bool):List YU→Bool→Int
 | [],no=>if no then 9 else 0
 | t::ts,no=>if t.field=but then Qa but ps p ts no else match Yr ps t.field with
  | none=>Qa but ps p ts true
  | some v=>if p v then Qa but ps p ts no else 2
theorem G1 (w0:Wd) (v:Vl) (base:Int) (ts:List YU) (but:BAr) (m:Nat) (ps:List (BAr×Vl)) (g:FuncId) (caps:AVl) (p:Vl→Bool) (hs:GW w0 v base ts) (hb:ts.length≤1048576)
 (hm:YQ w0 m ps) (hr:∀ k v,Yr ps k=some v→∃ lo hi,v=Ys lo hi) (hg:Callable Pg g) (hc:∀ w lo hi,Ext w0 w→Ret Pg g (#[Ys lo hi]++caps) w λ r w'=>r = .bool (p (Ys lo hi))∧Ext w w') :
 Ret Pg 259 #[v,.string but,.map (some m),.func (.func g) #[] caps] w0 λ r w'=>r = .int .i64 (if Js base ts then Qa but ps p ts false else 2)∧Ext w0 w':=by
 obtain ⟨tv,rfl,hT⟩:=hs
 have ht1:=Zd.oneCell hT
 have hmlt:=hm.lt
 refine Zdi (R:=ZJ _) ?_;unfold ZbE
 simp (disch:=try exact DI) only [↓PR,QR,simprocAttr,↓Wq,↓Wr,↓Ws,↓Wc,↓Wt,↓Wu]
 refine zcr (zG _ _ base ts ⟨tv,rfl,ZW.ext hT ee⟩) λ w1 e1=>?_
 have s1:=e1.size
 try simp only [World.size_alloc,World.size_setCell,World.size_drew,World.putObj_size,Sw.putW_size] at s1
 cases hv:Js base ts with
 | false=>
  simp (disch:=try exact DI) only [↓PR,QR,simprocAttr,↓Wq,↓Wr,↓Ws,↓Wc,↓Wt,↓Wu,e1.cellQ,e1.frozenQ,Wf,zy,XD]
  exact ⟨by first | trivial | rfl,ee⟩
 | true=>
  simp (disch:=try exact DI) only [↓PR,QR,simprocAttr,↓Wq,↓Wr,↓Ws,↓Wc,↓Wt,↓Wu,e1.cellQ,e1.frozenQ]
  refine Zl (Bm _ _ base ts ⟨tv,rfl,ZW.ext hT ee⟩ hb) ?_
  rintro _ w2 ⟨pb,tv2,rfl,hTA,hpb,e2⟩
  rw [hv] at hTA
  simp only [if_true] at hTA
  have s2:=e2.size
  simp only [World.size_alloc] at s2 hpb
  have o5:w2.heap[w0.heap.size+1]?=some (.cells #[.string but] 9 (0,0)):=by simp (disch:=try exact DI) only [↓PR,QR,simprocAttr,e1.heapQ,e2.heapQ]
  have o6:w2.heap[w0.heap.size+1+1]?=some (.cells #[.map (some m)] 296 (0,0)):=by simp (disch:=try exact DI) only [↓PR,QR,simprocAttr,e1.heapQ,e2.heapQ]
  have o7:w2.heap[w0.heap.size+1+1+1]?=some (.cells #[.func (.func g) #[] caps] 311 (0,0)):=by simp (disch:=try exact DI) only [↓PR,QR,simprocAttr,e1.heapQ,e2.heapQ]
  have o8:w2.heap[w0.heap.size+1+1+1+1]?=some (.cells #[.int .i64 0] 49 (0,0)):=by simp (disch:=try exact DI) only [↓PR,QR,simprocAttr,e1.heapQ,e2.heapQ]
  have o9:w2.heap[w1.heap.size]?=some (.cells #[.bool false] 4 (0,0)):=by simp (disch:=try exact DI) only [↓PR,QR,simprocAttr,e1.heapQ,e2.heapQ]
  have eW:Ext w0 w2:=ee
  simp only [World.size_alloc]
  unfold Wc
  let I:Nat→Wd→Prop:=λ k w=>Ext w0 w∧w.heap[w0.heap.size+1]?=some (.cells #[.string but] 9 (0,0))∧w.heap[w0.heap.size+1+1]?=some (.cells #[.map (some m)] 296 (0,0)) ∧
   w.heap[w0.heap.size+1+1+1]?=some (.cells #[.func (.func g) #[] caps] 311 (0,0))∧Qi w pb tv2 ts ∧
   ∃ nb x,w.heap[w0.heap.size+1+1+1+1]?=some (.cells #[.int .i64 x] 49 (0,0))∧w.heap[w1.heap.size]?=some (.cells #[.bool nb] 4 (0,0))∧Qa but ps p (ts.drop k) nb=Qa but ps p ts false
  let Ix:Nat→Wd→Prop:=λ c w=>c=0∧Ext w0 w∧w.heap[w0.heap.size+1+1+1+1]?=some (.cells #[.int .i64 2] 49 (0,0))∧Qa but ps p ts false=2
  have hLI:∀ k,ZM w2.heap.size (I k):=λ k=>ZM.and (ZM.from (by omega)) (ZM.and (ZM.has _ (by simp)) (ZM.and (ZM.has _ (by simp)) (ZM.and (ZM.has _ (by simp)) (ZM.and (Qi.lasts _ _ _ _)
   (ZM.ex λ nb=>ZM.ex λ x=>ZM.and (ZM.has _ (by simp)) (ZM.and (ZM.has _ (by simp)) (ZM.const _ _)))))))
  have hLX:∀ k,ZM w2.heap.size (Ix k):=λ k=>ZM.and (ZM.const _ _)<|ZM.and (ZM.from (by omega)) (ZM.and (ZM.has _ (by simp)) (ZM.const _ _))
  refine ⟨_,_,ts.length,UN ts,λ w=>Qi w pb tv2 ts,I,Ix,λ _ _=>False,rfl,Zcr,Bn pb tv2 ts,⟨eW,o5,o6,o7,hTA,false,0,o8,o9,rfl⟩,λ k w h=>h.2.2.2.2.1,hLI,hLX,?_,?_,?_,?_⟩
  · intro rec j w3 hj hI3 hrec hready
    refine ⟨hready,λ w4 hbz=>?_⟩
    have hrec4:=hrec.busied hbz
    have hI4:=(hLI j).busied hbz (Nat.le_succ _) hI3
    clear hI3 hrec hready hbz
    obtain ⟨e4,o5,o6,o7,hTA4,nb,x,o8,o9,hF⟩:=hI4
    obtain ⟨t,hx⟩:=getElem?_lt hj
    rw [show UN ts j = .string t.field by unfold UN;rw [hx]]
    have hd:ts.drop j=t::ts.drop (j+1):=by
     rw [List.drop_eq_getElem_cons hj]
     congr 1
     exact (List.getElem?_eq_some_iff.1 hx).2
    rw [hd] at hF
    simp only [Qa] at hF
    have hm4:=hm.ext e4
    have s4:=e4.size
    have l9:w1.heap.size < w4.heap.size:=(Array.getElem?_eq_some_iff.1 o9).1
    have l8:w0.heap.size+1+1+1+1 < w4.heap.size:=(Array.getElem?_eq_some_iff.1 o8).1
    simp (disch:=try exact DI) only [↓PR,QR,simprocAttr,↓Wq,↓Wr,↓Ws,↓Wc,↓Wt,↓Wu,(Za o5).1,(Za o6).1]
    rw [Vs underlying296 underlying9 VZ hm4]
    have next:∀ nb' w5,Ext w4 w5→Qa but ps p (ts.drop (j+1)) nb'=Qa but ps p ts false→nb'=nb→I (j+1) w5:=λ nb' w5 e5 h hn=>(hLI (j+1)).ext _ _ ⟨e4,o5,o6,o7,hTA4,nb,x,o8,o9,hn ▸ h⟩ e5
    cases hl:Yr ps t.field with
    | none=>
     rw [hl] at hF
     simp (disch:=try exact DI) only [↓PR,QR,simprocAttr,↓Wq,↓Wr,↓Ws,↓Wc,↓Wt,↓Wu,(Za o5).1]
     by_cases hbut:t.field=but
     · rw [if_pos hbut] at hF
       simp only [hbut,decide_true]
       simp (disch:=try exact DI) only [↓PR,QR,simprocAttr]
       exact ⟨hrec4.alloc _,next nb _ ee hF rfl⟩
     · rw [if_neg hbut] at hF
       simp only [hbut,decide_false]
       simp (disch:=try exact DI) only [↓PR,QR,simprocAttr,↓Wq,↓Wr,↓Ws,↓Wc,↓Wt,↓Wu,(Za o9).1,(Za o9).2]
       refine ⟨(hrec4.setCell _ _).alloc _,ee,by simp (disch:=try exact DI) only [↓PR,QR,simprocAttr,o5],by simp (disch:=try exact DI) only [↓PR,QR,simprocAttr,o6],by simp (disch:=try exact DI) only [↓PR,QR,simprocAttr,o7],(hTA4.set (by omega) _).ext ((Ext.refl _).alloc _),true,x,by simp (disch:=try exact DI) only [↓PR,QR,simprocAttr,o8],?_,hF⟩
       have:=((Ext.refl _).alloc (.cells #[.int .i64 0,.int .i64 0] 300)).obj (Zw (o:=0) o9 (.bool true))
       simpa using this
    | some v=>
     obtain ⟨lo,hi,rfl⟩:=hr _ _ hl
     rw [hl] at hF
     simp (disch:=try exact DI) only [↓PR,QR,simprocAttr,↓Wq,↓Wr,↓Ws,↓Wc,↓Wt,↓Wu,(Za o5).1,Ys]
     by_cases hbut:t.field=but
     · rw [if_pos hbut] at hF
       simp only [hbut,decide_true]
       simp (disch:=try exact DI) only [↓PR,QR,simprocAttr]
       exact ⟨hrec4.alloc _,next nb _ ee hF rfl⟩
     · rw [if_neg hbut] at hF
       simp only [hbut,decide_false]
       simp (disch:=try exact DI) only [↓PR,QR,simprocAttr,↓Wq,↓Wr,↓Ws,↓Wc,↓Wt,↓Wu,(Za o7).1]
       rw [YP hg]
       refine zcr (hc _ lo hi ee) λ w6 e6=>?_
       have s6:=e6.size
       simp only [World.size_alloc] at s6
       cases hp:p (Ys lo hi) with
       | true=>
        simp only [hp,if_true] at hF
        simp (disch:=try exact DI) only [↓PR,QR,simprocAttr,↓Wq,↓Wr,↓Ws,↓Wc,↓Wt,↓Wu]
        exact ⟨(hrec4.alloc _).ext e6,next nb _ ee hF rfl⟩
       | false=>
        simp only [hp,Bool.false_eq_true,if_false] at hF
        simp (disch:=try exact DI) only [↓PR,QR,simprocAttr,↓Wq,↓Wr,↓Ws,↓Wc,↓Wt,↓Wu,e6.cellQ,e6.frozenQ,(Za o8).1,(Za o8).2]
        refine ⟨((hrec4.alloc _).ext e6).setCell _ _,rfl,ee,?_,hF.symm⟩
        have:=Zw (o:=0) ((((Ext.refl w4).alloc (.cells #[.int .i64 lo,.int .i64 hi] 300)).trans e6).obj o8) (.int .i64 2)
        simpa using this
  · rintro w3 ⟨e3,o5,o6,o7,hTA3,nb,x,o8,o9,hF⟩ hmk
    rw [List.drop_length] at hF
    simp only [Qa] at hF
    have l2:w2.heap.size < w3.heap.size:=(Array.getElem?_eq_some_iff.1 hmk).1
    cases nb with
    | true=>
     simp (disch:=try exact DI) only [↓PR,QR,simprocAttr,↓Wq,↓Wr,↓Ws,↓Wc,↓Wt,↓Wu,(Za o8).1,(Za o8).2,(Za o9).1]
     refine Q3 (hmk.setCell _ _) ?_
     simp (disch:=try exact DI) only [↓PR,QR,simprocAttr,Wf,zy,XD,UG (hmk.setCell _ _),(Za o8).1]
     exact ⟨by rw [← hF];rfl,ee⟩
    | false=>
     simp (disch:=try exact DI) only [↓PR,QR,simprocAttr,↓Wq,↓Wr,↓Ws,↓Wc,↓Wt,↓Wu,(Za o8).1,(Za o8).2,(Za o9).1]
     refine Q3 (hmk.setCell _ _) ?_
     simp (disch:=try exact DI) only [↓PR,QR,simprocAttr,Wf,zy,XD,UG (hmk.setCell _ _),(Za o8).1]
     exact ⟨by rw [← hF];rfl,ee⟩
  · rintro c w3 ⟨rfl,e3,o8,hF⟩ hmk
    have l2:w2.heap.size < w3.heap.size:=(Array.getElem?_eq_some_iff.1 hmk).1
    show VH _ _ _ _ _
    refine Q3 hmk ?_
    simp (disch:=try exact DI) only [↓PR,QR,simprocAttr,Wf,zy,XD,UG hmk,(Za o8).1]
    exact ⟨by rw [hF],ee⟩
  · rintro _ _ h
    exact h.elim
def Mb (base:Int) (vf:YU→Int) (ts:List YU):Int:=ts.foldl (λ n t=>IntKind.i64.wrap (n+IntKind.i64.wrap (t.factor*vf t))) base
theorem HI (w0:Wd) (v:Vl) (base:Int) (ts:List YU) (g:FuncId) (caps:AVl) (vf:YU→Int) (hs:GW w0 v base ts) (hg:Callable Pg g)
 (hc:∀ w t,Ext w0 w→Ret Pg g (#[VX t]++caps) w λ r w'=>r = .int .i64 (vf t)∧Ext w w') :
 Ret Pg 261 #[v,.func (.func g) #[] caps] w0 λ r w'=>r = .int .i64 (Mb base vf ts)∧Ext w0 w':=by
 obtain ⟨tv,rfl,hT⟩:=hs
 obtain ⟨A,c,rfl,hlc,hcm,hlm,YV⟩:=Zd.open hT
 refine Zdo (R:=ZJ _) ?_;unfold Zdn
 simp (disch:=try exact DI) only [↓PR,QR,simprocAttr,↓yy,↓yA,↓yH]
 refine Q0 (λ a0 a1 w=>∃ (k:Nat) (n:Int),a0 = .int .i64 n∧a1 = .int .i64 (k:Int)∧k≤ts.length∧Ext w0 w∧Mb n vf (ts.drop k)=Mb base vf ts) (λ a0 a1 _=>ts.length - (intOf a1).toNat) ⟨0,base,rfl,rfl,Nat.zero_le _,ee,rfl⟩ ?_
 rintro _ _ w ⟨k,n,rfl,rfl,hk,e,hI⟩
 have se:=e.size
 rcases ZY hk with ⟨x,hx,hd,Yq,Z5⟩ | ⟨hk,hd,Z5⟩
 · obtain ⟨b,o,cs,rfl,hl,hA,rfl⟩:=YV k x hx
   rw [hd] at hI
   simp (disch:=try exact DI) only [↓PR,QR,simprocAttr,↓yy,↓yA,↓yH,Z5,hA.c2]
   refine ZG ?_
   simp (disch:=try exact DI) only [↓PR,QR,simprocAttr,↓yy,↓yA,↓yH]
   rw [YP hg]
   refine zcr (hc _ x ee) λ w1 e1=>?_
   refine ⟨e1,?_⟩
   simp (disch:=try exact DI) only [↓PR,QR,simprocAttr,↓yy,↓yA,↓yH]
   exact ⟨⟨k+1,_,rfl,rfl,by omega,ee,hI⟩,Yf (kd := .i64) Yq⟩
 · subst hk
   simp (disch:=try exact DI) only [↓PR,QR,simprocAttr,↓yy,↓yA,↓yH,Z5]
   rw [hd] at hI
   exact ⟨by rw [← hI];rfl,e⟩
def RP (rp:List (BAr×Int×Int)):List (BAr×Vl):=rp.map λ p=>(p.1,Ys p.2.1 p.2.2)
def QZ (rp:List (BAr×Int×Int)) (s:BAr):Option (Int×Int):=(rp.reverse.find? (λ p=>decide (p.1=s))).map (·.2)
theorem W8 (rp:List (BAr×Int×Int)) (s:BAr):Yr (RP rp) s=(QZ rp s).map λ q=>Ys q.1 q.2:=by
 unfold Yr RP QZ
 rw [← List.map_reverse,List.find?_map]
 simp only [Option.map_map]
 rfl
def XI (l:List Zt):List (BAr×Int×Int):=(l.filter W6).map λ f=>(f.name,f.low,V4 f)
theorem VQ (l:List Zt):XP l=RP (XI l):=by
 unfold XP RP XI
 rw [List.map_map]
 rfl
def LF (rp:List (BAr×Int×Int)) (least:Bool) (t:YU):Int:=match QZ rp t.field with
 | some (lo,hi)=>if least == decide (t.factor > 0) then lo else hi
 | none=>0
theorem R4 (w0:Wd) (t:YU) (pm pl m:Nat) (rp:List (BAr×Int×Int)) (least:Bool) (h1:w0.cell? ⟨pm,0,none⟩=some (.map (some m))) (h2:w0.cell? ⟨pl,0,none⟩=some (.bool least)) (hm:YQ w0 m (RP rp)) :
 Ret Pg 262 #[VX t,.pointer (some ⟨pm,0,none⟩),.pointer (some ⟨pl,0,none⟩)] w0 λ r w'=>r = .int .i64 (LF rp least t)∧Ext w0 w':=by
 have hb1:=World.block_lt_of_cell? w0 _ h1
 have hb2:=World.block_lt_of_cell? w0 _ h2
 simp only at hb1 hb2
 unfold VX
 refine Zc3 (R:=ZJ _) ?_;unfold Zc2
 simp (disch:=try exact DI) only [↓PR,QR,simprocAttr,h1,h2]
 rw [WK underlying296 underlying9 VZ (hm.ext ee),W8]
 unfold LF
 cases hl:QZ rp t.field with
 | none=>
  simp (disch:=try exact DI) only [↓PR,QR,simprocAttr,↓UJ,h1,h2,Option.map_none]
  cases (least == decide (0 < t.factor)) with
  | true=>simp (disch:=try exact DI) only [↓PR,QR,simprocAttr,↓UJ,h1,h2];exact ⟨by first | trivial | rfl,ee⟩
  | false=>
   simp (disch:=try exact DI) only [↓PR,QR,simprocAttr,↓UJ,h1,h2]
   rw [WK underlying296 underlying9 VZ (hm.ext ee),W8,hl]
   simp (disch:=try exact DI) only [↓PR,QR,simprocAttr,↓UJ,Option.map_none]
   exact ⟨by first | trivial | rfl,ee⟩
 | some q=>
  obtain ⟨lo,hi⟩:=q
  simp (disch:=try exact DI) only [↓PR,QR,simprocAttr,↓UJ,h1,h2,Ys]
  cases (least == decide (0 < t.factor)) with
  | true=>simp (disch:=try exact DI) only [↓PR,QR,simprocAttr,↓UJ,h1,h2];exact ⟨by first | trivial | rfl,ee⟩
  | false=>
   simp (disch:=try exact DI) only [↓PR,QR,simprocAttr,↓UJ,h1,h2]
   rw [WK underlying296 underlying9 VZ (hm.ext ee),W8,hl]
   simp (disch:=try exact DI) only [↓PR,QR,simprocAttr,↓UJ,Ys]
   exact ⟨by first | trivial | rfl,ee⟩
def Zff (lo hi:Int):Bool:=decide (0≤lo)&&decide (lo≤hi)&&decide (hi < 34359738368)
def Rx:Vl→Bool
 | .agg a=>match a.toList with
  | [.int _ lo,.int _ hi]=>Zff lo hi
  | _=>false
 | _=>false
theorem Nq (w0:Wd) (lo hi:Int):Ret Pg 258 #[Ys lo hi] w0 λ r w'=>r = .bool (Rx (Ys lo hi))∧Ext w0 w':=by
 unfold Ys
 refine ZcZ (R:=ZJ _) ?_;unfold ZcY
 simp (disch:=try exact DI) only [↓PR,QR,simprocAttr,Sw.joinK_eq]
 refine zcr (DL (by simp only [World.size_alloc]) _ _ _ _) λ w1 e1=>?_
 have s1:=e1.size
 try simp only [World.size_alloc,World.size_setCell,World.size_drew,World.putObj_size,Sw.putW_size] at s1
 simp (disch:=try exact DI) only [↓PR,QR,simprocAttr,Sw.joinK_eq]
 exact ⟨rfl,ee⟩
theorem DZ (w0:Wd) (pm ps m:Nat) (rp:List (BAr×Int×Int)) (least:Bool) (base:Int) (tv:Vl) (ts:List YU) (h0:w0.cell? ⟨ps,0,none⟩=some (.int .i64 base)) (h0':w0.cell? ⟨ps,1,none⟩=some tv) (hT:ZW w0 tv ts)
 (h1:w0.cell? ⟨pm,0,none⟩=some (.map (some m))) (hm:YQ w0 m (RP rp)) :
 Ret Pg 260 #[.bool least,.pointer (some ⟨ps,0,none⟩),.pointer (some ⟨pm,0,none⟩)] w0 λ r w'=>r = .int .i64 (Mb base (LF rp least) ts)∧Ext w0 w':=by
 have hb1:=World.block_lt_of_cell? w0 _ h0
 have hb2:=World.block_lt_of_cell? w0 _ h1
 simp only at hb1 hb2
 refine Zc1 (R:=ZJ _) ?_;unfold Zc0
 simp (disch:=try exact DI) only [↓PR,QR,simprocAttr,h0,h0']
 refine Zl (HI _ _ base ts _ _ (LF rp least) ⟨tv,rfl,ZW.ext hT ee⟩ Zgy ?_) ?_
 · intro w t e
   exact R4 w t pm w0.heap.size m rp least (((Ext.refl w0).alloc _).trans e |>.cell h1) (e.cell (by simp (disch:=try exact DI) only [↓PR,QR,simprocAttr])) (hm.ext (((Ext.refl w0).alloc _).trans e))
 rintro _ w1 ⟨rfl,e1⟩
 simp (disch:=try exact DI) only [↓PR,QR,simprocAttr,Sw.joinK_eq]
 exact ⟨by first | trivial | rfl,ee⟩
def Wo (base:Int) (ts:List YU) (rp:List (BAr×Int×Int)):Int:=if Js base ts then Qa ByteArray.empty (RP rp) Rx ts false else 2
def JD (base:Int) (ts:List YU) (rp:List (BAr×Int×Int)):Int:=if Wo base ts rp=0 then Mb base (LF rp true) ts else 0
def JC (base:Int) (ts:List YU) (rp:List (BAr×Int×Int)):Int:=if Wo base ts rp=0 then Mb base (LF rp false) ts else 0
theorem Ci (w0:Wd) (v:Vl) (base:Int) (ts:List YU) (m:Nat) (rp:List (BAr×Int×Int)) (hs:GW w0 v base ts) (hb:ts.length≤1048576) (hm:YQ w0 m (RP rp)) :
 Ret Pg 249 #[v,.map (some m)] w0 λ r w'=>r = .tuple #[Ys (JD base ts rp) (JC base ts rp),.int .i64 (Wo base ts rp)]∧Ext w0 w':=by
 obtain ⟨tv,rfl,hT⟩:=hs
 have hT1:=Zd.oneCell hT
 have hmlt:=hm.lt
 refine ZcX (R:=ZJ _) ?_;unfold ZcW
 simp (disch:=try exact DI) only [↓PR,QR,simprocAttr,↓ju,↓jv,↓yd]
 refine Zl (G1 _ _ base ts ByteArray.empty m (RP rp) _ _ Rx ⟨tv,rfl,ZW.ext hT ee⟩ hb (hm.ext ee) (λ k v hv=>?_) Zgv (λ w lo hi e=>by simpa using Nq w lo hi)) ?_
 · rw [W8] at hv
   obtain ⟨q,_,rfl⟩:=Option.map_eq_some_iff.1 hv
   exact ⟨q.1,q.2,rfl⟩
 rintro _ w1 ⟨rfl,e1⟩
 have s1:=e1.size
 simp only [World.size_alloc] at s1
 show yd _ _ _ (.int .i64 (Wo base ts rp)) _ w1
 unfold JD JC
 by_cases hE:Wo base ts rp=0
 · rw [hE]
   simp (disch:=try exact DI) only [↓PR,QR,simprocAttr,↓ju,↓jv,↓yd]
   have c0:w1.cell? ⟨w0.heap.size,0,none⟩=some (.int .i64 base):=by simp (disch:=try exact DI) only [↓PR,QR,simprocAttr,e1.cellQ]
   have c1:w1.cell? ⟨w0.heap.size,1,none⟩=some tv:=by simp (disch:=try exact DI) only [↓PR,QR,simprocAttr,e1.cellQ]
   have c2:w1.cell? ⟨w0.heap.size+1,0,none⟩=some (.map (some m)):=by simp (disch:=try exact DI) only [↓PR,QR,simprocAttr,e1.cellQ]
   have eW:Ext w0 w1:=ee
   rw [YP Zcs]
   refine zcr (DZ w1 _ _ m rp true base tv ts c0 c1 (hT.ext eW) c2 (hm.ext eW)) λ w2 e2=>?_
   have s2:=e2.size
   simp only [World.size_alloc]
   rw [YP Zcs]
   refine zcr (DZ w2 _ _ m rp false base tv ts (e2.cell c0) (e2.cell c1) ((ZW.ext hT eW).ext e2) (e2.cell c2) ((hm.ext eW).ext e2)) λ w3 e3=>?_
   have s3:=e3.size
   simp (disch:=try exact DI) only [↓PR,QR,simprocAttr,↓ju,↓jv,↓yd,e1.cellQ,e1.frozenQ,e2.cellQ,e2.frozenQ,e3.cellQ,e3.frozenQ]
   exact ⟨by first | trivial | rfl,ee⟩
 · have YW:(Wo base ts rp != 0)=true:=by simpa using hE
   simp (disch:=try exact DI) only [↓PR,QR,simprocAttr,↓ju,↓jv,↓yd,YW,e1.cellQ,e1.frozenQ]
   simp only [hE,if_false]
   exact ⟨by first | trivial | rfl,ee⟩
def ZbG (R:RT) (w:Wd):Prop:=
 opV Pg (Instr.makeInterface 9 (.string { data := #[99,97,110,110,111,116,32,98,101,32,108,101,115,115,32,116,104,97,110,32,49] })) (Zb R) w λ a w=>
 opV Pg (Instr.panic a) (Zb R) w λ _ w=>
 False
def Zds (b c:Vl) (R:RT) (w:Wd):Prop:=
 opV Pg (Instr.box 40 b) (Zb R) w λ d w=>
 opV Pg (Instr.box 3 c) (Zb R) w λ a w=>
 opV Pg (loadAt 3 a) (Zb R) w λ e w=>
 opV Pg (Zh .lss 3 true e (.int .i64 1)) (Zb R) w λ f w=>
 Zu f (
 ZbG R w) (
 opV Pg (makeFunc (.func 154) #[] #[d,a]) (Zb R) w λ g w=>
 R (.returned g) w)
theorem Zdt {t0 t1:Vl} {R:RT} {w:Wd} (h:Zds t0 t1 R w):Calls Pg 126 #[t0,t1] w R:=by
 refine yD func126 ?_
 refine zs<|zr<|yv h λ _ w h=>yv h λ _ w h=>zm<|zn<|zk<|zs<|zs<|zr<|yv h λ _ w h=>yb h λ _ w h=>zn<|zk<|yC h (λ h=>zr<|yv h λ _ w h=>yv h λ _ w h=>zn<|h.elim) λ h=>?_
 exact Zo<|zk<|zs<|zr<|yF h λ _ w h=>zm<|zn<|zk<|Zi<|Zk rfl rfl h
def N3 (b c a:Vl) (ZA:KV) (R:RT) (w:Wd):Prop:=
 opV Pg (indexAt 94 b a) (Zb R) w λ d w=>
 opV Pg (loadAt 9 d) (Zb R) w λ e w=>
 XO Pg c #[e] (Zb R) w λ f w=>
 Zu f (
 R (.returned a) w) (
 opV Pg (Zh .add 3 true a (.int .i64 1)) (Zb R) w λ g w=>
 ZA g w)
def Zd6 (a c:Vl) (R:RT) (w:Wd):Prop:=
 opV Pg (Builtin.len_ #[94] 3 #[a]) (Zb R) w λ d w=>
 Xd (λ b w ZA=>
 opV Pg (Zh .lss 3 false b d) (Zb R) w λ e w=>
 Zu e (
 N3 a c b ZA R w) (
 R (.returned (.int .i64 (-1))) w)) (.int .i64 0) w
theorem Zd7 {t0 t1:Vl} {R:RT} {w:Wd} (h:Zd6 t0 t1 R w):Calls Pg 129 #[t0,t1] w R:=by
 refine yD func129 ?_
 refine zs<|zr<|zm<|zn<|zk<|zs<|zs<|zr<|zm<|yx h λ _ w h=>zm<|zn<|zk<|Zn<|yl1 [4,5,8,9,10,11,12,13,14,15,16,17,18] 8 h λ σ w next h=>?_
 refine zs<|zr<|yb h λ _ w h=>zn<|zk<|zs<|yC h (λ h=>?_) λ h=>?_
 · refine Zo<|zk<|zs<|Zn<|zs<|zr<|zm<|zm<|zn<|zk<|zs<|zr<|zm<|zm<|zm ?_
   refine yv h λ _ w h=>yv h λ _ w h=>yV h λ _ w h=>zn<|zk<|yC h (λ h=>zs<|zr<|zm<|zm<|zn<|zk<|Zi<|Zj<|Zc<|Zc<|Zj<|Zc<|Zk rfl rfl h) λ h=>Zo<|Zf<|zk<|zr<|yb h λ _ w h=>zm<|zn<|zk ?_
   exact ⟨rfl,h⟩
 exact ZR<|Ze<|Ze<|Zx<|zk<|zs<|zr<|zm<|zn<|zk<|Zi<|Zk rfl rfl h
def ZaN (d a b:Vl) (e:WPr) (R:RT) (w:Wd):Prop:=
 opV Pg (Instr.typeAssert b 20 131 true) (Zb R) w λ c w=>
 opV Pg (Instr.extract c 0) (Zb R) w λ f w=>
 opV Pg (Instr.extract c 1) (Zb R) w λ g w=>
 opU Pg (storeAt 131 d f) (Zb R) w λ w=>
 opU Pg (storeAt 4 a g) (Zb R) w λ w=>
 opV Pg (loadAt 4 a) (Zb R) w λ h w=>
 opV Pg (Op.unary .not h) (Zb R) w λ i w=>
 Zu i (
 opV Pg (Instr.panic b) (Zb R) w λ _ w=>
 False) (
 e w)
def n79 (c d a:Vl) (R:RT) (w:Wd):Prop:=
 opV Pg (Zh .neq 20 true a .nilIface) (Zb R) w λ e w=>
 Zq (λ (w:Wd)=>
 R (.returned (.tuple #[])) w) λ b=>
 Zu e (
 ZaN c d a b R w) (
 b w)
theorem Zel {t0 t1:Vl} {u:FrameMode} {R:Ending→FrameMode→Wd→Prop} {w:Wd} (h:n79 t0 t1 (Sw.recM u).1 (λ e w=>R e (Sw.recM u).2 w) w):CallsDIn Fence.wide 0 Pg 134 #[t0,t1] u w R:=by
 refine JZ (args:=[t0,t1]) (d:=3) func134 rfl (Nat.le_of_ble_eq_true rfl) rfl rfl rfl rfl ?_
 generalize (recM u).1=t3 at h ⊢
 generalize hR:(λ e w=>R e (recM u).2 w)=R' at h ⊢
 clear hR
 revert h
 generalize R'=R
 intro h
 unfold n79 at h
 refine zm<|zn<|zs<|zr<|zm<|yb h λ _ w h=>zn<|zk<|yJ0 [6,7,8,9,10,11,12,13] h (λ _ _ hkK1 h=>?_) λ σ w h=>?_
 · refine yC h (λ h=>?_) λ h=>?_
   · refine zs<|zr<|zm<|yv h λ _ w h=>zm<|yv h λ _ w h=>yv h λ _ w h=>yu h λ w h=>yu h λ w h=>zn<|zk<|zs<|zr<|yv h λ _ w h=>yv h λ _ w h=>?_
     refine zn<|zk<|yC h (λ h=>zr<|zm<|yv h λ _ w h=>zn<|h.elim) λ h=>Zo<|zk ?_
     exact zt hkK1 h
   refine Zo<|zk ?_
   exact zt hkK1 h
 exact ZH<|ZO rfl h
def IU (b c:Vl) (a:WPr) (R:RT) (w:Wd):Prop:=
 qN Pg a (YL b) λ d=>
 qV Pg a (fieldAt 201 d 3) λ e=>
 qV Pg a (loadAt 3 e) λ f=>
 qN Pg a (YL b) λ g=>
 qV Pg a (fieldAt 201 g 4) λ h=>
 qV Pg a (loadAt 3 h) λ i=>
 qV Pg a (Instr.build 131 #[(0,f),(1,i),(2,c)]) λ j=>
 qV Pg a (Instr.makeInterface 131 j) λ k=>
 opV Pg (Instr.panic k) (Zb R) w λ _ w=>
 False
def n73 (a b c:Vl) (R:RT) (w:Wd):Prop:=
 opV Pg (Op.unary .not b) (Zb R) w λ d w=>
 Zu d (
 Ye w λ e w=>
 IU a c e R w) (
 R (.returned (.tuple #[])) w)
theorem ZhC {t0 t1 t2:Vl} {R:RT} {w:Wd} (h:n73 t0 t1 t2 R w):Calls Pg 135 #[t0,t1,t2] w R:=by
 refine yD func135 ?_
 refine zs<|zr<|zm<|yv h λ _ w h=>zn<|zk<|yC h (λ h=>?_) λ h=>?_
 · refine yh [8,9,10,11,12,13,14,15,16,17,18] h λ C hC h=>yw 0 hC ?_
   refine yn 1 hC h λ _ h=>?_
   refine ye 2 hC h λ _ h=>?_
   refine ye 3 hC h λ _ h=>?_
   refine yw 4 hC ?_
   refine yn 5 hC h λ _ h=>?_
   refine ye 6 hC h λ _ h=>?_
   refine ye 7 hC h λ _ h=>?_
   refine yw 8 hC ?_
   refine ye 9 hC h λ _ h=>?_
   refine ye 10 hC h λ _ h=>?_
   refine yo 11 ?_
   exact yv h λ _ w h=>zn<|h.elim
 exact Zo<|ZH<|ZO rfl h
def ZaG (b:Vl) (a:WPr) (R:RT) (w:Wd):Prop:=
 qN Pg a (YL b) λ c=>
 qV Pg a (fieldAt 201 c 5) λ d=>
 qV Pg a (fieldAt 74 d 1) λ e=>
 qV Pg a (loadAt 72 e) λ f=>
 qN Pg a (YL b) λ g=>
 qV Pg a (fieldAt 201 g 4) λ h=>
 qV Pg a (loadAt 3 h) λ i=>
 qV Pg a (Instr.sliceAt 72 f none (some i) none) λ j=>
 R (.returned j) w
def n68 (a:Vl) (R:RT) (w:Wd):Prop:=
 Ye w λ b w=>
 ZaG a b R w
theorem Zhx {t0:Vl} {R:RT} {w:Wd} (h:n68 t0 R w):Calls Pg 195 #[t0] w R:=by
 refine yD func195 ?_
 refine zs<|zr<|zm<|zn<|zk<|zs<|yh [2,3,4,5,6,7,8,9,10,11,12] h λ C hC h=>yw 0 hC ?_
 refine yn 1 hC h λ _ h=>?_
 refine ye 2 hC h λ _ h=>?_
 refine ye 3 hC h λ _ h=>?_
 refine ye 4 hC h λ _ h=>?_
 refine yw 5 hC ?_
 refine yn 6 hC h λ _ h=>?_
 refine ye 7 hC h λ _ h=>?_
 refine ye 8 hC h λ _ h=>?_
 refine ye 9 hC h λ _ h=>?_
 refine yw 10 hC ?_
 exact yz<|zk<|Zi<|Zk rfl rfl h
def n82 (R:RT) (w:Wd):Prop:=
 opV Pg (Instr.makeMap 257 none) (Zb R) w λ a w=>
 opV Pg (Instr.build 255 #[(0,(.func (.func 212) #[] #[])),(1,(.func (.func 213) #[] #[]))]) (Zb R) w λ b w=>
 opU Pg (mapUpdate 257 a (.int .i64 1) b) (Zb R) w λ w=>
 opV Pg (Instr.build 255 #[(0,(.func (.func 216) #[] #[])),(1,(.func (.func 217) #[] #[]))]) (Zb R) w λ c w=>
 opU Pg (mapUpdate 257 a (.int .i64 2) c) (Zb R) w λ w=>
 opV Pg (Instr.build 255 #[(0,(.func (.func 218) #[] #[])),(1,(.func (.func 219) #[] #[]))]) (Zb R) w λ d w=>
 opU Pg (mapUpdate 257 a (.int .i64 3) d) (Zb R) w λ w=>
 opV Pg (Instr.build 255 #[(0,(.func (.func 220) #[] #[])),(1,(.func (.func 221) #[] #[]))]) (Zb R) w λ e w=>
 opU Pg (mapUpdate 257 a (.int .i64 4) e) (Zb R) w λ w=>
 opV Pg (Instr.build 255 #[(0,(.func (.func 222) #[] #[])),(1,(.func (.func 223) #[] #[]))]) (Zb R) w λ f w=>
 opU Pg (mapUpdate 257 a (.int .i64 5) f) (Zb R) w λ w=>
 opV Pg (Instr.build 255 #[(0,(.func (.func 224) #[] #[])),(1,(.func (.func 225) #[] #[]))]) (Zb R) w λ g w=>
 opU Pg (mapUpdate 257 a (.int .i64 6) g) (Zb R) w λ w=>
 opV Pg (Instr.build 255 #[(0,(.func (.func 226) #[] #[])),(1,(.func (.func 227) #[] #[]))]) (Zb R) w λ h w=>
 opU Pg (mapUpdate 257 a (.int .i64 7) h) (Zb R) w λ w=>
 opV Pg (Instr.build 255 #[(0,(.func (.func 229) #[] #[])),(1,(.func (.func 230) #[] #[]))]) (Zb R) w λ i w=>
 opU Pg (mapUpdate 257 a (.int .i64 8) i) (Zb R) w λ w=>
 opV Pg (Instr.build 255 #[(0,(.func (.func 231) #[] #[])),(1,(.func (.func 232) #[] #[]))]) (Zb R) w λ j w=>
 opU Pg (mapUpdate 257 a (.int .i64 9) j) (Zb R) w λ w=>
 opV Pg (Instr.build 255 #[(0,(.func (.func 233) #[] #[])),(1,(.func (.func 234) #[] #[]))]) (Zb R) w λ k w=>
 opU Pg (mapUpdate 257 a (.int .i64 10) k) (Zb R) w λ w=>
 opV Pg (Instr.build 255 #[(0,(.func (.func 235) #[] #[])),(1,(.func (.func 236) #[] #[]))]) (Zb R) w λ l w=>
 opU Pg (mapUpdate 257 a (.int .i64 11) l) (Zb R) w λ w=>
 opV Pg (Instr.build 255 #[(0,(.func (.func 237) #[] #[])),(1,(.func (.func 238) #[] #[]))]) (Zb R) w λ m w=>
 opU Pg (mapUpdate 257 a (.int .i64 12) m) (Zb R) w λ w=>
 R (.returned a) w
theorem ZhM {R:RT} {w:Wd} (h:n82 R w):Calls Pg 196 #[] w R:=by
 refine yD func196 ?_
 refine zs<|zr<|zm<|zn<|zk<|zs<|zr<|yv h λ _ w h=>yB h λ _ w h=>yu h λ w h=>yB h λ _ w h=>yu h λ w h=>yB h λ _ w h=>yu h λ w h=>yB h λ _ w h=>?_
 refine yu h λ w h=>yB h λ _ w h=>yu h λ w h=>yB h λ _ w h=>yu h λ w h=>yB h λ _ w h=>yu h λ w h=>yB h λ _ w h=>yu h λ w h=>yB h λ _ w h=>yu h λ w h=>yB h λ _ w h=>yu h λ w h=>yB h λ _ w h=>yu h λ w h=>?_
 exact yB h λ _ w h=>yu h λ w h=>zm<|zm<|zn<|zk<|Zi<|Zk rfl rfl h
def Kx (e f g h:Vl) (a:WPr) (R:RT) (w:Wd):Prop:=
 ZD g h (.bool false) λ c=>
 Zq (λ (b:Vl) (w:Wd)=>
 ZD c b (.bool false) λ i=>
 R (.returned i) w) λ d=>
 Zp c true (
 qV Pg a (fieldAt 123 e 11) λ j=>
 qV Pg a (loadAt 121 j) λ k=>
 qV Pg a (fieldAt 123 f 11) λ l=>
 qV Pg a (loadAt 121 l) λ m=>
 Zg Pg 241 #[k,m] (Zb R) w λ b w=>
 a w∧(
 d b w)) (
 d undef w)
def Ky (c d g h:Vl) (a:WPr) (R:RT) (w:Wd):Prop:=
 qV Pg a (Zh .eql 287 false g h) λ e=>
 Zq (λ (b:Vl) (w:Wd)=>
 Kx c d e b a R w) λ f=>
 Zp e true (
 qV Pg a (fieldAt 123 c 7) λ i=>
 qV Pg a (fieldAt 120 i 1) λ j=>
 qV Pg a (loadAt 118 j) λ k=>
 qV Pg a (fieldAt 123 d 7) λ l=>
 qV Pg a (fieldAt 120 l 1) λ m=>
 qV Pg a (loadAt 118 m) λ n=>
 Zg Pg 240 #[k,n] (Zb R) w λ b w=>
 a w∧(
 f b w)) (
 f undef w)
def Kz (b c:Vl) (a:WPr) (R:RT) (w:Wd):Prop:=
 qV Pg a (loadAt 123 b) λ d=>
 qV Pg a (loadAt 123 c) λ e=>
 Zg Pg 239 #[d] (Zb R) w λ f w=>
 a w∧(
 Zg Pg 239 #[e] (Zb R) w λ g w=>
 a w∧(
 Ky b c f g a R w))
def ZcU (a b:Vl) (R:RT) (w:Wd):Prop:=
 opV Pg (Instr.box 123 a) (Zb R) w λ c w=>
 opV Pg (Instr.box 123 b) (Zb R) w λ d w=>
 Ye w λ e w=>
 Kz c d e R w
theorem ZcV {t0 t1:Vl} {R:RT} {w:Wd} (h:ZcU t0 t1 R w):Calls Pg 197 #[t0,t1] w R:=by
 refine yD func197 ?_
 refine zs<|zr<|yv h λ _ w h=>yv h λ _ w h=>zm<|zn<|zk<|zs<|yh [4,5,6,7,8,9,10,11,12,13,14,15,16,17,18,19,20,21,22,23,24,25] h λ C hC h=>ye 0 hC h λ _ h=>?_
 refine ye 2 hC h λ _ h=>?_
 refine yo 1 ?_
 refine yc h Zco λ _ w h=>zn ?_
 obtain ⟨hC,h⟩:=h
 refine ⟨hC,?_⟩
 refine yo 3 ?_
 refine yc h Zco λ _ w h=>zn ?_
 obtain ⟨hC,h⟩:=h
 refine ⟨hC,?_⟩
 refine ye 4 hC h λ _ h=>?_
 refine yw 5 hC ?_
 refine yj1 9 [12,11,10,9,8,7,6,5,4,3,1,2,0] [11,12,13,14,15,16,17] 17 h (λ _ hT hb h=>?_) (λ _ hT hb h=>?_) λ σ w hC h=>?_
 · refine ye 6 hC h λ _ h=>?_
   refine ye 7 hC h λ _ h=>?_
   refine ye 8 hC h λ _ h=>?_
   refine ye 9 hC h λ _ h=>?_
   refine ye 10 hC h λ _ h=>?_
   refine ye 11 hC h λ _ h=>?_
   refine yo 12 ?_
   refine yc h Zgk λ _ w h=>zn ?_
   obtain ⟨hC,h⟩:=h
   refine ⟨hC,?_⟩
   exact yt hT hC h
 · refine yi 6 hC ?_
   refine yi 7 hC ?_
   refine yi 8 hC ?_
   refine yi 9 hC ?_
   refine yi 10 hC ?_
   refine yi 11 hC ?_
   refine yi 12 hC ?_
   exact yt hT hC h
 refine yP 13 hC h λ _ h=>?_
 refine yw 14 hC ?_
 refine yj1 2 [19,18,17,16,15,14,13,12,11,10,9,8,7,6,5,4,3,1,2,0] [20,21,22,23,24] 24 h (λ _ hT hb h=>?_) (λ _ hT hb h=>?_) λ σ w hC h=>?_
 · refine ye 15 hC h λ _ h=>?_
   refine ye 16 hC h λ _ h=>?_
   refine ye 17 hC h λ _ h=>?_
   refine ye 18 hC h λ _ h=>?_
   refine yo 19 ?_
   refine yc h Zgl λ _ w h=>zn ?_
   obtain ⟨hC,h⟩:=h
   refine ⟨hC,?_⟩
   exact yt hT hC h
 · refine yi 15 hC ?_
   refine yi 16 hC ?_
   refine yi 17 hC ?_
   refine yi 18 hC ?_
   refine yi 19 hC ?_
   exact yt hT hC h
 refine yP 20 hC h λ _ h=>?_
 refine yw 21 hC ?_
 exact yz<|zk<|Zi<|Zk rfl rfl h
def n48 (a:Vl) (R:RT) (w:Wd):Prop:=
 Zu (.bool false) (
 opV Pg (Go.convert 197 273 a) (Zb R) w λ b w=>
 Zg Pg 244 #[b] (Zb R) w λ c w=>
 R (.returned c) w) (
 Zg Pg 245 #[a] (Zb R) w λ d w=>
 R (.returned d) w)
theorem Zhe {t0:Vl} {R:RT} {w:Wd} (h:n48 t0 R w):Calls Pg 211 #[t0] w R:=by
 refine yD func211 ?_
 refine zs<|zr<|zm<|zn<|zk<|zs<|yC h (λ h=>zs<|zr<|zm<|yv h λ _ w h=>yc h Zgm λ _ w h=>zm<|zn<|zk<|Zi<|Zc<|Zk rfl rfl h) λ h=>Zo<|zk<|zs<|zr<|zm<|yc h Zgn λ _ w h=>zm ?_
 exact zn<|zk<|Zi<|Zk rfl rfl h
def n83 (a:Vl) (R:RT) (w:Wd):Prop:=
 opN Pg (YL a) (Zb R) w λ b w=>
 opV Pg (fieldAt 123 b 2) (Zb R) w λ c w=>
 opU Pg (storeAt 3 c (.int .i64 0)) (Zb R) w λ w=>
 opN Pg (YL a) (Zb R) w λ d w=>
 opV Pg (fieldAt 123 d 3) (Zb R) w λ e w=>
 opU Pg (storeAt 4 e (.bool false)) (Zb R) w λ w=>
 opN Pg (YL a) (Zb R) w λ f w=>
 opV Pg (fieldAt 123 f 5) (Zb R) w λ g w=>
 opU Pg (storeAt 3 g (.int .i64 0)) (Zb R) w λ w=>
 opN Pg (YL a) (Zb R) w λ h w=>
 opV Pg (fieldAt 123 h 6) (Zb R) w λ i w=>
 opU Pg (storeAt 3 i (.int .i64 0)) (Zb R) w λ w=>
 R (.returned (.tuple #[])) w
theorem ZhN {t0:Vl} {R:RT} {w:Wd} (h:n83 t0 R w):Calls Pg 212 #[t0] w R:=by
 refine yD func212 ?_
 refine zr<|zm<|zm<|zm<|zm<|yN h λ _ w h=>yv h λ _ w h=>yu h λ w h=>yN h λ _ w h=>yv h λ _ w h=>yu h λ w h=>yN h λ _ w h=>yv h λ _ w h=>yu h λ w h=>yN h λ _ w h=>?_
 exact yv h λ _ w h=>yu h λ w h=>zn<|ZH<|ZO rfl h
def ZaY (c b:Vl) (a:WPr) (R:RT) (w:Wd):Prop:=
 qV Pg a (fieldAt 123 b 2) λ d=>
 qV Pg a (loadAt 3 d) λ e=>
 qV Pg a (Zh .shl 3 true (.int .i64 1) e) λ f=>
 qV Pg a (Zh .sub 3 true f (.int .i64 1)) λ g=>
 qV Pg a (fieldAt 123 b 5) λ h=>
 qV Pg a (loadAt 3 h) λ i=>
 qV Pg a (fieldAt 123 b 6) λ j=>
 qV Pg a (loadAt 3 j) λ k=>
 opV Pg (buildSlice 61 2 #[(0,i),(1,k)]) (Zb R) w λ l w=>
 a w∧(
 Zg Pg 215 #[c,(.int .i64 0),g,l] (Zb R) w λ m w=>
 a w∧(
 R (.returned (.tuple #[])) w))
def n94 (a c:Vl) (R:RT) (w:Wd):Prop:=
 opV Pg (Instr.box 123 c) (Zb R) w λ b w=>
 opV Pg (loadAt 123 b) (Zb R) w λ d w=>
 Zg Pg 214 #[a,d] (Zb R) w λ f w=>
 Ye w λ e w=>
 ZaY a b e R w
theorem ZhY {t0 t1:Vl} {R:RT} {w:Wd} (h:n94 t0 t1 R w):Calls Pg 213 #[t0,t1] w R:=by
 refine yD func213 ?_
 refine zs<|zr<|yv h λ _ w h=>zn<|zk<|zs<|zr<|zm<|yv h λ _ w h=>yc h Zcn λ _ w h=>zn<|zk<|yh [7,8,9,10,11,12,13,14,15,16,17] h λ C hC h=>yw 0 hC ?_
 refine ye 1 hC h λ _ h=>?_
 refine ye 2 hC h λ _ h=>?_
 refine ye 3 hC h λ _ h=>?_
 refine ye 4 hC h λ _ h=>?_
 refine ye 5 hC h λ _ h=>?_
 refine ye 6 hC h λ _ h=>?_
 refine ye 7 hC h λ _ h=>?_
 refine ye 8 hC h λ _ h=>?_
 refine yo 9 ?_
 refine yS h λ _ w h=>zn ?_
 obtain ⟨hC,h⟩:=h
 refine ⟨hC,?_⟩
 refine yo 10 ?_
 refine yc h Cr λ _ w h=>zn ?_
 obtain ⟨hC,h⟩:=h
 refine ⟨hC,?_⟩
 exact yz<|ZH<|ZO rfl h
def Pb (d b e f:Vl) (R:RT) (w:Wd):Prop:=
 Zq (λ (a:Vl) (w:Wd)=>
 ZD b a (.bool false) λ g=>
 Zg Pg 135 #[d,g,(.int .i64 6)] (Zb R) w λ h w=>
 R (.returned (.tuple #[])) w) λ c=>
 Zp b true (
 ZD e (.bool true) f λ a=>
 c a w) (
 c undef w)
def Pc (g h i c d:Vl) (R:RT) (w:Wd):Prop:=
 Zq (λ (a:Vl) (w:Wd)=>
 Zq (λ (b:Vl) (w:Wd)=>
 Pb g i c b R w) λ e=>
 Zp c false (
 ZD d a (.bool false) λ b=>
 e b w) (
 e undef w)) λ f=>
 Zp d true (
 opV Pg (fieldAt 123 h 2) (Zb R) w λ j w=>
 opV Pg (loadAt 3 j) (Zb R) w λ k w=>
 opV Pg (Zh .rem 3 true k (.int .i64 8)) (Zb R) w λ l w=>
 opV Pg (Zh .eql 3 true l (.int .i64 0)) (Zb R) w λ a w=>
 f a w) (
 f undef w)
def Pd (d a e b:Vl) (R:RT) (w:Wd):Prop:=
 Zq (λ (f:Vl) (w:Wd)=>
 Pc d a e b f R w) λ c=>
 Zp b false (
 opV Pg (fieldAt 123 a 2) (Zb R) w λ g w=>
 opV Pg (loadAt 3 g) (Zb R) w λ h w=>
 opV Pg (Zh .gtr 3 true h (.int .i64 8)) (Zb R) w λ i w=>
 c i w) (
 c undef w)
def Pe (d a e f:Vl) (R:RT) (w:Wd):Prop:=
 ZD e f (.bool false) λ b=>
 Zq (λ (g:Vl) (w:Wd)=>
 Pd d a b g R w) λ c=>
 Zp b true (
 opV Pg (fieldAt 123 a 3) (Zb R) w λ h w=>
 opV Pg (loadAt 4 h) (Zb R) w λ i w=>
 opV Pg (Op.unary .not i) (Zb R) w λ j w=>
 c j w) (
 c undef w)
def n69 (e f:Vl) (R:RT) (w:Wd):Prop:=
 opV Pg (Instr.box 123 f) (Zb R) w λ a w=>
 opV Pg (fieldAt 123 a 2) (Zb R) w λ g w=>
 opV Pg (loadAt 3 g) (Zb R) w λ h w=>
 opV Pg (Zh .geq 3 true h (.int .i64 1)) (Zb R) w λ c w=>
 Zq (λ (b:Vl) (w:Wd)=>
 Pe e a c b R w) λ d=>
 Zp c true (
 opV Pg (fieldAt 123 a 2) (Zb R) w λ i w=>
 opV Pg (loadAt 3 i) (Zb R) w λ j w=>
 opV Pg (Zh .leq 3 true j (.int .i64 32)) (Zb R) w λ b w=>
 d b w) (
 d undef w)
theorem Zhy {t0 t1:Vl} {R:RT} {w:Wd} (h:n69 t0 t1 R w):Calls Pg 214 #[t0,t1] w R:=by
 refine yD func214 ?_
 refine zs<|zr<|yv h λ _ w h=>zn<|zk<|Zr<|yG 5<|zm<|yv h λ _ w h=>yv h λ _ w h=>yb h λ _ w h=>zm<|zn<|yg1 3 4 true [9,10,11] 11 h (λ _ T hT h=>?_) λ σ w h=>?_
 · refine yv h λ _ w h=>yv h λ _ w h=>yb h λ _ w h=>zn ?_
   exact zt hT h
 refine yG 2<|yp h λ _ h=>zm<|zn<|yg1 4 9 true [14,15,16,17] 17 h (λ _ T hT h=>?_) λ σ w h=>?_
 · refine yv h λ _ w h=>yv h λ _ w h=>yv h λ _ w h=>zm<|zn ?_
   exact zt hT h
 refine yg1 4 13 false [18,19,20,21] 21 h (λ _ T hT h=>?_) λ σ w h=>?_
 · refine yv h λ _ w h=>yv h λ _ w h=>yb h λ _ w h=>zm<|zn ?_
   exact zt hT h
 refine yg1 4 17 true [22,23,24,25] 25 h (λ _ T hT h=>?_) λ σ w h=>?_
 · refine yv h λ _ w h=>yv h λ _ w h=>yb h λ _ w h=>yb h λ _ w h=>zn ?_
   exact zt hT h
 refine yg1 1 13 false [26] 26 h (λ _ T hT h=>?_) λ σ w h=>?_
 · refine yp h λ _ h=>zn ?_
   exact zt hT h
 refine yg1 1 9 true [27] 27 h (λ _ T hT h=>?_) λ σ w h=>?_
 · refine yp h λ _ h=>zn ?_
   exact zt hT h
 exact yG 2<|yp h λ _ h=>yc h VF λ _ w h=>zn<|ZK<|ZH<|ZO rfl h
def IW (a b c d e:Vl) (ZA:KW) (R:RT) (w:Wd):Prop:=
 ZD d e (.bool false) λ f=>
 Zg Pg 135 #[a,f,(.int .i64 7)] (Zb R) w λ h w=>
 opV Pg (Zh .add 3 true b (.int .i64 1)) (Zb R) w λ g w=>
 ZA c g w
def IX (f g h i c:Vl) (ZA:KW) (R:RT) (w:Wd):Prop:=
 opV Pg (indexAt 61 i c) (Zb R) w λ j w=>
 opV Pg (loadAt 3 j) (Zb R) w λ a w=>
 opV Pg (Zh .geq 3 false a g) (Zb R) w λ d w=>
 Zq (λ (b:Vl) (w:Wd)=>
 IW f c a d b ZA R w) λ e=>
 Zp d true (
 opV Pg (Zh .leq 3 false a h) (Zb R) w λ b w=>
 e b w) (
 e undef w)
def n77 (d a e b:Vl) (R:RT) (w:Wd):Prop:=
 opV Pg (Builtin.len_ #[61] 3 #[b]) (Zb R) w λ f w=>
 U0 (λ a c w ZA=>
 opV Pg (Zh .lss 3 false c f) (Zb R) w λ g w=>
 Zu g (
 IX d a e b c ZA R w) (
 R (.returned (.tuple #[])) w)) a (.int .i64 0) w
theorem ZhG {t0 t1 t2 t3:Vl} {R:RT} {w:Wd} (h:n77 t0 t1 t2 t3 R w):Calls Pg 215 #[t0,t1,t2,t3] w R:=by
 refine yD func215 ?_
 refine zs<|zr<|zm<|yx h λ _ w h=>zm<|zn<|zk<|Zn<|yl2 [1,9,12,13,14,15,16,17,18,19,20,21,22,23,24,25,26,27] 1 12 h λ σ w next h=>zs<|zr<|yb h λ _ w h=>zn<|zk<|zs ?_
 refine yC h (λ h=>?_) λ h=>?_
 · refine Zo<|zk<|zs<|Zn<|zs<|zr<|yv h λ _ w h=>yv h λ _ w h=>zm<|zn<|zk<|zs<|Zr<|yG 5<|zm ?_
   refine zm<|zm<|yb h λ _ w h=>zm<|zn<|yg1 3 4 true [21,22,23] 23 h (λ _ T hT h=>?_) λ σ w h=>?_
   · refine zm<|zm<|yb h λ _ w h=>zn ?_
     exact zt hT h
   refine yG 2<|yp h λ _ h=>yc h VF λ _ w h=>zn<|ZK<|zk<|zr<|zm<|zm<|zn<|Zf<|zk<|zr<|yb h λ _ w h=>zm ?_
   exact zn<|zk<|⟨rfl,h⟩
 exact ZR<|Ze<|Ze<|Zx<|ZH<|ZO rfl h
def n98 (a:Vl) (R:RT) (w:Wd):Prop:=
 opN Pg (YL a) (Zb R) w λ b w=>
 opV Pg (fieldAt 123 b 2) (Zb R) w λ c w=>
 opU Pg (storeAt 3 c (.int .i64 0)) (Zb R) w λ w=>
 opN Pg (YL a) (Zb R) w λ d w=>
 opV Pg (fieldAt 123 d 3) (Zb R) w λ e w=>
 opU Pg (storeAt 4 e (.bool false)) (Zb R) w λ w=>
 opN Pg (YL a) (Zb R) w λ f w=>
 opV Pg (fieldAt 123 f 5) (Zb R) w λ g w=>
 opU Pg (storeAt 3 g (.int .i64 0)) (Zb R) w λ w=>
 R (.returned (.tuple #[])) w
theorem Zh2 {t0:Vl} {R:RT} {w:Wd} (h:n98 t0 R w):Calls Pg 216 #[t0] w R:=by
 refine yD func216 ?_
 refine zr<|zm<|zm<|zm<|yN h λ _ w h=>yv h λ _ w h=>yu h λ w h=>yN h λ _ w h=>yv h λ _ w h=>yu h λ w h=>yN h λ _ w h=>yv h λ _ w h=>yu h λ w h=>zn<|ZH ?_
 exact ZO rfl h
def Za0 (c b:Vl) (a:WPr) (R:RT) (w:Wd):Prop:=
 qV Pg a (fieldAt 123 b 2) λ d=>
 qV Pg a (loadAt 3 d) λ e=>
 qV Pg a (Zh .shl 3 true (.int .i64 1) e) λ f=>
 qV Pg a (Zh .sub 3 true f (.int .i64 1)) λ g=>
 qV Pg a (fieldAt 123 b 5) λ h=>
 qV Pg a (loadAt 3 h) λ i=>
 opV Pg (buildSlice 61 1 #[(0,i)]) (Zb R) w λ j w=>
 a w∧(
 Zg Pg 215 #[c,(.int .i64 0),g,j] (Zb R) w λ k w=>
 a w∧(
 R (.returned (.tuple #[])) w))
def n99 (a c:Vl) (R:RT) (w:Wd):Prop:=
 opV Pg (Instr.box 123 c) (Zb R) w λ b w=>
 opV Pg (loadAt 123 b) (Zb R) w λ d w=>
 Zg Pg 214 #[a,d] (Zb R) w λ f w=>
 Ye w λ e w=>
 Za0 a b e R w
theorem Zh3 {t0 t1:Vl} {R:RT} {w:Wd} (h:n99 t0 t1 R w):Calls Pg 217 #[t0,t1] w R:=by
 refine yD func217 ?_
 refine zs<|zr<|yv h λ _ w h=>zn<|zk<|zs<|zr<|zm<|yv h λ _ w h=>yc h Zcn λ _ w h=>zn<|zk<|yh [7,8,9,10,11,12,13,14,15] h λ C hC h=>yw 0 hC ?_
 refine ye 1 hC h λ _ h=>?_
 refine ye 2 hC h λ _ h=>?_
 refine ye 3 hC h λ _ h=>?_
 refine ye 4 hC h λ _ h=>?_
 refine ye 5 hC h λ _ h=>?_
 refine ye 6 hC h λ _ h=>?_
 refine yo 7 ?_
 refine yS h λ _ w h=>zn ?_
 obtain ⟨hC,h⟩:=h
 refine ⟨hC,?_⟩
 refine yo 8 ?_
 refine yc h Cr λ _ w h=>zn ?_
 obtain ⟨hC,h⟩:=h
 refine ⟨hC,?_⟩
 exact yz<|ZH<|ZO rfl h
def ZcG (a:Vl) (R:RT) (w:Wd):Prop:=
 opN Pg (YL a) (Zb R) w λ b w=>
 opV Pg (fieldAt 123 b 4) (Zb R) w λ c w=>
 opU Pg (storeAt 4 c (.bool false)) (Zb R) w λ w=>
 opN Pg (YL a) (Zb R) w λ d w=>
 opV Pg (fieldAt 123 d 5) (Zb R) w λ e w=>
 opU Pg (storeAt 3 e (.int .i64 0)) (Zb R) w λ w=>
 opN Pg (YL a) (Zb R) w λ f w=>
 opV Pg (fieldAt 123 f 6) (Zb R) w λ g w=>
 opU Pg (storeAt 3 g (.int .i64 0)) (Zb R) w λ w=>
 R (.returned (.tuple #[])) w
theorem ZcH {t0:Vl} {R:RT} {w:Wd} (h:ZcG t0 R w):Calls Pg 218 #[t0] w R:=by
 refine yD func218 ?_
 refine zr<|zm<|zm<|zm<|yN h λ _ w h=>yv h λ _ w h=>yu h λ w h=>yN h λ _ w h=>yv h λ _ w h=>yu h λ w h=>yN h λ _ w h=>yv h λ _ w h=>yu h λ w h=>zn<|ZH ?_
 exact ZO rfl h
def ZcI (b c:Vl) (R:RT) (w:Wd):Prop:=
 opV Pg (Instr.box 123 c) (Zb R) w λ a w=>
 opV Pg (fieldAt 123 a 5) (Zb R) w λ d w=>
 opV Pg (loadAt 3 d) (Zb R) w λ e w=>
 opV Pg (fieldAt 123 a 6) (Zb R) w λ f w=>
 opV Pg (loadAt 3 f) (Zb R) w λ g w=>
 opV Pg (buildSlice 61 2 #[(0,e),(1,g)]) (Zb R) w λ h w=>
 Zg Pg 215 #[b,(.int .i64 0),(.int .i64 34359738367),h] (Zb R) w λ i w=>
 R (.returned (.tuple #[])) w
theorem ZcJ {t0 t1:Vl} {R:RT} {w:Wd} (h:ZcI t0 t1 R w):Calls Pg 219 #[t0,t1] w R:=by
 refine yD func219 ?_
 refine zs<|zr<|yv h λ _ w h=>zn<|zk<|zr<|zm<|yv h λ _ w h=>yv h λ _ w h=>yv h λ _ w h=>yv h λ _ w h=>yS h λ _ w h=>yc h Cr λ _ w h=>zn<|ZH ?_
 exact ZO rfl h
def ZcK (a:Vl) (R:RT) (w:Wd):Prop:=
 opV Pg (Instr.build 120 #[]) (Zb R) w λ b w=>
 opN Pg (YL a) (Zb R) w λ c w=>
 opV Pg (fieldAt 123 c 7) (Zb R) w λ d w=>
 opU Pg (storeAt 120 d b) (Zb R) w λ w=>
 R (.returned (.tuple #[])) w
theorem ZcL {t0:Vl} {R:RT} {w:Wd} (h:ZcK t0 R w):Calls Pg 220 #[t0] w R:=by
 refine yD func220 ?_
 exact zr<|zm<|yB h λ _ w h=>yN h λ _ w h=>yv h λ _ w h=>yu h λ w h=>zn<|ZH<|ZO rfl h
def KS (c d e:Vl) (f:WPr) (a:PEn) (R:RT) (w:Wd):Prop:=
 opV Pg (loadAt 296 d) a w λ g w=>
 opV Pg (Instr.lookup 296 g e true) a w λ b w=>
 opV Pg (Instr.extract b 0) a w λ h w=>
 opV Pg (Instr.extract b 1) a w λ i w=>
 opV Pg (Instr.alloc 300 true (.tuple #[])) a w λ j w=>
 opU Pg (storeAt 300 j h) a w λ w=>
 opV Pg (loadAt 167 c) a w λ k w=>
 Zg Pg 135 #[k,i,(.int .i64 8)] a w λ l w=>
 f w
def KT (d e f g:Vl) (ds:LDf) (R:RT) (w:Wd):Prop:=
 ZD f g (.bool false) λ b=>
 Zq (λ (a:Vl) (w:Wd)=>
 ZD b a (.bool false) λ h=>
 Zg Pg 135 #[e,h,(.int .i64 9)] (Zy Pg ds [] R) w λ k w=>
 VH Pg ds [] R w) λ c=>
 Zp b true (
 opV Pg (fieldAt 300 d 1) (Zy Pg ds [] R) w λ i w=>
 opV Pg (loadAt 3 i) (Zy Pg ds [] R) w λ j w=>
 opV Pg (Zh .leq 3 true j (.int .i64 1048576)) (Zy Pg ds [] R) w λ a w=>
 c a w) (
 c undef w)
def KU (f c:Vl) (ds:LDf) (R:RT) (w:Wd):Prop:=
 opV Pg (Instr.extract c 0) (Zy Pg ds [] R) w λ g w=>
 opV Pg (Instr.extract c 1) (Zy Pg ds [] R) w λ h w=>
 opV Pg (Instr.alloc 300 true (.tuple #[])) (Zy Pg ds [] R) w λ a w=>
 opU Pg (storeAt 300 a g) (Zy Pg ds [] R) w λ w=>
 opV Pg (loadAt 167 f) (Zy Pg ds [] R) w λ i w=>
 opV Pg (Zh .eql 49 true h (.int .i64 0)) (Zy Pg ds [] R) w λ d w=>
 Zq (λ (b:Vl) (w:Wd)=>
 KT a i d b ds R w) λ e=>
 Zp d true (
 opV Pg (fieldAt 300 a 0) (Zy Pg ds [] R) w λ j w=>
 opV Pg (loadAt 3 j) (Zy Pg ds [] R) w λ k w=>
 opV Pg (Zh .geq 3 true k (.int .i64 0)) (Zy Pg ds [] R) w λ b w=>
 e b w) (
 e undef w)
def U1 (a b c:Vl) (ds:LDf) (R:RT) (w:Wd):Prop:=
 opV Pg (fieldAt 123 b 7) (Zy Pg ds [] R) w λ d w=>
 opV Pg (loadAt 120 d) (Zy Pg ds [] R) w λ e w=>
 opV Pg (loadAt 296 c) (Zy Pg ds [] R) w λ f w=>
 Zg Pg 249 #[e,f] (Zy Pg ds [] R) w λ g w=>
 KU a g ds R w
def U2 (a c b d:Vl) (ds:LDf) (R:RT) (w:Wd):Prop:=
 An Pg d ds (λ l2 e w f h g=>
 qM l2 w λ w=>
 KS a b e f g R w) (λ ch ds w=>Zy Pg ds [] R ch w) w (λ ds w=>
 U1 a c b ds R w) []
def KX (c a d:Vl) (ds:LDf) (R:RT) (w:Wd):Prop:=
 opV Pg (Instr.alloc 296 true (.tuple #[])) (Zy Pg ds [] R) w λ b w=>
 opU Pg (storeAt 296 b d) (Zy Pg ds [] R) w λ w=>
 opV Pg (fieldAt 123 a 7) (Zy Pg ds [] R) w λ e w=>
 opV Pg (loadAt 120 e) (Zy Pg ds [] R) w λ f w=>
 Zg Pg 248 #[f] (Zy Pg ds [] R) w λ g w=>
 U2 c a b g ds R w
def KY (a b:Vl) (ds:LDf) (R:RT) (w:Wd):Prop:=
 opV Pg (loadAt 167 a) (Zy Pg ds [] R) w λ c w=>
 Zg Pg 195 #[c] (Zy Pg ds [] R) w λ d w=>
 Zg Pg 247 #[d] (Zy Pg ds [] R) w λ e w=>
 KX a b e ds R w
def KZ (b c:Vl) (a:WPr) (ds:LDf) (R:RT) (w:Wd):Prop:=
 qV Pg a (loadAt 167 b) λ d=>
 qV Pg a (fieldAt 123 c 7) λ e=>
 qV Pg a (loadAt 120 e) λ f=>
 Zg Pg 246 #[f] (Zy Pg ds [] R) w λ g w=>
 a w∧(
 Zg Pg 135 #[d,g,(.int .i64 9)] (Zy Pg ds [] R) w λ h w=>
 a w∧(
 KY b c ds R w))
def n76 (a b:Vl) (R:RT) (w:Wd):Prop:=
 (λ (ds:LDf)=>
 opV Pg (Instr.box 167 a) (Zy Pg ds [] R) w λ c w=>
 opV Pg (Instr.box 123 b) (Zy Pg ds [] R) w λ d w=>
 Ye w λ e w=>
 KZ c d e ds R w) []
theorem ZhF {t0 t1:Vl} {R:RT} {w:Wd} (h:n76 t0 t1 R w):Calls Pg 221 #[t0,t1] w R:=by
 refine yE func221 ?_
 unfold n76 at h
 dsimp only at h
 refine zs<|zr<|yv h λ _ w h=>yv h λ _ w h=>zn<|zk<|zs<|yh [10,11,12,13,14] h λ C hC h=>ye 0 hC h λ _ h=>?_
 refine ye 1 hC h λ _ h=>?_
 refine ye 2 hC h λ _ h=>?_
 refine yo 3 ?_
 refine yc h Zbi λ _ w h=>zn ?_
 obtain ⟨hC,h⟩:=h
 refine ⟨hC,?_⟩
 refine yo 4 ?_
 refine yc h VF λ _ w h=>zn ?_
 obtain ⟨hC,h⟩:=h
 refine ⟨hC,?_⟩
 refine yz<|zk<|zs<|zr<|yv h λ _ w h=>yc h Lr λ _ w h=>yc h RN λ _ w h=>yv h λ _ w h=>yu h λ w h=>zn<|zk<|zs<|zs<|zr<|yv h λ _ w h=>?_
 refine yv h λ _ w h=>yc h Zcp λ _ w h=>zn<|zk<|Zn<|JO [] h rfl (λ l2 t21 w Kr2 Xr2 Qr2 h=>?_) (λ ds w h=>?_) (λ c ds w h=>?_) (λ ch ds w h=>XM rfl h)
 · refine zr<|zm<|zn<|zk ?_
   obtain ⟨hr,h⟩:=h
   refine ⟨rfl,hr,λ w hb=>?_⟩
   have h:=h w hb
   refine Zn<|zs<|zr<|yv h λ _ w h=>zm<|yv h λ _ w h=>zm<|yv h λ _ w h=>yv h λ _ w h=>yv h λ _ w h=>yu h λ w h=>zm<|zn<|zk<|zr ?_
   exact yv h λ _ w h=>zm<|yc h VF λ _ w h=>zn<|Zf<|⟨rfl,h⟩
 · refine Zf<|zk<|zs<|zr<|yv h λ _ w h=>yv h λ _ w h=>yv h λ _ w h=>yc h Zgo λ _ w h=>zm<|yv h λ _ w h=>yv h λ _ w h=>yv h λ _ w h=>yu h λ w h=>zm<|zn ?_
   refine zk<|Zr<|yG 4<|yv h λ _ w h=>zm<|yb h λ _ w h=>zm<|zn<|yg1 3 3 true [42,43,44] 44 h (λ _ T hT h=>?_) λ σ w h=>?_
   · refine yv h λ _ w h=>yv h λ _ w h=>yb h λ _ w h=>zn ?_
     exact zt hT h
   refine yG 2<|yp h λ _ h=>zm<|zn<|yg1 3 8 true [47,48,49] 49 h (λ _ T hT h=>?_) λ σ w h=>?_
   · refine yv h λ _ w h=>yv h λ _ w h=>yb h λ _ w h=>zn ?_
     exact zt hT h
   exact yG 2<|yp h λ _ h=>yc h VF λ _ w h=>zn<|ZK<|GX<|XN rfl h
 exact h.elim
def ZcM (a:Vl) (R:RT) (w:Wd):Prop:=
 opN Pg (YL a) (Zb R) w λ b w=>
 opV Pg (fieldAt 123 b 5) (Zb R) w λ c w=>
 opU Pg (storeAt 3 c (.int .i64 0)) (Zb R) w λ w=>
 opN Pg (YL a) (Zb R) w λ d w=>
 opV Pg (fieldAt 123 d 6) (Zb R) w λ e w=>
 opU Pg (storeAt 3 e (.int .i64 0)) (Zb R) w λ w=>
 R (.returned (.tuple #[])) w
theorem ZcN {t0:Vl} {R:RT} {w:Wd} (h:ZcM t0 R w):Calls Pg 222 #[t0] w R:=by
 refine yD func222 ?_
 exact zr<|zm<|zm<|yN h λ _ w h=>yv h λ _ w h=>yu h λ w h=>yN h λ _ w h=>yv h λ _ w h=>yu h λ w h=>zn<|ZH<|ZO rfl h
def NR (a b:Vl) (R:RT) (w:Wd):Prop:=
 opV Pg (fieldAt 123 b 6) (Zb R) w λ c w=>
 opV Pg (loadAt 3 c) (Zb R) w λ d w=>
 opV Pg (buildSlice 61 1 #[(0,d)]) (Zb R) w λ e w=>
 Zg Pg 215 #[a,(.int .i64 0),(.int .i64 1048576),e] (Zb R) w λ f w=>
 R (.returned (.tuple #[])) w
def ZcO (a c:Vl) (R:RT) (w:Wd):Prop:=
 opV Pg (Instr.box 123 c) (Zb R) w λ b w=>
 opV Pg (fieldAt 123 b 5) (Zb R) w λ d w=>
 opV Pg (loadAt 3 d) (Zb R) w λ e w=>
 opV Pg (buildSlice 61 1 #[(0,e)]) (Zb R) w λ f w=>
 Zg Pg 215 #[a,(.int .i64 0),(.int .i64 255),f] (Zb R) w λ g w=>
 NR a b R w
theorem ZcP {t0 t1:Vl} {R:RT} {w:Wd} (h:ZcO t0 t1 R w):Calls Pg 223 #[t0,t1] w R:=by
 refine yD func223 ?_
 refine zs<|zr<|yv h λ _ w h=>zn<|zk<|zs<|zr<|zm<|yv h λ _ w h=>yv h λ _ w h=>yS h λ _ w h=>yc h Cr λ _ w h=>zn<|zk<|zr ?_
 exact zm<|yv h λ _ w h=>yv h λ _ w h=>yS h λ _ w h=>yc h Cr λ _ w h=>zn<|ZH<|ZO rfl h
def n84 (a:Vl) (R:RT) (w:Wd):Prop:=
 opN Pg (YL a) (Zb R) w λ b w=>
 opV Pg (fieldAt 123 b 4) (Zb R) w λ c w=>
 opU Pg (storeAt 4 c (.bool false)) (Zb R) w λ w=>
 opN Pg (YL a) (Zb R) w λ d w=>
 opV Pg (fieldAt 123 d 6) (Zb R) w λ e w=>
 opU Pg (storeAt 3 e (.int .i64 0)) (Zb R) w λ w=>
 R (.returned (.tuple #[])) w
theorem ZhO {t0:Vl} {R:RT} {w:Wd} (h:n84 t0 R w):Calls Pg 224 #[t0] w R:=by
 refine yD func224 ?_
 exact zr<|zm<|zm<|yN h λ _ w h=>yv h λ _ w h=>yu h λ w h=>yN h λ _ w h=>yv h λ _ w h=>yu h λ w h=>zn<|ZH<|ZO rfl h
def n85 (a b:Vl) (R:RT) (w:Wd):Prop:=
 opV Pg (Instr.box 123 b) (Zb R) w λ c w=>
 opV Pg (fieldAt 123 c 6) (Zb R) w λ d w=>
 opV Pg (loadAt 3 d) (Zb R) w λ e w=>
 opV Pg (buildSlice 61 1 #[(0,e)]) (Zb R) w λ f w=>
 Zg Pg 215 #[a,(.int .i64 2),(.int .i64 1048576),f] (Zb R) w λ g w=>
 R (.returned (.tuple #[])) w
theorem ZhP {t0 t1:Vl} {R:RT} {w:Wd} (h:n85 t0 t1 R w):Calls Pg 225 #[t0,t1] w R:=by
 refine yD func225 ?_
 exact zs<|zr<|yv h λ _ w h=>zn<|zk<|zr<|zm<|yv h λ _ w h=>yv h λ _ w h=>yS h λ _ w h=>yc h Cr λ _ w h=>zn<|ZH<|ZO rfl h
def n86 (a:Vl) (R:RT) (w:Wd):Prop:=
 opV Pg (Instr.build 120 #[]) (Zb R) w λ b w=>
 opN Pg (YL a) (Zb R) w λ c w=>
 opV Pg (fieldAt 123 c 8) (Zb R) w λ d w=>
 opU Pg (storeAt 9 d (.string { data := #[] })) (Zb R) w λ w=>
 opN Pg (YL a) (Zb R) w λ e w=>
 opV Pg (fieldAt 123 e 7) (Zb R) w λ f w=>
 opU Pg (storeAt 120 f b) (Zb R) w λ w=>
 R (.returned (.tuple #[])) w
theorem ZhQ {t0:Vl} {R:RT} {w:Wd} (h:n86 t0 R w):Calls Pg 226 #[t0] w R:=by
 refine yD func226 ?_
 exact zr<|zm<|zm<|yB h λ _ w h=>yN h λ _ w h=>yv h λ _ w h=>yu h λ w h=>yN h λ _ w h=>yv h λ _ w h=>yu h λ w h=>zn<|ZH<|ZO rfl h
def n87 (a c:Vl) (R:RT) (w:Wd):Prop:=
 opV Pg (Instr.box 123 c) (Zb R) w λ b w=>
 opV Pg (fieldAt 123 b 8) (Zb R) w λ d w=>
 opV Pg (loadAt 9 d) (Zb R) w λ e w=>
 Zg Pg 228 #[a,e] (Zb R) w λ g w=>
 opV Pg (loadAt 123 b) (Zb R) w λ f w=>
 Zg Pg 221 #[a,f] (Zb R) w λ h w=>
 R (.returned (.tuple #[])) w
theorem ZhR {t0 t1:Vl} {R:RT} {w:Wd} (h:n87 t0 t1 R w):Calls Pg 227 #[t0,t1] w R:=by
 refine yD func227 ?_
 refine zs<|zr<|yv h λ _ w h=>zn<|zk<|zs<|zr<|zm<|yv h λ _ w h=>yv h λ _ w h=>yc h Zbh λ _ w h=>zn<|zk<|zr<|zm ?_
 exact yv h λ _ w h=>yc h Zbg λ _ w h=>zn<|ZH<|ZO rfl h
def n75 (a c:Vl) (R:RT) (w:Wd):Prop:=
 opN Pg (YL a) (Zb R) w λ d w=>
 opV Pg (fieldAt 201 d 1) (Zb R) w λ e w=>
 opV Pg (loadAt 198 e) (Zb R) w λ f w=>
 opV Pg (Instr.lookup 198 f c true) (Zb R) w λ b w=>
 opV Pg (Instr.extract b 0) (Zb R) w λ h w=>
 opV Pg (Instr.extract b 1) (Zb R) w λ g w=>
 Zg Pg 135 #[a,g,(.int .i64 8)] (Zb R) w λ i w=>
 R (.returned (.tuple #[])) w
theorem ZhE {t0 t1:Vl} {R:RT} {w:Wd} (h:n75 t0 t1 R w):Calls Pg 228 #[t0,t1] w R:=by
 refine yD func228 ?_
 refine zs<|zr<|zm<|yN h λ _ w h=>yv h λ _ w h=>yv h λ _ w h=>zm<|yv h λ _ w h=>zm<|yv h λ _ w h=>yv h λ _ w h=>zm<|zm<|zn<|zk ?_
 exact zr<|zm<|zm<|yc h VF λ _ w h=>zn<|ZH<|ZO rfl h
def n88 (a:Vl) (R:RT) (w:Wd):Prop:=
 opN Pg (YL a) (Zb R) w λ b w=>
 opV Pg (fieldAt 123 b 8) (Zb R) w λ c w=>
 opU Pg (storeAt 9 c (.string { data := #[] })) (Zb R) w λ w=>
 R (.returned (.tuple #[])) w
theorem ZhS {t0:Vl} {R:RT} {w:Wd} (h:n88 t0 R w):Calls Pg 229 #[t0] w R:=by
 refine yD func229 ?_
 exact zr<|zm<|yN h λ _ w h=>yv h λ _ w h=>yu h λ w h=>zn<|ZH<|ZO rfl h
def n89 (a b:Vl) (R:RT) (w:Wd):Prop:=
 opV Pg (Instr.box 123 b) (Zb R) w λ c w=>
 opV Pg (fieldAt 123 c 8) (Zb R) w λ d w=>
 opV Pg (loadAt 9 d) (Zb R) w λ e w=>
 Zg Pg 228 #[a,e] (Zb R) w λ f w=>
 R (.returned (.tuple #[])) w
theorem ZhT {t0 t1:Vl} {R:RT} {w:Wd} (h:n89 t0 t1 R w):Calls Pg 230 #[t0,t1] w R:=by
 refine yD func230 ?_
 exact zs<|zr<|yv h λ _ w h=>zn<|zk<|zr<|zm<|yv h λ _ w h=>yv h λ _ w h=>yc h Zbh λ _ w h=>zn<|ZH<|ZO rfl h
def n90 (a:Vl) (R:RT) (w:Wd):Prop:=
 opN Pg (YL a) (Zb R) w λ b w=>
 opV Pg (fieldAt 123 b 9) (Zb R) w λ c w=>
 opU Pg (storeAt 9 c (.string { data := #[] })) (Zb R) w λ w=>
 opN Pg (YL a) (Zb R) w λ d w=>
 opV Pg (fieldAt 123 d 11) (Zb R) w λ e w=>
 opU Pg (storeAt 121 e (Value.slice none 0 0)) (Zb R) w λ w=>
 R (.returned (.tuple #[])) w
theorem ZhU {t0:Vl} {R:RT} {w:Wd} (h:n90 t0 R w):Calls Pg 231 #[t0] w R:=by
 refine yD func231 ?_
 exact zr<|zm<|zm<|yN h λ _ w h=>yv h λ _ w h=>yu h λ w h=>yN h λ _ w h=>yv h λ _ w h=>yu h λ w h=>zn<|ZH<|ZO rfl h
def BR (a b:Vl) (Qu:KW) (R:RT) (w:Wd):Prop:=
 opV Pg (fieldAt 213 a 1) (Zb R) w λ c w=>
 opV Pg (loadAt 3 c) (Zb R) w λ d w=>
 opV Pg (Zh .add 3 true d (.int .i64 1)) (Zb R) w λ e w=>
 opV Pg (Zh .add 3 true b (.int .i64 1)) (Zb R) w λ f w=>
 Qu e f w
def BS (b a c:Vl) (Qu:KW) (R:RT) (w:Wd):Prop:=
 opV Pg (fieldAt 213 a 2) (Zb R) w λ d w=>
 opV Pg (loadAt 9 d) (Zb R) w λ e w=>
 Zg Pg 228 #[b,e] (Zb R) w λ f w=>
 BR a c Qu R w
def BT (b d e f c:Vl) (Qu:KW) (R:RT) (w:Wd):Prop:=
 opV Pg (indexAt 121 f c) (Zb R) w λ g w=>
 opV Pg (loadAt 213 g) (Zb R) w λ h w=>
 opV Pg (Instr.alloc 213 true (.tuple #[])) (Zb R) w λ a w=>
 opU Pg (storeAt 213 a h) (Zb R) w λ w=>
 opV Pg (fieldAt 300 d 1) (Zb R) w λ i w=>
 opV Pg (loadAt 3 i) (Zb R) w λ j w=>
 opV Pg (fieldAt 213 a 0) (Zb R) w λ k w=>
 opV Pg (loadAt 3 k) (Zb R) w λ l w=>
 opV Pg (fieldAt 213 a 1) (Zb R) w λ m w=>
 opV Pg (loadAt 3 m) (Zb R) w λ n w=>
 opV Pg (buildSlice 61 2 #[(0,l),(1,n)]) (Zb R) w λ o w=>
 Zg Pg 215 #[b,e,j,o] (Zb R) w λ p w=>
 BS b a c Qu R w
def j0 (d e a:Vl) (R:RT) (w:Wd):Prop:=
 opV Pg (fieldAt 300 a 0) (Zb R) w λ f w=>
 opV Pg (loadAt 3 f) (Zb R) w λ g w=>
 opV Pg (fieldAt 123 e 11) (Zb R) w λ h w=>
 opV Pg (loadAt 121 h) (Zb R) w λ b w=>
 opV Pg (Builtin.len_ #[121] 3 #[b]) (Zb R) w λ i w=>
 U0 (λ j c w Qu=>
 opV Pg (Zh .lss 3 false c i) (Zb R) w λ k w=>
 Zu k (
 BT d a j b c Qu R w) (
 R (.returned (.tuple #[])) w)) g (.int .i64 0) w
def j4 (c a f:Vl) (R:RT) (w:Wd):Prop:=
 opV Pg (fieldAt 123 a 11) (Zb R) w λ g w=>
 opV Pg (loadAt 121 g) (Zb R) w λ h w=>
 opV Pg (Builtin.len_ #[121] 3 #[h]) (Zb R) w λ i w=>
 opV Pg (Zh .geq 3 true i (.int .i64 1)) (Zb R) w λ d w=>
 Zq (λ (b:Vl) (w:Wd)=>
 ZD d b (.bool false) λ j=>
 Zg Pg 135 #[c,j,(.int .i64 3)] (Zb R) w λ n w=>
 j0 c a f R w) λ e=>
 Zp d true (
 opV Pg (fieldAt 123 a 11) (Zb R) w λ k w=>
 opV Pg (loadAt 121 k) (Zb R) w λ l w=>
 opV Pg (Builtin.len_ #[121] 3 #[l]) (Zb R) w λ m w=>
 opV Pg (Zh .leq 3 true m (.int .i64 40)) (Zb R) w λ b w=>
 e b w) (
 e undef w)
def j5 (b e f c g:Vl) (R:RT) (w:Wd):Prop:=
 Zq (λ (a:Vl) (w:Wd)=>
 ZD c a (.bool false) λ h=>
 Zg Pg 135 #[b,h,(.int .i64 8)] (Zb R) w λ i w=>
 j4 b e f R w) λ d=>
 Zp c true (
 opV Pg (Op.unary .not g) (Zb R) w λ a w=>
 d a w) (
 d undef w)
def KQ (a b c d:Vl) (R:RT) (w:Wd):Prop:=
 Zg Pg 195 #[a] (Zb R) w λ e w=>
 opV Pg (makeFunc (.func 251) #[] #[b]) (Zb R) w λ f w=>
 Zg Pg 250 #[e,f] (Zb R) w λ g w=>
 j5 a b c d g R w
def j6 (d e:Vl) (a:WPr) (f:KW) (R:RT) (w:Wd):Prop:=
 qV Pg a (Instr.lookup 296 d e true) λ b=>
 qV Pg a (Instr.extract b 0) λ g=>
 qV Pg a (Instr.extract b 1) λ h=>
 opV Pg (Instr.alloc 300 true (.tuple #[])) (Zb R) w λ c w=>
 a w∧(
 opU Pg (storeAt 300 c g) (Zb R) w λ w=>
 a w∧(
 f c h w))
def zg (b d e:Vl) (a:WPr) (f:KW) (R:RT) (w:Wd):Prop:=
 qV Pg a (Instr.lookup 296 d e true) λ c=>
 qV Pg a (Instr.extract c 0) λ g=>
 qV Pg a (Instr.extract c 1) λ h=>
 opU Pg (storeAt 300 b g) (Zb R) w λ w=>
 a w∧(
 f b h w)
def GA (c d:Vl) (a:WPr) (e:KW) (R:RT) (w:Wd):Prop:=
 (
 Zg Pg 247 #[c] (Zb R) w λ b w=>
 X4 a w λ f w=>
 j6 b d f e R w)∧(
 opV Pg (Instr.alloc 300 true (.tuple #[])) (Zb R) w λ g w=>
 a w∧(
 Zg Pg 247 #[c] (Zb R) w λ b w=>
 X4 a w λ h w=>
 zg g b d h e R w))
def yO (b d e:Vl) (a:WPr) (f:KW) (R:RT) (w:Wd):Prop:=
 qV Pg a (Instr.lookup 296 d e true) λ c=>
 qV Pg a (Instr.extract c 0) λ g=>
 qV Pg a (Instr.extract c 1) λ h=>
 opU Pg (storeAt 300 b g) (Zb R) w λ w=>
 a w∧(
 f b h w)
def GB (a b c:Vl) (d:WPr) (e:KW) (R:RT) (w:Wd):Prop:=
 Zg Pg 195 #[a] (Zb R) w λ f w=>
 X4 d w λ g w=>
 Zg Pg 247 #[f] (Zb R) w λ h w=>
 X4 g w λ i w=>
 yO b h c i e R w
def GC (b d:Vl) (a:WPr) (R:RT) (w:Wd):Prop:=
 qV Pg a (fieldAt 123 d 9) λ g=>
 qV Pg a (loadAt 9 g) λ e=>
 Zq (λ (c:Vl) (h:Vl) (w:Wd)=>
 KQ b d c h R w) λ f=>
 (
 Zg Pg 195 #[b] (Zb R) w λ i w=>
 X4 a w λ j w=>
 GA i e j f R w)∧(
 opV Pg (Instr.alloc 300 true (.tuple #[])) (Zb R) w λ c w=>
 a w∧(
 GB b c e a f R w))
def n70 (a b:Vl) (R:RT) (w:Wd):Prop:=
 opV Pg (Instr.box 123 b) (Zb R) w λ c w=>
 Ye w λ d w=>
 GC a c d R w
set_option maxHeartbeats 40000000 in
theorem Zhz {t0 t1:Vl} {R:RT} {w:Wd} (h:n70 t0 t1 R w):Calls Pg 232 #[t0,t1] w R:=by
 refine yD func232 ?_
 refine zs<|zr<|yv h λ _ w h=>zn<|zk<|zs<|yh [4,5,10,11,12,13,14,15,16,17,18] h λ C hC h=>yw 0 hC ?_
 refine ye 3 hC h λ _ h=>?_
 refine ye 4 hC h λ _ h=>?_
 refine Qr h (λ K2 hK h=>?_)
 refine Q5 [4,5,10,12,13,16,17,18] (λ ρ w=>K2 (ρ 4) (ρ 5) w) (λ T hT=>?_) (λ σ w h=>?_)
 · obtain ⟨h0,h1⟩:=h
   refine Y7 1 9 rfl rfl (by kernel_rfl) (λ _ _=>rfl) (λ _ _=>rfl) ?_ ?_
   · have h:=h0
     refine yc h Lr λ _ w h=>zn ?_
     obtain ⟨C6,hs,hC,h⟩:=h
     refine ⟨C6,hs,hC,?_⟩
     obtain ⟨h0,h1⟩:=h
     refine Y7 2 9 rfl rfl (by kernel_rfl) (λ _ _=>rfl) (λ _ _=>rfl) ?_ ?_
     · have h:=h0
       refine yc h RN λ _ w h=>zn ?_
       obtain ⟨C7,hs,hC,h⟩:=h
       refine ⟨C7,hs,hC,?_⟩
       refine ye 5 hC h λ _ h=>?_
       refine yw 6 hC ?_
       refine ye 7 hC h λ _ h=>?_
       refine ye 8 hC h λ _ h=>?_
       refine yo 9 ?_
       refine yv h λ _ w h=>zn ?_
       obtain ⟨hC,h⟩:=h
       refine ⟨hC,?_⟩
       refine yo 10 ?_
       refine yu h λ w h=>zn ?_
       obtain ⟨hC,h⟩:=h
       refine ⟨hC,?_⟩
       refine yw 11 hC ?_
       refine yz ?_
       exact zt hT h
     have h:=h1
     refine yv h λ _ w h=>zn ?_
     obtain ⟨hC,h⟩:=h
     refine ⟨_,λ _ h=>h,hC,?_⟩
     refine yr 2 ?_
     refine yc h RN λ _ w h=>zn ?_
     obtain ⟨C8,hs,hC,h⟩:=h
     refine ⟨C8,hs,hC,?_⟩
     refine ye 5 hC h λ _ h=>?_
     refine yw 6 hC ?_
     refine ye 7 hC h λ _ h=>?_
     refine ye 8 hC h λ _ h=>?_
     refine yo 10 ?_
     refine yu h λ w h=>zn ?_
     obtain ⟨hC,h⟩:=h
     refine ⟨hC,?_⟩
     refine yw 11 hC ?_
     refine yz ?_
     exact zt hT h
   have h:=h1
   refine yv h λ _ w h=>zn ?_
   obtain ⟨hC,h⟩:=h
   refine ⟨_,λ _ h=>h,hC,?_⟩
   refine yr 1 ?_
   refine yc h Lr λ _ w h=>zn ?_
   obtain ⟨C9,hs,hC,h⟩:=h
   refine ⟨C9,hs,hC,?_⟩
   refine yr 2 ?_
   refine yc h RN λ _ w h=>zn ?_
   obtain ⟨C10,hs,hC,h⟩:=h
   refine ⟨C10,hs,hC,?_⟩
   refine ye 5 hC h λ _ h=>?_
   refine yw 6 hC ?_
   refine ye 7 hC h λ _ h=>?_
   refine ye 8 hC h λ _ h=>?_
   refine yo 10 ?_
   refine yu h λ w h=>zn ?_
   obtain ⟨hC,h⟩:=h
   refine ⟨hC,?_⟩
   refine yw 11 hC ?_
   refine yz ?_
   exact zt hT h
 subst hK
 refine zk<|zs<|zr<|zm<|yc h Lr λ _ w h=>yF h λ _ w h=>yc h Zgp λ _ w h=>zm<|zn<|zk<|zs<|Zr<|yG 3<|zm<|zm ?_
 refine zm<|zn<|yg1 2 2 true [26,27] 27 h (λ _ T hT h=>?_) λ σ w h=>?_
 · refine zm<|yv h λ _ w h=>zn ?_
   exact zt hT h
 refine yG 2<|yp h λ _ h=>yc h VF λ _ w h=>zn<|ZK<|zk<|zs<|Zr<|yG 6<|zm<|yv h λ _ w h=>yv h λ _ w h=>yx h λ _ w h=>yb h λ _ w h=>zm ?_
 refine zn<|yg1 4 5 true [36,37,38,39] 39 h (λ _ T hT h=>?_) λ σ w h=>?_
 · refine yv h λ _ w h=>yv h λ _ w h=>yx h λ _ w h=>yb h λ _ w h=>zn ?_
   exact zt hT h
 refine yG 2<|yp h λ _ h=>yc h VF λ _ w h=>zn<|ZK<|zk<|zs<|zr<|yv h λ _ w h=>yv h λ _ w h=>zm<|zn<|zk<|zs<|zr ?_
 refine yv h λ _ w h=>yv h λ _ w h=>yx h λ _ w h=>zm<|zn<|zk<|Zn<|yl2 [7,9,47,48,49,50,51,52,53,54,55,56,57,58,59,60,61,62,63,64,65,66,67,68] 7 47 h λ σ w next h=>zs<|zr<|yb h λ _ w h=>zn<|zk<|zs<|yC h (λ h=>?_) λ h=>?_
 · refine Zo<|zk<|zs<|Zn<|zs<|zr<|yv h λ _ w h=>yv h λ _ w h=>yv h λ _ w h=>yu h λ w h=>zn<|zk<|zs<|zr<|zm ?_
   refine zm<|yv h λ _ w h=>yv h λ _ w h=>yv h λ _ w h=>yv h λ _ w h=>yv h λ _ w h=>yv h λ _ w h=>yS h λ _ w h=>yc h Cr λ _ w h=>zn<|zk<|zs<|zr<|zm<|yv h λ _ w h=>?_
   refine yv h λ _ w h=>yc h Zbh λ _ w h=>zn<|zk<|zr<|yv h λ _ w h=>yv h λ _ w h=>yb h λ _ w h=>zm<|zn<|Zf<|zk<|zr<|yb h λ _ w h=>zm ?_
   exact zn<|zk<|⟨rfl,h⟩
 exact ZR<|Ze<|Ze<|Zx<|ZH<|ZO rfl h
abbrev W3 (a f c:Int):Vl := .agg #[.int .i64 a,.int .i64 f,.int .i64 c]
def Xq (a f c:Int):PanicEntry:={ v := .iface 131 (W3 a f c),recovered:=false }
def X2 (w:Wd) (a f c:Int):Ending→Wd→Prop:=λ e w'=>Ext w w'∧(c=0∧e = .returned (.tuple #[])∨c≠0∧e = .panicked [Xq a f c])
theorem ZP {f:FuncId} {args:AVl} {QP:PEn} {w:Wd} {k:KV} {a fl c:Int} (h:Calls Pg f args w (X2 w a fl c)) (hk:∀ w',Ext w w'→c=0→k (.tuple #[]) w') (hp:∀ w',Ext w w'→c≠0→QP [Xq a fl c] w'):Zg Pg f args QP w k:=
 VK h (λ v w' h=>by rcases h with ⟨e,⟨h1,h2⟩ | ⟨_,h2⟩⟩<;>cases h2;exact hk w' e h1) (λ ch w' h=>by rcases h with ⟨e,⟨_,h2⟩ | ⟨h1,h2⟩⟩<;>cases h2;exact hp w' e h1) (λ w' h=>by rcases h with ⟨_,⟨_,h2⟩ | ⟨_,h2⟩⟩<;>cases h2)
theorem Y9 {w w':Wd} {a f c:Int} (e:Ext w w') (h:c=0):X2 w a f c (.returned (.tuple #[])) w':=⟨e,.inl ⟨h,rfl⟩⟩
theorem Ya {w w':Wd} {a f c c':Int} (e:Ext w w') (h:c=c') (h0:c'≠0):Zb (X2 w a f c) [Xq a f c'] w':=⟨e,.inr ⟨by rw [h];exact h0,by rw [h]⟩⟩
def orC (a b:Int):Int:=if a=0 then b else a
theorem YZ (b:Int):orC 0 b=b:=rfl
theorem Qh {a b:Int} (h:a≠0):orC a b=a:=by unfold orC;rw [if_neg h]
def Yo (b:Bool) (c:Int):Int:=if b then 0 else c
structure Chk (w:Wd) (cb md ms:Nat) (Zs:List (BAr×Vl)) (ZE:List (BAr×Vl)) (at_ fld:Int) (fs:List Zt):Prop where
 obj:∃ dn mv ds mn fv,w.heap[cb]?=some (.cells #[.string dn,mv,.string ds,.map (some md),.map (some ms),.int .i64 at_,.int .i64 fld,.string mn,fv] 201 (0,0))∧YC w fv fs
 mdeps:YQ w md Zs
 mstrs:YQ w ms ZE
 dint:∀ k v,Yr Zs k=some v→∃ n,v = .int .i64 n
 sbool:∀ k v,Yr ZE k=some v→∃ b,v = .bool b
def Rl (ZE:List (BAr×Vl)) (s:BAr):Bool:=match Yr ZE s with
 | some (.bool b)=>b
 | _=>false
theorem Chk.strV {w:Wd} {cb md ms:Nat} {Zs ZE:List (BAr×Vl)} {at_ fld:Int} {fs:List Zt} (h:Chk w cb md ms Zs ZE at_ fld fs) (s:BAr):(Yr ZE s).getD (.bool false) = .bool (Rl ZE s):=by
 unfold Rl
 cases hl:Yr ZE s with
 | none=>rfl
 | some v=>obtain ⟨b,rfl⟩:=h.sbool s v hl;rfl
theorem Chk.ext {w w':Wd} {cb md ms:Nat} {Zs ZE:List (BAr×Vl)} {at_ fld:Int} {fs:List Zt} (h:Chk w cb md ms Zs ZE at_ fld fs) (e:Ext w w'):Chk w' cb md ms Zs ZE at_ fld fs:=by
 obtain ⟨⟨dn,mv,ds,mn,fv,h1,h2⟩,h3,h4,h5,h6⟩:=h
 exact ⟨⟨dn,mv,ds,mn,fv,e.obj h1,h2.ext e⟩,h3.ext e,h4.ext e,h5,h6⟩
section
variable {w0:Wd} {cb md ms:Nat} {Zs ZE:List (BAr×Vl)} {at_ fld:Int} {fs:List Zt}
theorem Yy (h:Chk w0 cb md ms Zs ZE at_ fld fs) (b:Bool) (c:Int) (hc:c≠0):Calls Pg 135 #[.pointer (some ⟨cb,0,none⟩),.bool b,.int .i64 c] w0 (X2 w0 at_ fld (Yo b c)):=by
 obtain ⟨⟨dn,mv,ds,mn,fv,h1,h2⟩,h3,h4,h5,h6⟩:=h
 refine ZhC ?_;unfold n73
 cases b with
 | true=>
  simp (disch:=try exact DI) only [↓PR,QR,simprocAttr,↓IU]
  exact Y9 (Ext.refl _) rfl
 | false=>
  simp (disch:=try exact DI) only [↓PR,QR,simprocAttr,↓IU]
  refine ZG ?_
  simp (disch:=try exact DI) only [↓PR,QR,simprocAttr,↓IU,(Za h1).1]
  rw [ER]
  exact Ya (Ext.refl _).drew rfl hc
theorem Wl (h:Chk w0 cb md ms Zs ZE at_ fld fs) (i:Nat) (hi:fld=i) (Yq:i < fs.length):Ret Pg 195 #[.pointer (some ⟨cb,0,none⟩)] w0 λ r w'=>YC w' r (fs.take i)∧Ext w0 w':=by
 obtain ⟨⟨dn,mv,ds,mn,fv,h1,h2⟩,h3,h4,h5,h6⟩:=h
 obtain ⟨A,c,rfl,hlc,hcm,hlm,YV⟩:=Zd.open h2
 obtain ⟨x,hx⟩:=getElem?_lt Yq
 obtain ⟨b,o,_,rfl,_⟩:=YV i x hx
 subst hi
 refine Zhx (R:=ZJ _) ?_;unfold n68
 refine ZG ?_
 simp (disch:=try exact DI) only [↓PR,QR,simprocAttr,↓ZaG,(Za h1).1]
 rw [Ym λ QP w' k=>Vv underlying72 WQ b o fs.length c .i64 i (by omega)]
 simp (disch:=try exact DI) only [↓PR,QR,simprocAttr]
 refine ⟨?_,ee⟩
 have XA:(fs.take i).length=i:=by rw [List.length_take];omega
 refine ⟨_,c,by rw [XA],by rw [XA];omega,hcm,λ _=>⟨b,o,rfl,λ k y hy=>?_⟩⟩
 rw [List.getElem?_take] at hy
 split at hy
 · obtain ⟨b',o',cs,hA,hl,hA2,hE⟩:=YV k y hy
   injection hA with hA
   injection hA with h5 h6
   subst h5 h6
   have e:Ext w0 (drew w0):=(Ext.refl w0).drew
   exact ⟨cs,hl,hA2.ext e,zQ _ _ _ _ e hE⟩
 · cases hy
theorem y7 (h:Chk w0 cb md ms Zs ZE at_ fld fs) (s:BAr):Calls Pg 228 #[.pointer (some ⟨cb,0,none⟩),.string s] w0 (X2 w0 at_ fld (Yo (Yr Zs s).isSome 8)):=by
 have h':=h
 obtain ⟨⟨dn,mv,ds,mn,fv,h1,h2⟩,h3,h4,h5,h6⟩:=h
 refine ZhE ?_;unfold n75
 simp (disch:=try exact DI) only [↓PR,QR,simprocAttr,Sw.joinK_eq,(Za h1).1]
 rw [Vs underlying198 underlying9 ty3 h3]
 simp (disch:=try exact DI) only [↓PR,QR,simprocAttr]
 refine ZP (Yy h' _ 8 (by decide)) (λ w' e h0=>?_) (λ w' e h0=>?_)
 · exact Y9 e h0
 · exact Ya e rfl h0
def Yu (high:Int):Int→List Int→Int
 | _,[]=>0
 | low,n::l=>orC (Yo (decide (low≤n)&&decide (n≤high)) 7) (Yu high n l)
def W9 (w:Wd) (v:Vl) (l:List Int):Prop:=Zd w 1 Zba v l
theorem BC {w:Wd} {p:Nat} (hp:p=w.heap.size) (a:Int) (T:TypeId):W9 (w.alloc (.cells #[.int .i64 a] T)) (.slice (some ⟨p,0,none⟩) 1 1) [a]:=by
 subst hp;exact Zd.new1 (E:=Zba) (λ n:Int => .int .i64 n) (λ _ _=>rfl) w [a] T (by simp)
theorem ND {w:Wd} {p:Nat} (hp:p=w.heap.size) (a b:Int) (T:TypeId):W9 (w.alloc (.cells #[.int .i64 a,.int .i64 b] T)) (.slice (some ⟨p,0,none⟩) 2 2) [a,b]:=by
 subst hp;exact Zd.new1 (E:=Zba) (λ n:Int => .int .i64 n) (λ _ _=>rfl) w [a,b] T (by simp)
theorem X8 (h:Chk w0 cb md ms Zs ZE at_ fld fs) (low high:Int) (v:Vl) (l:List Int) (hs:W9 w0 v l):Calls Pg 215 #[.pointer (some ⟨cb,0,none⟩),.int .i64 low,.int .i64 high,v] w0 (X2 w0 at_ fld (Yu high low l)):=by
 obtain ⟨A,c,rfl,hlc,hcm,hlm,YV⟩:=Zd.open hs
 refine ZhG ?_;unfold n77
 simp (disch:=try exact DI) only [↓PR,QR,simprocAttr]
 refine Q0 (λ a0 a1 w=>∃ (k:Nat) (n:Int),a0 = .int .i64 n∧a1 = .int .i64 (k:Int)∧k≤l.length∧Ext w0 w∧Yu high n (l.drop k)=Yu high low l) (λ a0 a1 _=>l.length - (intOf a1).toNat) ⟨0,low,rfl,rfl,Nat.zero_le _,ee,rfl⟩ ?_
 rintro _ _ w ⟨k,n,rfl,rfl,hk,e,hI⟩
 have se:=e.size
 rcases ZY hk with ⟨x,hx,hd,Yq,Z5⟩ | ⟨hk,hd,Z5⟩
 · obtain ⟨b,o,cs,rfl,hl,hA,rfl⟩:=YV k x hx
   rw [hd] at hI
   simp only [Yu] at hI
   simp (disch:=try exact DI) only [↓PR,QR,simprocAttr,↓IW,↓IX,Z5,hA.c1]
   refine ZP (Yy (h.ext e) _ 7 (by decide)) (λ w' e1 h0=>?_) (λ w' e1 h0=>?_)
   · rw [h0,YZ] at hI
     simp (disch:=try exact DI) only [↓PR,QR,simprocAttr,↓IW,↓IX]
     exact ⟨⟨k+1,_,rfl,rfl,by omega,ee,hI⟩,Yf (kd := .i64) Yq⟩
   · rw [Qh h0] at hI
     exact Ya (e.trans e1) hI.symm h0
 · subst hk
   simp (disch:=try exact DI) only [↓PR,QR,simprocAttr,↓IW,↓IX,Z5]
   rw [hd] at hI
   exact Y9 e hI.symm
def Uj (f:Zt):Bool:=decide (1≤f.bits)&&decide (f.bits≤32)&&(!f.little||(decide (8 < f.bits)&&(f.bits.tmod 8 == 0)))
theorem DQ (h:Chk w0 cb md ms Zs ZE at_ fld fs) (v:Vl) (f:Zt) (hf:ZZ w0 v f):Calls Pg 214 #[.pointer (some ⟨cb,0,none⟩),v] w0 (X2 w0 at_ fld (Yo (Uj f) 6)):=by
 obtain ⟨tv,cv,rfl,hT,hC,ht1,hc1⟩:=hf.op
 refine Zhy ?_;unfold n69
 simp (disch:=try exact DI) only [↓PR,QR,simprocAttr,↓Pb,↓Pc,↓Pd,↓Pe]
 have e0:Ext w0 (w0.alloc (Obj.cells (Zv f tv cv).toArray 123)):=ee
 have fin:∀ b,b=Uj f→Zg Pg 135 #[.pointer (some ⟨cb,0,none⟩),.bool b,.int .i64 6] (Zb (X2 w0 at_ fld (Yo (Uj f) 6))) (w0.alloc (Obj.cells (Zv f tv cv).toArray 123)) (λ _ w=>X2 w0 at_ fld (Yo (Uj f) 6) (.returned (.tuple #[])) w):=by
  rintro b rfl
  exact ZP (Yy (h.ext e0) _ 6 (by decide)) (λ w' e1 h0=>Y9 (e0.trans e1) h0) (λ w' e1 h0=>Ya (e0.trans e1) rfl h0)
 unfold Uj at fin ⊢
 generalize decide (1≤f.bits)=b1 at fin ⊢
 generalize decide (f.bits≤32)=b2 at fin ⊢
 generalize f.little=b3 at fin ⊢
 generalize decide (8 < f.bits)=b4 at fin ⊢
 generalize (f.bits.tmod 8 == 0)=b5 at fin ⊢
 cases b1<;>cases b2<;>cases b3<;>cases b4<;>cases b5<;>simp (disch:=try exact DI) only [↓PR,QR,simprocAttr,↓Pb,↓Pc,↓Pd,↓Pe]<;>exact fin _ rfl
def Vm (rp:List (BAr×Int×Int)):List YU→Int
 | []=>0
 | t::ts=>orC (Yo (QZ rp t.field).isSome 8) (Vm rp ts)
def ZcE (base:Int) (ts:List YU) (rp:List (BAr×Int×Int)):Bool:=(Wo base ts rp == 0)&&decide (0≤JD base ts rp)&&decide (JC base ts rp≤1048576)
def V9 (rp:List (BAr×Int×Int)) (f:Zt):Int:=orC (Yo (Js f.base f.terms) 9) (orC (Vm rp f.terms) (Yo (ZcE f.base f.terms rp) 9))
theorem xg (h:Chk w0 cb md ms Zs ZE at_ fld fs) (i:Nat) (hi:fld=i) (Yq:i < fs.length) (v:Vl) (f:Zt) (hf:ZZ w0 v f) :
 Calls Pg 221 #[.pointer (some ⟨cb,0,none⟩),v] w0 (X2 w0 at_ fld (V9 (XI (fs.take i)) f)):=by
 obtain ⟨tv,cv,rfl,hT,hC,ht1,hc1⟩:=hf.op
 refine ZhF ?_;unfold n76
 simp (disch:=try exact DI) only [↓PR,QR,simprocAttr,↓KS,↓KT,↓KU,↓U1,↓U2,↓KX,↓KY,↓KZ]
 generalize hW:World.alloc (World.alloc w0 _) _=W
 have e0:Ext w0 W:=by rw [← hW];exact ee
 have o2:W.heap[w0.heap.size]?=some (.cells #[.pointer (some ⟨cb,0,none⟩)] 167 (0,0)):=by rw [← hW];simp (disch:=try exact DI) only [↓PR,QR,simprocAttr]
 have o3:W.heap[w0.heap.size+1]?=some (.cells (Zv f tv cv).toArray 123 (0,0)):=by rw [← hW];simp (disch:=try exact DI) only [↓PR,QR,simprocAttr]
 clear hW
 simp only [World.size_alloc]
 refine ZG ?_
 simp (disch:=try exact DI) only [↓PR,QR,simprocAttr,↓KS,↓KT,↓KU,↓U1,↓U2,↓KX,↓KY,↓KZ,(Za o2).1,(Za o3).1]
 refine zcr (zG _ _ f.base f.terms ⟨tv,rfl,ZW.ext hT ee⟩) λ w1 e1=>?_
 refine ⟨e1,?_⟩
 unfold V9
 refine ZP (Yy (h.ext (e0.wdrew.trans e1)) _ 9 (by decide)) (λ w2 e2 h0=>?_) (λ w2 e2 h0=>?_)
 · rw [h0,YZ]
   refine ⟨e1.trans e2,?_⟩
   have e3:Ext W w2:=(Ext.refl W).wdrew.trans (e1.trans e2)
   have hv:Js f.base f.terms=true:=by
    cases hb:Js f.base f.terms with
    | true=>rfl
    | false=>rw [hb] at h0;exact absurd h0 (by decide)
   have ht:f.terms.length≤1048576:=by
    have hs:=hv
    unfold Js at hs
    simp only [Bool.and_eq_true,decide_eq_true_eq] at hs
    omega
   simp (disch:=try exact DI) only [↓PR,QR,simprocAttr,↓KS,↓KT,↓KU,↓U1,↓U2,↓KX,↓KY,↓KZ,(Za (e3.obj o2)).1]
   refine Zl (Wl (h.ext (e0.trans e3)) i hi Yq) ?_
   rintro bv w4 ⟨hB,e4⟩
   simp (disch:=try exact DI) only [↓PR,QR,simprocAttr,↓KS,↓KT,↓KU,↓U1,↓U2,↓KX,↓KY,↓KZ]
   refine Zl (UT _ _ _ hB) ?_
   rintro _ w5 ⟨m,rfl,hmlo,hM,e5⟩
   rw [VQ] at hM
   have e6:Ext W w5:=e3.trans (e4.trans e5)
   have l3:w0.heap.size+1 < w5.heap.size:=(Array.getElem?_eq_some_iff.1 (e6.obj o3)).1
   simp (disch:=try exact DI) only [↓PR,QR,simprocAttr,↓KS,↓KT,↓KU,↓U1,↓U2,↓KX,↓KY,↓KZ,(Za (e6.obj o3)).1]
   have e6':Ext w0 w5:=e0.trans e6
   refine Zl (Bm _ _ f.base f.terms ⟨tv,rfl,ZW.ext hT ee⟩ ht) ?_
   rintro _ w7 ⟨pb,tv2,rfl,hTA,_,e7⟩
   rw [hv,if_pos rfl] at hTA
   have s7:=e7.size
   simp only [World.size_alloc] at s7
   have e8:Ext W w7:=ee
   have p4:w7.heap[w5.heap.size]?=some (.cells #[.map (some m)] 296 (0,0)):=by simp (disch:=try exact DI) only [↓PR,QR,simprocAttr,e7.heapQ]
   have hM7:YQ w7 m (RP (XI (fs.take i))):=hM.ext (((Ext.refl _).alloc _).trans e7)
   have h7:Chk w7 cb md ms Zs ZE at_ fld fs:=h.ext (e0.trans e8)
   have o2':=e8.obj o2
   have o3':=e8.obj o3
   have e07:Ext w0 w7:=e0.trans e8
   clear e7 e6 e5 e4 e3 e2 e1 hM hB hmlo s7 l3 o2 o3 e8 e6'
   unfold U2
   have hLI:∀ k,ZM w7.heap.size (λ w=>Ext w7 w∧Vm (XI (fs.take i)) (f.terms.drop k)=Vm (XI (fs.take i)) f.terms):=λ k=>ZM.and (ZM.from (Nat.le_refl _)) (ZM.const _ _)
   refine ⟨_,_,f.terms.length,UN f.terms,λ w=>Qi w pb tv2 f.terms,λ k w=>Ext w7 w∧Vm (XI (fs.take i)) (f.terms.drop k)=Vm (XI (fs.take i)) f.terms,λ _ _=>False,
    λ ch w=>Ext w7 w∧∃ c,c≠0∧ch=[Xq at_ fld c]∧Vm (XI (fs.take i)) f.terms=c,rfl,Zcr,Bn pb tv2 f.terms,⟨Ext.refl _,rfl⟩,λ k w h=>hTA.ext h.1,hLI,λ _=>ZM.const _ _,?_,?_,?_,?_⟩
   · intro rec j w3 hj hI3 hrec hready
     refine ⟨hready,λ w4 hbz=>?_⟩
     have hrec4:=hrec.busied hbz
     obtain ⟨e4,hF⟩:=(hLI j).busied hbz (Nat.le_succ _) hI3
     clear hI3 hrec hready hbz
     obtain ⟨t,hx⟩:=getElem?_lt hj
     rw [show UN f.terms j = .string t.field by unfold UN;rw [hx]]
     have hd:f.terms.drop j=t::f.terms.drop (j+1):=by
      rw [List.drop_eq_getElem_cons hj]
      congr 1
      exact (List.getElem?_eq_some_iff.1 hx).2
     rw [hd] at hF
     simp only [Vm] at hF
     have o2:=e4.obj o2'
     have l2:w0.heap.size < w4.heap.size:=(Array.getElem?_eq_some_iff.1 o2).1
     simp (disch:=try exact DI) only [↓PR,QR,simprocAttr,↓KS,↓KT,↓KU,↓U1,↓U2,↓KX,↓KY,↓KZ,(Za (e4.obj p4)).1]
     rw [Vs underlying296 underlying9 VZ (hM7.ext e4),W8]
     have fin:∀ w5 b,Ext w4 w5→b=(QZ (XI (fs.take i)) t.field).isSome→Zg Pg 135 #[.pointer (some ⟨cb,0,none⟩),.bool b,.int .i64 8] (λ ch w''=>Y0 rec w7.heap.size w''∧Ext w7 w''∧∃ c,c≠0∧ch=[Xq at_ fld c]∧Vm (XI (fs.take i)) f.terms=c) w5 (λ _ w''=>Y0 rec w7.heap.size w''∧Ext w7 w''∧Vm (XI (fs.take i)) (f.terms.drop (j+1))=Vm (XI (fs.take i)) f.terms):=by
      rintro w5 b e5 rfl
      refine ZP (Yy (h7.ext (e4.trans e5)) _ 8 (by decide)) (λ w6 e6 h0=>?_) (λ w6 e6 h0=>?_)
      · rw [h0,YZ] at hF
        exact ⟨hrec4.ext (e5.trans e6),e4.trans (e5.trans e6),hF⟩
      · rw [Qh h0] at hF
        exact ⟨hrec4.ext (e5.trans e6),e4.trans (e5.trans e6),_,h0,rfl,hF.symm⟩
     cases hl:QZ (XI (fs.take i)) t.field with
     | none=>
      rw [hl] at fin
      simp (disch:=try exact DI) only [↓PR,QR,simprocAttr,↓KS,↓KT,↓KU,↓U1,↓U2,↓KX,↓KY,↓KZ,(Za o2).1,Option.map_none]
      exact fin _ _ ee rfl
     | some q=>
      obtain ⟨lo,hi⟩:=q
      rw [hl] at fin
      simp (disch:=try exact DI) only [↓PR,QR,simprocAttr,↓KS,↓KT,↓KU,↓U1,↓U2,↓KX,↓KY,↓KZ,(Za o2).1,Ys]
      exact fin _ _ ee rfl
   · rintro w3 ⟨e3,hF⟩ hmk
     rw [List.drop_length] at hF
     have l7:w7.heap.size < w3.heap.size:=(Array.getElem?_eq_some_iff.1 hmk).1
     rw [← hF]
     show U1 _ _ _ _ (X2 w0 at_ fld (orC 0 _)) w3
     rw [YZ]
     simp (disch:=try exact DI) only [↓PR,QR,simprocAttr,↓KS,↓KT,↓KU,↓U1,↓U2,↓KX,↓KY,↓KZ,(Za (e3.obj o3')).1,(Za (e3.obj p4)).1]
     refine zcr (Ci _ _ f.base f.terms m _ ⟨tv,rfl,ZW.ext hT (e07.trans e3)⟩ ht (hM7.ext e3)) λ w4 e4=>?_
     have s4:=e4.size
     have o2:=(e3.trans e4).obj o2'
     have l2:w0.heap.size < w4.heap.size:=(Array.getElem?_eq_some_iff.1 o2).1
     simp (disch:=try exact DI) only [↓PR,QR,simprocAttr,↓KS,↓KT,↓KU,↓U1,↓U2,↓KX,↓KY,↓KZ,(Za o2).1,Ys]
     have e5:Ext w3 (w4.alloc (Obj.cells #[.int .i64 (JD f.base f.terms (XI (fs.take i))),.int .i64 (JC f.base f.terms (XI (fs.take i)))] 300)):=e4.alloc _
     have s07:=e07.size
     refine ZP (Yy (h7.ext (e3.trans e5)) (ZcE f.base f.terms (XI (fs.take i))) 9 (by decide)) (λ w6 e6 h0=>?_) (λ w6 e6 h0=>?_)
     · refine Q3 (hmk.ext (e5.trans e6)) ?_
       rw [Wf]
       exact Y9 (((e07.trans e3).trans (e5.trans e6)).putObj (by omega) _) h0
     · refine yW (hmk.ext (e5.trans e6)) ?_
       rw [Vw]
       exact Ya (((e07.trans e3).trans (e5.trans e6)).putObj (by omega) _) rfl h0
   · rintro c w3 h
     exact h.elim
   · rintro ch w3 ⟨e3,c,hc,rfl,hF⟩ hmk
     have l7:w7.heap.size < w3.heap.size:=(Array.getElem?_eq_some_iff.1 hmk).1
     rw [hF,Qh hc]
     refine yW hmk ?_
     rw [Vw]
     exact Ya (by have:=e07.size;exact ee) rfl hc
 · rw [Qh h0]
   exact Ya (e0.wdrew.trans (e1.trans e2)) rfl h0
end
theorem UC (w0:Wd) (v:Vl) (l:List Zt) (g:FuncId) (caps:AVl) (p:Zt→Bool) (hs:YC w0 v l) (hg:Callable Pg g) (hc:Uh w0 ZZ g caps p l) :
 Ret Pg 250 #[v,.func (.func g) #[] caps] w0 λ r w'=>r = .bool (l.any p)∧Ext w0 w':=by
 refine ZdB (R:=ZJ _) ?_;unfold ZdA
 refine Zl (WV _ _ l g caps p hs hg hc) ?_
 rintro r w' ⟨rfl,e⟩
 simp (disch:=try exact DI) only [↓PR,QR,simprocAttr,Sw.joinK_eq]
 exact ⟨by rw [W4],e⟩
def Dw (tag:BAr) (o:Zt):Bool:=o.kind == 9&&decide (o.tag=tag)
theorem DR (w0:Wd) (v:Vl) (o f:Zt) (pb:Nat) (tv cv:Vl) (hv:ZZ w0 v o) (hp:w0.heap[pb]?=some (.cells (Zv f tv cv).toArray 123 (0,0))) :
 Ret Pg 251 #[v,.pointer (some ⟨pb,0,none⟩)] w0 λ r w'=>r = .bool (Dw f.tag o)∧Ext w0 w':=by
 obtain ⟨tv',cv',rfl,hT,hC,ht1,hc1⟩:=hv.op
 have Yq:=(Array.getElem?_eq_some_iff.1 hp).1
 refine ZhA (R:=ZJ _) ?_;unfold n71
 simp (disch:=try exact DI) only [↓PR,QR,simprocAttr,Sw.joinK_eq,(Za hp).1]
 exact ⟨by first | trivial | rfl,ee⟩
def zL (hi:Int) (Zs:List (BAr×Vl)):Int→List xj→Int
 | _,[]=>0
 | low,x::xs=>orC (Yu hi low [x.low,x.high]) (orC (Yo (Yr Zs x.of).isSome 8) (zL hi Zs (IntKind.i64.wrap (x.high+1)) xs))
def V0 (bef:List Zt) (Zs:List (BAr×Vl)) (f:Zt):Int:=
 orC (Yo ((QZ (XI bef) f.tag).isSome&&!bef.any (Dw f.tag)) 8) (orC (Yo (decide (1≤(f.cases.length:Int))&&decide ((f.cases.length:Int)≤40)) 3) (zL (((QZ (XI bef) f.tag).getD (0,0)).2) Zs (((QZ (XI bef) f.tag).getD (0,0)).1) f.cases))
section
variable {w0:Wd} {cb md ms:Nat} {Zs ZE:List (BAr×Vl)} {at_ fld:Int} {fs:List Zt}
theorem FN {a0:Wd} (e00:Ext a0 w0) (h:Chk w0 cb md ms Zs ZE at_ fld fs) (pf p4:Nat) (f:Zt) (tv cv:Vl) (lo hi:Int) (hC:Yh w0 cv f.cases) (o3:w0.heap[pf]?=some (.cells (Zv f tv cv).toArray 123 (0,0))) (o4:w0.heap[p4]?=some (.cells #[.int .i64 lo,.int .i64 hi] 300 (0,0))) :
 j0 (.pointer (some ⟨cb,0,none⟩)) (.pointer (some ⟨pf,0,none⟩)) (.pointer (some ⟨p4,0,none⟩)) (X2 a0 at_ fld (zL hi Zs lo f.cases)) w0:=by
 obtain ⟨A,c,rfl,hlc,hcm,hlm,YV⟩:=Zd.open hC
 simp (disch:=try exact DI) only [↓PR,QR,simprocAttr,↓BR,↓BS,↓BT,↓j0,↓j4,↓j5,↓KQ,↓j6,↓zg,↓GA,↓yO,↓GB,↓GC,(Za o3).1,(Za o4).1]
 refine Q0 (λ a0 a1 w=>∃ (k:Nat) (n:Int),a0 = .int .i64 n∧a1 = .int .i64 (k:Int)∧k≤f.cases.length∧Ext w0 w∧zL hi Zs n (f.cases.drop k)=zL hi Zs lo f.cases) (λ a0 a1 _=>f.cases.length - (intOf a1).toNat) ⟨0,lo,rfl,rfl,Nat.zero_le _,ee,rfl⟩ ?_
 rintro _ _ w ⟨k,n,rfl,rfl,hk,e,hI⟩
 have se:=e.size
 rcases ZY hk with ⟨x,hx,hd,Yq,Z5⟩ | ⟨hk,hd,Z5⟩
 · obtain ⟨b,o,cs,rfl,hl,hA,rfl⟩:=YV k x hx
   have l4:p4 < w.heap.size:=(Array.getElem?_eq_some_iff.1 (e.obj o4)).1
   rw [hd] at hI
   simp only [zL] at hI
   simp (disch:=try exact DI) only [↓PR,QR,simprocAttr,↓BR,↓BS,↓BT,↓j0,↓j4,↓j5,↓KQ,↓j6,↓zg,↓GA,↓yO,↓GB,↓GC,Z5,hA.c3,(Za (e.obj o4)).1]
   generalize hW:World.alloc (World.alloc w _) _=W
   have eW:Ext w W:=by rw [← hW];exact ee
   have o9:W.heap[w.heap.size]?=some (.cells #[.int .i64 x.low,.int .i64 x.high,.string x.of] 213 (0,0)):=by rw [← hW];simp (disch:=try exact DI) only [↓PR,QR,simprocAttr]
   have hIn:W9 W (.slice (some ⟨w.heap.size+1,0,none⟩) 2 2) [x.low,x.high]:=by rw [← hW];exact ND (by simp only [World.size_alloc]) _ _ _
   clear hW
   refine ZP (X8 (h.ext (e.trans eW)) n hi _ _ hIn) (λ w1 e1 h0=>?_) (λ w1 e1 h0=>?_)
   · rw [h0,YZ] at hI
     have er1:=eW.trans e1
     simp (disch:=try exact DI) only [↓PR,QR,simprocAttr,↓BR,↓BS,↓BT,↓j0,↓j4,↓j5,↓KQ,↓j6,↓zg,↓GA,↓yO,↓GB,↓GC,(Za (e1.obj o9)).1]
     refine ZP (y7 (h.ext (e.trans er1)) x.of) (λ w2 e2 h0=>?_) (λ w2 e2 h0=>?_)
     · rw [h0,YZ] at hI
       simp (disch:=try exact DI) only [↓PR,QR,simprocAttr,↓BR,↓BS,↓BT,↓j0,↓j4,↓j5,↓KQ,↓j6,↓zg,↓GA,↓yO,↓GB,↓GC,(Za ((e1.trans e2).obj o9)).1]
       exact ⟨⟨k+1,_,rfl,rfl,by omega,ee,hI⟩,Yf (kd := .i64) Yq⟩
     · rw [Qh h0] at hI
       exact Ya (e00.trans (e.trans (er1.trans e2))) hI.symm h0
   · rw [Qh h0] at hI
     exact Ya (e00.trans (e.trans (eW.trans e1))) hI.symm h0
 · subst hk
   simp (disch:=try exact DI) only [↓PR,QR,simprocAttr,↓BR,↓BS,↓BT,↓j0,↓j4,↓j5,↓KQ,↓j6,↓zg,↓GA,↓yO,↓GB,↓GC,Z5]
   rw [hd] at hI
   exact Y9 (e00.trans e) hI.symm
theorem Lw {a0:Wd} (e00:Ext a0 w0) (h:Chk w0 cb md ms Zs ZE at_ fld fs) (i:Nat) (hi:fld=i) (Yq:i < fs.length) (pf p4:Nat) (f:Zt) (tv cv:Vl) (lo hi':Int) (b:Bool) (hC:Yh w0 cv f.cases) (o3:w0.heap[pf]?=some (.cells (Zv f tv cv).toArray 123 (0,0))) (o4:w0.heap[p4]?=some (.cells #[.int .i64 lo,.int .i64 hi'] 300 (0,0)))
 (hb:b=(QZ (XI (fs.take i)) f.tag).isSome) (hlo:b=true→lo=((QZ (XI (fs.take i)) f.tag).getD (0,0)).1∧hi'=((QZ (XI (fs.take i)) f.tag).getD (0,0)).2) :
 KQ (.pointer (some ⟨cb,0,none⟩)) (.pointer (some ⟨pf,0,none⟩)) (.pointer (some ⟨p4,0,none⟩)) (.bool b) (X2 a0 at_ fld (V0 (fs.take i) Zs f)) w0:=by
 unfold KQ
 refine Zl (Wl h i hi Yq) ?_
 rintro bv w1 ⟨hB,e1⟩
 simp (disch:=try exact DI) only [↓PR,QR,simprocAttr]
 refine Zl (UC _ _ _ _ _ (Dw f.tag) hB Zgq ?_) ?_
 · intro w v o _ e hv
   exact DR w v o f pf tv cv hv ((e1.trans e).obj o3)
 rintro _ w2 ⟨rfl,e2⟩
 have e12:=e1.trans e2
 simp (disch:=try exact DI) only [↓PR,QR,simprocAttr,↓j5]
 unfold V0
 refine ZP (Yy (h.ext e12) _ 8 (by decide)) (λ w3 e3 h0=>?_) (λ w3 e3 h0=>?_)
 · rw [← hb,h0,YZ]
   have hbt:b=true:=by
    cases b with
    | true=>rfl
    | false=>exact absurd h0 (by simp [Yo])
   obtain ⟨h1,h2⟩:=hlo hbt
   rw [← h1,← h2]
   have e13:=e12.trans e3
   obtain ⟨A,c,rfl,_⟩:=Zd.open hC
   simp (disch:=try exact DI) only [↓PR,QR,simprocAttr,↓j4,(Za (e13.obj o3)).1]
   refine ZP (Yy (h.ext e13) _ 3 (by decide)) (λ w4 e4 h0=>?_) (λ w4 e4 h0=>?_)
   · rw [h0,YZ]
     have e14:=e13.trans e4
     exact FN (e00.trans e14) (h.ext e14) pf p4 f tv _ lo hi' (Yh.ext hC e14) (e14.obj o3) (e14.obj o4)
   · rw [Qh h0]
     exact Ya (e00.trans (e13.trans e4)) rfl h0
 · rw [← hb,Qh h0]
   exact Ya (e00.trans (e12.trans e3)) rfl h0
theorem Lv (h:Chk w0 cb md ms Zs ZE at_ fld fs) (i:Nat) (hi:fld=i) (Yq:i < fs.length) (v:Vl) (f:Zt) (hf:ZZ w0 v f):Calls Pg 232 #[.pointer (some ⟨cb,0,none⟩),v] w0 (X2 w0 at_ fld (V0 (fs.take i) Zs f)):=by
 obtain ⟨tv,cv,rfl,hT,hC,ht1,hc1⟩:=hf.op
 refine Zhz ?_;unfold n70
 simp (disch:=try exact DI) only [↓PR,QR,simprocAttr]
 generalize hW:World.alloc w0 _=W
 have e0:Ext w0 W:=by rw [← hW];exact ee
 have o3:W.heap[w0.heap.size]?=some (.cells (Zv f tv cv).toArray 123 (0,0)):=by rw [← hW];simp (disch:=try exact DI) only [↓PR,QR,simprocAttr]
 clear hW
 refine ZG ?_
 simp (disch:=try exact DI) only [↓PR,QR,simprocAttr,↓GC,(Za o3).1]
 have key:∀ w' p4 b lo hi',Ext W w'→w'.heap[p4]?=some (.cells #[.int .i64 lo,.int .i64 hi'] 300 (0,0))→b=(QZ (XI (fs.take i)) f.tag).isSome→(b=true→lo=((QZ (XI (fs.take i)) f.tag).getD (0,0)).1∧hi'=((QZ (XI (fs.take i)) f.tag).getD (0,0)).2) →
  KQ (.pointer (some ⟨cb,0,none⟩)) (.pointer (some ⟨w0.heap.size,0,none⟩)) (.pointer (some ⟨p4,0,none⟩)) (.bool b) (X2 w0 at_ fld (V0 (fs.take i) Zs f)) w':=by
  intro w' p4 b lo hi' e o4 hb hlo
  exact Lw (e0.trans e) (h.ext (e0.trans e)) i hi Yq _ p4 f tv cv lo hi' b (Yh.ext hC (e0.trans e)) (e.obj o3) o4 hb hlo
 have eD:Ext W W.drew:=(Ext.refl W).wdrew
 have fin9:∀ (w2:Wd) (m p4:Nat) (u0 u1:Vl),Ext W.drew w2→YQ w2 m (RP (XI (fs.take i)))→w2.heap[p4]?=some (.cells #[u0,u1] 300 (0,0))→W.heap.size≤p4 →
  zg (.pointer (some ⟨p4,0,none⟩)) (.map (some m)) (.string f.tag) (KL W.drew m (RP (XI (fs.take i)))) (λ t4 t5 w=>KQ (.pointer (some ⟨cb,0,none⟩)) (.pointer (some ⟨w0.heap.size,0,none⟩)) t4 t5 (X2 w0 at_ fld (V0 (fs.take i) Zs f)) w) (X2 w0 at_ fld (V0 (fs.take i) Zs f)) w2:=by
  intro w2 m p4 u0 u1 e2 hM o4 hp4
  haveI:Yn (KL W.drew m (RP (XI (fs.take i)))):=⟨⟨w2,e2,hM⟩⟩
  unfold zg
  rw [Jg underlying296 underlying9 VZ ⟨w2,e2,hM⟩,W8]
  have hfin:∀ lo hi' b,b=(QZ (XI (fs.take i)) f.tag).isSome→(b=true→lo=((QZ (XI (fs.take i)) f.tag).getD (0,0)).1∧hi'=((QZ (XI (fs.take i)) f.tag).getD (0,0)).2) →
   KL W.drew m (RP (XI (fs.take i))) ((w2.setCell ⟨p4,0,none⟩ (.int .i64 lo)).setCell ⟨p4,1,none⟩ (.int .i64 hi'))∧KQ (.pointer (some ⟨cb,0,none⟩)) (.pointer (some ⟨w0.heap.size,0,none⟩)) (.pointer (some ⟨p4,0,none⟩)) (.bool b) (X2 w0 at_ fld (V0 (fs.take i) Zs f)) ((w2.setCell ⟨p4,0,none⟩ (.int .i64 lo)).setCell ⟨p4,1,none⟩ (.int .i64 hi')):=by
   intro lo hi' b hb hlo
   have e3:Ext W.drew ((w2.setCell ⟨p4,0,none⟩ (.int .i64 lo)).setCell ⟨p4,1,none⟩ (.int .i64 hi')):=(e2.setCell (show W.drew.heap.size≤(⟨p4,0,none⟩:Addr).block from hp4) _).setCell (show W.drew.heap.size≤(⟨p4,1,none⟩:Addr).block from hp4) _
   refine ⟨⟨e3,(hM.setCell _ _).setCell _ _⟩,key _ p4 b lo hi' (eD.trans e3) ?_ hb hlo⟩
   have:=Zw (o:=1) (Zw (o:=0) o4 (.int .i64 lo)) (.int .i64 hi')
   simpa using this
  cases hl:QZ (XI (fs.take i)) f.tag with
  | none=>
   rw [hl] at hfin
   simp (disch:=try exact DI) only [↓PR,QR,simprocAttr,Option.map_none,(Za o4).1,(Za o4).2]
   exact hfin 0 0 false rfl (by simp)
  | some q=>
   obtain ⟨lo,hi'⟩:=q
   rw [hl] at hfin
   simp (disch:=try exact DI) only [↓PR,QR,simprocAttr,(Za o4).1,(Za o4).2,Ys]
   exact hfin lo hi' true rfl (λ _=>⟨rfl,rfl⟩)
 refine ⟨?_,?_⟩
 · refine Zl (Wl (h.ext (e0.trans eD)) i hi Yq) ?_
   rintro bv w1 ⟨hB,e1⟩
   refine zi e1 ?_
   unfold GA
   refine ⟨?_,?_⟩
   · refine Zl (UT _ _ _ hB) ?_
     rintro _ w2 ⟨m,rfl,_,hM,e2⟩
     rw [VQ] at hM
     refine GD (e1.trans e2) hM ?_
     unfold j6
     simp only [UH]
     haveI:Yn (KL W.drew m (RP (XI (fs.take i)))):=⟨⟨w2,e1.trans e2,hM⟩⟩
     rw [Jg underlying296 underlying9 VZ ⟨w2,e1.trans e2,hM⟩]
     have h9:=fin9 (w2.alloc (.cells #[.int .i64 0,.int .i64 0] 300)) m w2.heap.size _ _ ((e1.trans e2).alloc _) (hM.ext ((Ext.refl _).alloc _)) (Zz _ _ _) (by have:=(e1.trans e2).size;simpa using this)
     unfold zg at h9
     rw [Jg underlying296 underlying9 VZ ⟨w2,e1.trans e2,hM⟩] at h9
     simp (disch:=try exact DI) only [↓PR,QR,simprocAttr]
     refine ⟨⟨(e1.trans e2).alloc _,hM.ext ((Ext.refl _).alloc _)⟩,?_⟩
     simp only [↓Sw.GENQ] at h9
     exact h9
   · simp (disch:=try exact DI) only [↓PR,QR,simprocAttr]
     refine ⟨e1.alloc _,?_⟩
     refine Zl (UT _ _ _ (YC.ext hB ((Ext.refl _).alloc _))) ?_
     rintro _ w2 ⟨m,rfl,_,hM,e2⟩
     rw [VQ] at hM
     have s1:=e1.size
     simp only [World.size_drew] at s1
     refine GD ((e1.alloc _).trans e2) hM ?_
     exact fin9 w2 m w1.heap.size _ _ ((e1.alloc _).trans e2) hM (e2.obj (Zz _ _ _)) s1
 · refine ⟨(Ext.refl _).alloc _,?_⟩
   unfold GB
   refine Zl (Wl (h.ext ((e0.trans eD).alloc _)) i hi Yq) ?_
   rintro bv w1 ⟨hB,e1⟩
   refine zi (((Ext.refl _).alloc _).trans e1) ?_
   refine Zl (UT _ _ _ hB) ?_
   rintro _ w2 ⟨m,rfl,_,hM,e2⟩
   rw [VQ] at hM
   refine GD (((Ext.refl _).alloc _).trans (e1.trans e2)) hM ?_
   exact fin9 w2 m W.heap.size _ _ (((Ext.refl _).alloc _).trans (e1.trans e2)) hM ((e1.trans e2).obj (Zz W.drew _ _)) (Nat.le_refl _)
end
section
variable {w0:Wd} {cb md ms:Nat} {Zs ZE:List (BAr×Vl)} {at_ fld:Int} {fs:List Zt}
def Bg (f:Zt):Int:=2 ^ f.bits.toNat - 1
theorem Fx {f:Zt} (h:Uj f=true):0≤f.bits∧f.bits≤64∧IntKind.i64.wrap (IntKind.i64.wrap (1*2 ^ f.bits.toNat) - 1)=Bg f:=by
 unfold Uj at h
 simp only [Bool.and_eq_true,decide_eq_true_eq] at h
 obtain ⟨⟨h1,h2⟩,_⟩:=h
 have hc:(2:Int) ^ f.bits.toNat=((2 ^ f.bits.toNat:Nat):Int):=by simp
 have hp1:2 ^ f.bits.toNat≤2 ^ 32:=Nat.pow_le_pow_right (by decide) (by omega)
 have hp:(2:Int) ^ f.bits.toNat≤4294967296:=by rw [hc];omega
 have hp0:(0:Int) < 2 ^ f.bits.toNat:=Int.pow_pos (by decide)
 refine ⟨by omega,by omega,?_⟩
 unfold Bg
 rw [Int.one_mul,show IntKind.i64.wrap (2 ^ f.bits.toNat)=2 ^ f.bits.toNat from Xf (by omega) (by omega),Xf (by omega) (by omega)]
theorem X5 {b:Bool} {c:Int} (hc:c≠0) (h:Yo b c=0):b=true:=by
 cases b with
 | true=>rfl
 | false=>exact absurd h hc
theorem Ru (h:Chk w0 cb md ms Zs ZE at_ fld fs) (v:Vl) (f:Zt) (hf:ZZ w0 v f):Calls Pg 213 #[.pointer (some ⟨cb,0,none⟩),v] w0 (X2 w0 at_ fld (orC (Yo (Uj f) 6) (Yu (Bg f) 0 [f.low,f.high]))):=by
 obtain ⟨tv,cv,rfl,hT,hC,ht1,hc1⟩:=hf.op
 refine ZhY ?_;unfold n94
 simp (disch:=try exact DI) only [↓PR,QR,simprocAttr]
 generalize hW:World.alloc w0 _=W
 have e0:Ext w0 W:=by rw [← hW];exact ee
 have o3:W.heap[w0.heap.size]?=some (.cells (Zv f tv cv).toArray 123 (0,0)):=by rw [← hW];simp (disch:=try exact DI) only [↓PR,QR,simprocAttr]
 clear hW
 simp (disch:=try exact DI) only [↓PR,QR,simprocAttr,(Za o3).1]
 refine ZP (DQ (h.ext e0) _ f ⟨tv,cv,rfl,ZW.ext hT e0,Yh.ext hC e0⟩) (λ w1 e1 h0=>?_) (λ w1 e1 h0=>?_)
 · rw [h0,YZ]
   obtain ⟨ha,hb,hw⟩:=Fx (X5 (by decide) h0)
   have e01:=e0.trans e1
   have l1:w0.heap.size < w1.heap.size:=(Array.getElem?_eq_some_iff.1 (e1.obj o3)).1
   refine ZG ?_
   simp (disch:=try exact DI) only [↓PR,QR,simprocAttr,↓ZaY,(Za (e1.obj o3)).1,hw]
   generalize hW:World.alloc (World.drew w1) _=W2
   have eD:Ext w1.drew W2:=by rw [← hW];exact ee
   have hIn:W9 W2 (.slice (some ⟨w1.heap.size,0,none⟩) 2 2) [f.low,f.high]:=by rw [← hW];exact ND rfl _ _ _
   clear hW
   have eE:Ext w0 W2:=(e01.wdrew).trans eD
   refine ⟨eD,?_⟩
   refine ZP (X8 (h.ext eE) 0 (Bg f) _ _ hIn) (λ w2 e2 h0=>?_) (λ w2 e2 h0=>?_)
   · exact ⟨eD.trans e2,Y9 (eE.trans e2) h0⟩
   · exact Ya (eE.trans e2) rfl h0
 · rw [Qh h0]
   exact Ya (e0.trans e1) rfl h0
theorem LC (h:Chk w0 cb md ms Zs ZE at_ fld fs) (v:Vl) (f:Zt) (hf:ZZ w0 v f):Calls Pg 217 #[.pointer (some ⟨cb,0,none⟩),v] w0 (X2 w0 at_ fld (orC (Yo (Uj f) 6) (Yu (Bg f) 0 [f.low]))):=by
 obtain ⟨tv,cv,rfl,hT,hC,ht1,hc1⟩:=hf.op
 refine Zh3 ?_;unfold n99
 simp (disch:=try exact DI) only [↓PR,QR,simprocAttr]
 generalize hW:World.alloc w0 _=W
 have e0:Ext w0 W:=by rw [← hW];exact ee
 have o3:W.heap[w0.heap.size]?=some (.cells (Zv f tv cv).toArray 123 (0,0)):=by rw [← hW];simp (disch:=try exact DI) only [↓PR,QR,simprocAttr]
 clear hW
 simp (disch:=try exact DI) only [↓PR,QR,simprocAttr,(Za o3).1]
 refine ZP (DQ (h.ext e0) _ f ⟨tv,cv,rfl,ZW.ext hT e0,Yh.ext hC e0⟩) (λ w1 e1 h0=>?_) (λ w1 e1 h0=>?_)
 · rw [h0,YZ]
   obtain ⟨ha,hb,hw⟩:=Fx (X5 (by decide) h0)
   have e01:=e0.trans e1
   have l1:w0.heap.size < w1.heap.size:=(Array.getElem?_eq_some_iff.1 (e1.obj o3)).1
   refine ZG ?_
   simp (disch:=try exact DI) only [↓PR,QR,simprocAttr,↓Za0,(Za (e1.obj o3)).1,hw]
   generalize hW:World.alloc (World.drew w1) _=W2
   have eD:Ext w1.drew W2:=by rw [← hW];exact ee
   have hIn:W9 W2 (.slice (some ⟨w1.heap.size,0,none⟩) 1 1) [f.low]:=by rw [← hW];exact BC rfl _ _
   clear hW
   have eE:Ext w0 W2:=(e01.wdrew).trans eD
   refine ⟨eD,?_⟩
   refine ZP (X8 (h.ext eE) 0 (Bg f) _ _ hIn) (λ w2 e2 h0=>?_) (λ w2 e2 h0=>?_)
   · exact ⟨eD.trans e2,Y9 (eE.trans e2) h0⟩
   · exact Ya (eE.trans e2) rfl h0
 · rw [Qh h0]
   exact Ya (e0.trans e1) rfl h0
theorem Io (h:Chk w0 cb md ms Zs ZE at_ fld fs) (v:Vl) (f:Zt) (hf:ZZ w0 v f):Calls Pg 219 #[.pointer (some ⟨cb,0,none⟩),v] w0 (X2 w0 at_ fld (Yu 34359738367 0 [f.low,f.high])):=by
 obtain ⟨tv,cv,rfl,hT,hC,ht1,hc1⟩:=hf.op
 refine ZcJ ?_;unfold ZcI
 simp (disch:=try exact DI) only [↓PR,QR,simprocAttr]
 generalize hW:World.alloc (World.alloc w0 _) _=W
 have e0:Ext w0 W:=by rw [← hW];exact ee
 have o3:W.heap[w0.heap.size]?=some (.cells (Zv f tv cv).toArray 123 (0,0)):=by rw [← hW];simp (disch:=try exact DI) only [↓PR,QR,simprocAttr]
 have hIn:W9 W (.slice (some ⟨w0.heap.size+1,0,none⟩) 2 2) [f.low,f.high]:=by rw [← hW];exact ND (by simp only [World.size_alloc]) _ _ _
 clear hW
 refine ZP (X8 (h.ext e0) 0 34359738367 _ _ hIn) (λ w1 e1 h0=>?_) (λ w1 e1 h0=>?_)
 · exact Y9 (e0.trans e1) h0
 · exact Ya (e0.trans e1) rfl h0
theorem Ec (h:Chk w0 cb md ms Zs ZE at_ fld fs) (v:Vl) (f:Zt) (hf:ZZ w0 v f):Calls Pg 225 #[.pointer (some ⟨cb,0,none⟩),v] w0 (X2 w0 at_ fld (Yu 1048576 2 [f.high])):=by
 obtain ⟨tv,cv,rfl,hT,hC,ht1,hc1⟩:=hf.op
 refine ZhP ?_;unfold n85
 simp (disch:=try exact DI) only [↓PR,QR,simprocAttr]
 generalize hW:World.alloc (World.alloc w0 _) _=W
 have e0:Ext w0 W:=by rw [← hW];exact ee
 have o3:W.heap[w0.heap.size]?=some (.cells (Zv f tv cv).toArray 123 (0,0)):=by rw [← hW];simp (disch:=try exact DI) only [↓PR,QR,simprocAttr]
 have hIn:W9 W (.slice (some ⟨w0.heap.size+1,0,none⟩) 1 1) [f.high]:=by rw [← hW];exact BC (by simp only [World.size_alloc]) _ _
 clear hW
 refine ZP (X8 (h.ext e0) 2 1048576 _ _ hIn) (λ w1 e1 h0=>?_) (λ w1 e1 h0=>?_)
 · exact Y9 (e0.trans e1) h0
 · exact Ya (e0.trans e1) rfl h0
theorem ML (h:Chk w0 cb md ms Zs ZE at_ fld fs) (v:Vl) (f:Zt) (hf:ZZ w0 v f):Calls Pg 223 #[.pointer (some ⟨cb,0,none⟩),v] w0 (X2 w0 at_ fld (orC (Yu 255 0 [f.low]) (Yu 1048576 0 [f.high]))):=by
 obtain ⟨tv,cv,rfl,hT,hC,ht1,hc1⟩:=hf.op
 refine ZcP ?_;unfold ZcO
 simp (disch:=try exact DI) only [↓PR,QR,simprocAttr]
 generalize hW:World.alloc (World.alloc w0 _) _=W
 have e0:Ext w0 W:=by rw [← hW];exact ee
 have o3:W.heap[w0.heap.size]?=some (.cells (Zv f tv cv).toArray 123 (0,0)):=by rw [← hW];simp (disch:=try exact DI) only [↓PR,QR,simprocAttr]
 have hIn:W9 W (.slice (some ⟨w0.heap.size+1,0,none⟩) 1 1) [f.low]:=by rw [← hW];exact BC (by simp only [World.size_alloc]) _ _
 clear hW
 refine ZP (X8 (h.ext e0) 0 255 _ _ hIn) (λ w1 e1 h0=>?_) (λ w1 e1 h0=>?_)
 · rw [h0,YZ]
   have e01:=e0.trans e1
   simp (disch:=try exact DI) only [↓PR,QR,simprocAttr,↓NR,(Za (e1.obj o3)).1]
   refine ZP (X8 ((h.ext e01).ext ((Ext.refl _).alloc _)) 0 1048576 _ _ (BC rfl _ _)) (λ w2 e2 h0=>?_) (λ w2 e2 h0=>?_)
   · exact Y9 ((e01.alloc _).trans e2) h0
   · exact Ya ((e01.alloc _).trans e2) rfl h0
 · rw [Qh h0]
   exact Ya (e0.trans e1) rfl h0
theorem Es (h:Chk w0 cb md ms Zs ZE at_ fld fs) (v:Vl) (f:Zt) (hf:ZZ w0 v f):Calls Pg 230 #[.pointer (some ⟨cb,0,none⟩),v] w0 (X2 w0 at_ fld (Yo (Yr Zs f.of).isSome 8)):=by
 obtain ⟨tv,cv,rfl,hT,hC,ht1,hc1⟩:=hf.op
 refine ZhT ?_;unfold n89
 simp (disch:=try exact DI) only [↓PR,QR,simprocAttr]
 generalize hW:World.alloc w0 _=W
 have e0:Ext w0 W:=by rw [← hW];exact ee
 have o3:W.heap[w0.heap.size]?=some (.cells (Zv f tv cv).toArray 123 (0,0)):=by rw [← hW];simp (disch:=try exact DI) only [↓PR,QR,simprocAttr]
 clear hW
 simp (disch:=try exact DI) only [↓PR,QR,simprocAttr,(Za o3).1]
 refine ZP (y7 (h.ext e0) f.of) (λ w1 e1 h0=>?_) (λ w1 e1 h0=>?_)
 · exact Y9 (e0.trans e1) h0
 · exact Ya (e0.trans e1) rfl h0
theorem NL (h:Chk w0 cb md ms Zs ZE at_ fld fs) (i:Nat) (hi:fld=i) (Yq:i < fs.length) (v:Vl) (f:Zt) (hf:ZZ w0 v f):Calls Pg 227 #[.pointer (some ⟨cb,0,none⟩),v] w0 (X2 w0 at_ fld (orC (Yo (Yr Zs f.of).isSome 8) (V9 (XI (fs.take i)) f))):=by
 obtain ⟨tv,cv,rfl,hT,hC,ht1,hc1⟩:=hf.op
 refine ZhR ?_;unfold n87
 simp (disch:=try exact DI) only [↓PR,QR,simprocAttr]
 generalize hW:World.alloc w0 _=W
 have e0:Ext w0 W:=by rw [← hW];exact ee
 have o3:W.heap[w0.heap.size]?=some (.cells (Zv f tv cv).toArray 123 (0,0)):=by rw [← hW];simp (disch:=try exact DI) only [↓PR,QR,simprocAttr]
 clear hW
 simp (disch:=try exact DI) only [↓PR,QR,simprocAttr,(Za o3).1]
 refine ZP (y7 (h.ext e0) f.of) (λ w1 e1 h0=>?_) (λ w1 e1 h0=>?_)
 · rw [h0,YZ]
   have e01:=e0.trans e1
   simp (disch:=try exact DI) only [↓PR,QR,simprocAttr,(Za (e1.obj o3)).1]
   refine ZP (xg (h.ext e01) i hi Yq _ f ⟨tv,cv,rfl,ZW.ext hT e01,Yh.ext hC e01⟩) (λ w2 e2 h0=>?_) (λ w2 e2 h0=>?_)
   · exact Y9 (e01.trans e2) h0
   · exact Ya (e01.trans e2) rfl h0
 · rw [Qh h0]
   exact Ya (e0.trans e1) rfl h0
theorem Rw (h:Chk w0 cb md ms Zs ZE at_ fld fs) (i:Nat) (hi:fld=i) (Yq:i < fs.length) (v:Vl) (f:Zt) (hf:ZZ w0 v f):Calls Pg 238 #[.pointer (some ⟨cb,0,none⟩),v] w0 (X2 w0 at_ fld (orC (Yu 4294967295 0 [f.key]) (orC (Yo (Rl ZE f.of) 8) (V9 (XI (fs.take i)) f)))):=by
 obtain ⟨tv,cv,rfl,hT,hC,ht1,hc1⟩:=hf.op
 refine Zh1 ?_;unfold n97
 simp (disch:=try exact DI) only [↓PR,QR,simprocAttr]
 generalize hW:World.alloc (World.alloc w0 _) _=W
 have e0:Ext w0 W:=by rw [← hW];exact ee
 have o3:W.heap[w0.heap.size]?=some (.cells (Zv f tv cv).toArray 123 (0,0)):=by rw [← hW];simp (disch:=try exact DI) only [↓PR,QR,simprocAttr]
 have hIn:W9 W (.slice (some ⟨w0.heap.size+1,0,none⟩) 1 1) [f.key]:=by rw [← hW];exact BC (by simp only [World.size_alloc]) _ _
 clear hW
 refine ZP (X8 (h.ext e0) 0 4294967295 _ _ hIn) (λ w1 e1 h0=>?_) (λ w1 e1 h0=>?_)
 · rw [h0,YZ]
   have e01:=e0.trans e1
   have h1:=h.ext e01.wdrew
   obtain ⟨⟨dn,mv,ds,mn,fv,k1,k2⟩,k3,k4,k5,k6⟩:=id h1
   refine ZG ?_
   simp (disch:=try exact DI) only [↓PR,QR,simprocAttr,↓ZaZ,(Za (e1.obj o3)).1,(Za k1).1]
   have k1':=(Za k1).1
   simp only [World.cell?] at k1'
   rw [xX underlying199 underlying9 ty4 k4]
   rw [h1.strV f.of]
   refine ZP (Yy h1 _ 8 (by decide)) (λ w2 e2 h0=>?_) (λ w2 e2 h0=>?_)
   · rw [h0,YZ]
     refine ⟨e2,?_⟩
     have e02:=(e01.wdrew).trans e2
     have e12:Ext W w2:=(e1.wdrew).trans e2
     simp (disch:=try exact DI) only [↓PR,QR,simprocAttr,(Za (e12.obj o3)).1]
     refine ZP (xg (h.ext e02) i hi Yq _ f ⟨tv,cv,rfl,ZW.ext hT e02,Yh.ext hC e02⟩) (λ w3 e3 h0=>?_) (λ w3 e3 h0=>?_)
     · exact Y9 (e02.trans e3) h0
     · exact Ya (e02.trans e3) rfl h0
   · rw [Qh h0]
     exact Ya (e01.wdrew.trans e2) rfl h0
 · rw [Qh h0]
   exact Ya (e0.trans e1) rfl h0
theorem LB (h:Chk w0 cb md ms Zs ZE at_ fld fs) (i:Nat) (hi:fld=i) (Yq:i < fs.length) (v:Vl) (f:Zt) (hf:ZZ w0 v f):Calls Pg 236 #[.pointer (some ⟨cb,0,none⟩),v] w0 (X2 w0 at_ fld (orC (Yu 3 1 [f.check]) (Yo ((fs.take i).any λ o=>decide (o.name=f.fr)) 8))):=by
 obtain ⟨tv,cv,rfl,hT,hC,ht1,hc1⟩:=hf.op
 refine ZhZ ?_;unfold n95
 simp (disch:=try exact DI) only [↓PR,QR,simprocAttr]
 generalize hW:World.alloc (World.alloc w0 _) _=W
 have e0:Ext w0 W:=by rw [← hW];exact ee
 have o3:W.heap[w0.heap.size]?=some (.cells (Zv f tv cv).toArray 123 (0,0)):=by rw [← hW];simp (disch:=try exact DI) only [↓PR,QR,simprocAttr]
 have hIn:W9 W (.slice (some ⟨w0.heap.size+1,0,none⟩) 1 1) [f.check]:=by rw [← hW];exact BC (by simp only [World.size_alloc]) _ _
 clear hW
 refine ZP (X8 (h.ext e0) 1 3 _ _ hIn) (λ w1 e1 h0=>?_) (λ w1 e1 h0=>?_)
 · rw [h0,YZ]
   have e01:=e0.trans e1
   refine ZG ?_
   simp (disch:=try exact DI) only [↓PR,QR,simprocAttr,↓I0,↓I1,(Za (e1.obj o3)).1]
   refine Zl (Wl (h.ext e01.wdrew) i hi Yq) ?_
   rintro bv w2 ⟨hB,e2⟩
   refine ⟨e2,?_⟩
   have hb1:=Zd.oneCell hB
   simp (disch:=try exact DI) only [↓PR,QR,simprocAttr,↓I0,↓I1]
   refine zcr (zD w2 _ ⟨ByteArray.empty,fs.take i⟩ f.fr ⟨bv,rfl,hB⟩) λ w3 e3=>?_
   refine ⟨e2.trans e3,?_⟩
   simp (disch:=try exact DI) only [↓PR,QR,simprocAttr,↓I0,↓I1]
   have e03:=(e01.wdrew).trans (e2.trans e3)
   refine ZP (Yy (h.ext e03) _ 8 (by decide)) (λ w4 e4 h0=>?_) (λ w4 e4 h0=>?_)
   · exact Y9 (e03.trans e4) h0
   · exact Ya (e03.trans e4) rfl h0
 · rw [Qh h0]
   exact Ya (e0.trans e1) rfl h0
def HV (f:Zt):Bool:=(f.bits == 2)||(f.bits == 4)||(decide (8≤f.bits)&&decide (f.bits≤512)&&(f.bits.tmod 8 == 0))
theorem SE (h:Chk w0 cb md ms Zs ZE at_ fld fs) (v:Vl) (f:Zt) (hf:ZZ w0 v f):Calls Pg 234 #[.pointer (some ⟨cb,0,none⟩),v] w0 (X2 w0 at_ fld (Yo (HV f) 6)):=by
 obtain ⟨tv,cv,rfl,hT,hC,ht1,hc1⟩:=hf.op
 refine ZhW ?_;unfold n92
 simp (disch:=try exact DI) only [↓PR,QR,simprocAttr,↓Pp,↓Pq,↓Pr,↓Ps]
 have e0:Ext w0 (w0.alloc (Obj.cells (Zv f tv cv).toArray 123)):=ee
 have fin:∀ b,b=HV f→Zg Pg 135 #[.pointer (some ⟨cb,0,none⟩),.bool b,.int .i64 6] (Zb (X2 w0 at_ fld (Yo (HV f) 6))) (w0.alloc (Obj.cells (Zv f tv cv).toArray 123)) (λ _ w=>X2 w0 at_ fld (Yo (HV f) 6) (.returned (.tuple #[])) w):=by
  rintro b rfl
  exact ZP (Yy (h.ext e0) _ 6 (by decide)) (λ w' e1 h0=>Y9 (e0.trans e1) h0) (λ w' e1 h0=>Ya (e0.trans e1) rfl h0)
 unfold HV at fin ⊢
 generalize (f.bits == 2)=b1 at fin ⊢
 generalize (f.bits == 4)=b2 at fin ⊢
 generalize decide (8≤f.bits)=b3 at fin ⊢
 generalize decide (f.bits≤512)=b4 at fin ⊢
 cases b1<;>cases b2<;>cases b3<;>cases b4<;>simp (disch:=try exact DI) only [↓PR,QR,simprocAttr,↓Pp,↓Pq,↓Pr,↓Ps]<;>first | exact fin _ rfl | exact fin _ (by simp)
end
theorem R7 (x y:YU):(decide (x.field=y.field)&&decide (x.factor=y.factor))=decide (x=y):=by
 cases x;cases y
 rw [Bool.eq_iff_iff]
 simp
theorem qz (w0:Wd) (v u:Vl) (l m:List YU) (hl:ZW w0 v l) (hm:ZW w0 u m) :
 Ret Pg 240 #[v,u] w0 λ r w'=>r = .bool (decide (l=m))∧Ext w0 w':=by
 obtain ⟨A,c,rfl,hlc,hcm,hlm,YV⟩:=Zd.open hl
 obtain ⟨A',c',rfl,hlc',hcm',hlm',hel'⟩:=Zd.open hm
 refine ZdR (R:=ZJ _) ?_;unfold ZdQ
 simp (disch:=try exact DI) only [↓PR,QR,simprocAttr]
 by_cases XA:l.length=m.length
 · have YW:((l.length:Int) != (m.length:Int))=false:=by simp [XA]
   simp (disch:=try exact DI) only [↓PR,QR,simprocAttr,↓KD,↓KE,YW]
   refine ZQ (λ a0 w=>∃ (k:Nat) , a0 = .int .i64 (k:Int)∧k≤l.length∧Ext w0 w∧l.take k=m.take k) (λ a0 _=>l.length - (intOf a0).toNat) ⟨0,rfl,Nat.zero_le _,ee,rfl⟩ ?_
   rintro _ w ⟨k,rfl,hk,e,hI⟩
   have se:=e.size
   rcases ZY hk with ⟨x,hx,hd,Yq,Z5⟩ | ⟨hk,hd,Z5⟩
   · obtain ⟨b,o,cs,rfl,_,hA,rfl⟩:=YV k x hx
     obtain ⟨y,hy⟩:=getElem?_lt (l:=m) (k:=k) (by omega)
     obtain ⟨b',o',cs',rfl,_,hA',rfl⟩:=hel' k y hy
     have hlt':k < m.length:=by omega
     have eD:Ext w0 w.drew:=e.wdrew
     simp (disch:=try exact DI) only [↓PR,QR,simprocAttr,↓KD,↓KE,Z5]
     refine ZG ?_
     simp (disch:=try exact DI) only [↓PR,QR,simprocAttr,↓KD,↓KE,hA.c2,hA'.c2]
     rw [R7]
     by_cases hxy:x=y
     · subst hxy
       simp only [decide_true,Bool.not_true]
       simp (disch:=try exact DI) only [↓PR,QR,simprocAttr,↓KD,↓KE]
       exact ⟨⟨k+1,rfl,by omega,ee,by rw [List.take_add_one,List.take_add_one,hx,hy,hI]⟩,Yf (kd := .i64) Yq⟩
     · simp only [hxy,decide_false,Bool.not_false]
       simp (disch:=try exact DI) only [↓PR,QR,simprocAttr,↓KD,↓KE]
       refine ⟨?_,eD⟩
       have hne':¬ l=m:=by
        rintro rfl
        rw [hx] at hy
        injection hy with hy
        exact hxy hy
       simp [hne']
   · subst hk
     simp (disch:=try exact DI) only [↓PR,QR,simprocAttr,↓KD,↓KE,Z5]
     rw [List.take_length,XA,List.take_length] at hI
     exact ⟨by simp [hI],e⟩
 · have YW:((l.length:Int) != (m.length:Int))=true:=by simp;omega
   simp (disch:=try exact DI) only [↓PR,QR,simprocAttr,↓KD,↓KE,YW]
   have hne':¬ l=m:=λ h=>XA (by rw [h])
   exact ⟨by simp [hne'],Ext.refl _⟩
theorem R6 (x y:xj):(decide (x.low=y.low)&&(decide (x.high=y.high)&&decide (x.of=y.of)))=decide (x=y):=by
 cases x;cases y
 rw [Bool.eq_iff_iff]
 simp
theorem qy (w0:Wd) (v u:Vl) (l m:List xj) (hl:Yh w0 v l) (hm:Yh w0 u m) :
 Ret Pg 241 #[v,u] w0 λ r w'=>r = .bool (decide (l=m))∧Ext w0 w':=by
 obtain ⟨A,c,rfl,hlc,hcm,hlm,YV⟩:=Zd.open hl
 obtain ⟨A',c',rfl,hlc',hcm',hlm',hel'⟩:=Zd.open hm
 refine ZdP (R:=ZJ _) ?_;unfold ZdO
 simp (disch:=try exact DI) only [↓PR,QR,simprocAttr]
 by_cases XA:l.length=m.length
 · have YW:((l.length:Int) != (m.length:Int))=false:=by simp [XA]
   simp (disch:=try exact DI) only [↓PR,QR,simprocAttr,↓KA,↓KC,YW]
   refine ZQ (λ a0 w=>∃ (k:Nat) , a0 = .int .i64 (k:Int)∧k≤l.length∧Ext w0 w∧l.take k=m.take k) (λ a0 _=>l.length - (intOf a0).toNat) ⟨0,rfl,Nat.zero_le _,ee,rfl⟩ ?_
   rintro _ w ⟨k,rfl,hk,e,hI⟩
   have se:=e.size
   rcases ZY hk with ⟨x,hx,hd,Yq,Z5⟩ | ⟨hk,hd,Z5⟩
   · obtain ⟨b,o,cs,rfl,_,hA,rfl⟩:=YV k x hx
     obtain ⟨y,hy⟩:=getElem?_lt (l:=m) (k:=k) (by omega)
     obtain ⟨b',o',cs',rfl,_,hA',rfl⟩:=hel' k y hy
     have hlt':k < m.length:=by omega
     have eD:Ext w0 w.drew:=e.wdrew
     simp (disch:=try exact DI) only [↓PR,QR,simprocAttr,↓KA,↓KC,Z5]
     refine ZG ?_
     simp (disch:=try exact DI) only [↓PR,QR,simprocAttr,↓KA,↓KC,hA.c3,hA'.c3]
     rw [R6]
     by_cases hxy:x=y
     · subst hxy
       simp only [decide_true,Bool.not_true]
       simp (disch:=try exact DI) only [↓PR,QR,simprocAttr,↓KA,↓KC]
       exact ⟨⟨k+1,rfl,by omega,ee,by rw [List.take_add_one,List.take_add_one,hx,hy,hI]⟩,Yf (kd := .i64) Yq⟩
     · simp only [hxy,decide_false,Bool.not_false]
       simp (disch:=try exact DI) only [↓PR,QR,simprocAttr,↓KA,↓KC]
       refine ⟨?_,eD⟩
       have hne':¬ l=m:=by
        rintro rfl
        rw [hx] at hy
        injection hy with hy
        exact hxy hy
       simp [hne']
   · subst hk
     simp (disch:=try exact DI) only [↓PR,QR,simprocAttr,↓KA,↓KC,Z5]
     rw [List.take_length,XA,List.take_length] at hI
     exact ⟨by simp [hI],e⟩
 · have YW:((l.length:Int) != (m.length:Int))=true:=by simp;omega
   simp (disch:=try exact DI) only [↓PR,QR,simprocAttr,↓KA,↓KC,YW]
   have hne':¬ l=m:=λ h=>XA (by rw [h])
   exact ⟨by simp [hne'],Ext.refl _⟩
abbrev PO (f:Zt):Vl := .agg #[.string f.name,.string f.of,.string f.tag,.string f.fr,.int .i64 f.kind,.int .i64 f.bits,.int .i64 f.low,.int .i64 f.high,.int .i64 f.base,.int .i64 f.check,.int .i64 f.key,.bool f.little,.bool f.loose]
theorem B2 (w0:Wd) (v:Vl) (f:Zt) (hf:ZZ w0 v f):Ret Pg 239 #[v] w0 λ r w'=>r=PO f∧Ext w0 w':=by
 obtain ⟨tv,cv,rfl,hT,hC,ht1,hc1⟩:=hf.op
 refine ZcR (R:=ZJ _) ?_;unfold ZcQ
 simp (disch:=try exact DI) only [↓PR,QR,simprocAttr,Sw.joinK_eq]
 exact ⟨by first | trivial | rfl,ee⟩
theorem Be (w0:Wd) (v u:Vl) (f g:Zt) (hf:ZZ w0 v f) (hg:ZZ w0 u g):Ret Pg 197 #[v,u] w0 λ r w'=>r = .bool (decide (f=g))∧Ext w0 w':=by
 obtain ⟨tv,cv,rfl,hT,hC,ht1,hc1⟩:=hf.op
 obtain ⟨tv',cv',rfl,hT',hC',ht1',hc1'⟩:=hg.op
 refine ZcV (R:=ZJ _) ?_;unfold ZcU
 simp (disch:=try exact DI) only [↓PR,QR,simprocAttr]
 generalize hW:World.alloc (World.alloc w0 _) _=W
 have e0:Ext w0 W:=by rw [← hW];exact ee
 have o3:W.heap[w0.heap.size]?=some (.cells (Zv f tv cv).toArray 123 (0,0)):=by rw [← hW];simp (disch:=try exact DI) only [↓PR,QR,simprocAttr]
 have o4:W.heap[w0.heap.size+1]?=some (.cells (Zv g tv' cv').toArray 123 (0,0)):=by rw [← hW];simp (disch:=try exact DI) only [↓PR,QR,simprocAttr]
 clear hW
 simp only [World.size_alloc]
 refine ZG ?_
 have eD:Ext w0 W.drew:=e0.wdrew
 simp (disch:=try exact DI) only [↓PR,QR,simprocAttr,↓Kx,↓Ky,↓Kz,(Za o3).1,(Za o4).1]
 refine zcr (B2 _ _ f ⟨tv,cv,rfl,ZW.ext hT eD,Yh.ext hC eD⟩) λ w1 e1=>?_
 refine ⟨e1,?_⟩
 have eD1:=eD.trans e1
 refine zcr (B2 _ _ g ⟨tv',cv',rfl,ZW.ext hT' eD1,Yh.ext hC' eD1⟩) λ w2 e2=>?_
 refine ⟨e1.trans e2,?_⟩
 simp (disch:=try exact DI) only [↓PR,QR,simprocAttr,↓Kx,↓Ky,↓Kz,(Za o3).1,(Za o4).1]
 have eW2:Ext W w2:=(Ext.refl W).wdrew.trans (e1.trans e2)
 generalize hb:(_&&_:Bool)=b1
 cases b1 with
 | false=>
  simp (disch:=try exact DI) only [↓PR,QR,simprocAttr,↓Kx,↓Ky,↓Kz]
  refine ⟨?_,e0.trans eW2⟩
  have YW:¬ f=g:=by
   rintro rfl
   simp at hb
  simp [YW]
 | true=>
  have hbt:=hb
  simp only [Bool.and_eq_true,decide_eq_true_eq] at hb
  obtain ⟨h1,h2,h3,h4,h5,h6,h7,h8,h9,h10,h11,h12,h13⟩:=hb
  simp (disch:=try exact DI) only [↓PR,QR,simprocAttr,↓Kx,↓Ky,↓Kz,(Za o3).1,(Za o4).1]
  refine zcr (qz _ _ _ _ _ (ZW.ext hT (e0.trans eW2)) (ZW.ext hT' (e0.trans eW2))) λ w3 e3=>?_
  refine ⟨(e1.trans e2).trans e3,?_⟩
  have eW3:=eW2.trans e3
  by_cases ht:f.terms=g.terms
  · simp only [ht,decide_true]
    simp (disch:=try exact DI) only [↓PR,QR,simprocAttr,↓Kx,↓Ky,↓Kz,hbt,(Za o3).1,(Za o4).1]
    refine zcr (qy _ _ _ _ _ (Yh.ext hC (e0.trans eW3)) (Yh.ext hC' (e0.trans eW3))) λ w4 e4=>?_
    refine ⟨((e1.trans e2).trans e3).trans e4,?_⟩
    simp (disch:=try exact DI) only [↓PR,QR,simprocAttr,↓Kx,↓Ky,↓Kz]
    refine ⟨?_,e0.trans (eW3.trans e4)⟩
    congr 1
    rw [Bool.eq_iff_iff]
    simp only [decide_eq_true_eq]
    constructor
    · intro hc;cases f;cases g;simp_all
    · rintro rfl;rfl
  · simp only [ht,decide_false]
    simp (disch:=try exact DI) only [↓PR,QR,simprocAttr,↓Kx,↓Ky,↓Kz,hbt]
    refine ⟨?_,e0.trans eW3⟩
    have YW:¬ f=g:=by rintro rfl;exact ht rfl
    simp [YW]
def Wk (g:FuncId) (cl:Zt→Zt) (ct cc:Bool):Prop:=∀ (w:Wd) (p:Nat) (f:Zt) (tv cv:Vl),tv.oneCell'=true→cv.oneCell'=true→w.heap[p]?=some (.cells (Zv f tv cv).toArray 123 (0,0)) →
 Ret Pg g #[.pointer (some ⟨p,0,none⟩)] w λ _ w'=>w'.heap[p]?=some (.cells (Zv (cl f) (if ct then .slice none 0 0 else tv) (if cc then .slice none 0 0 else cv)).toArray 123 (0,0))∧∀ a,Ext a w→a.heap.size≤p→Ext a w'
def Cw (f:Zt):Zt:={ f with bits:=0,little:=false,low:=0,high:=0 }
theorem RU:Wk 212 Cw false false:=by
 intro w p f tv cv ht1 hc1 hp
 have Yq:=(Array.getElem?_eq_some_iff.1 hp).1
 refine ZhN (R:=ZJ _) ?_;unfold n83
 simp (disch:=try exact DI) only [↓PR,QR,simprocAttr,Sw.joinK_eq,(Za hp).1,(Za hp).2]
 refine ⟨?_,λ a e hp'=>?_⟩
 · simp only [YK,hp,Option.map_some,YN,List.setIfInBounds_toArray,List.set_cons_zero,List.set_cons_succ,Bool.false_eq_true,if_false,if_true]
   try rfl
 · exact ee
def Cx (f:Zt):Zt:={ f with bits:=0,little:=false,low:=0 }
theorem RV:Wk 216 Cx false false:=by
 intro w p f tv cv ht1 hc1 hp
 have Yq:=(Array.getElem?_eq_some_iff.1 hp).1
 refine Zh2 (R:=ZJ _) ?_;unfold n98
 simp (disch:=try exact DI) only [↓PR,QR,simprocAttr,Sw.joinK_eq,(Za hp).1,(Za hp).2]
 refine ⟨?_,λ a e hp'=>?_⟩
 · simp only [YK,hp,Option.map_some,YN,List.setIfInBounds_toArray,List.set_cons_zero,List.set_cons_succ,Bool.false_eq_true,if_false,if_true]
   try rfl
 · exact ee
def Cy (f:Zt):Zt:={ f with loose:=false,low:=0,high:=0 }
theorem RW:Wk 218 Cy false false:=by
 intro w p f tv cv ht1 hc1 hp
 have Yq:=(Array.getElem?_eq_some_iff.1 hp).1
 refine ZcH (R:=ZJ _) ?_;unfold ZcG
 simp (disch:=try exact DI) only [↓PR,QR,simprocAttr,Sw.joinK_eq,(Za hp).1,(Za hp).2]
 refine ⟨?_,λ a e hp'=>?_⟩
 · simp only [YK,hp,Option.map_some,YN,List.setIfInBounds_toArray,List.set_cons_zero,List.set_cons_succ,Bool.false_eq_true,if_false,if_true]
   try rfl
 · exact ee
def Cz (f:Zt):Zt:={ f with base:=0,terms:=[] }
theorem RX:Wk 220 Cz true false:=by
 intro w p f tv cv ht1 hc1 hp
 have Yq:=(Array.getElem?_eq_some_iff.1 hp).1
 refine ZcL (R:=ZJ _) ?_;unfold ZcK
 simp (disch:=try exact DI) only [↓PR,QR,simprocAttr,Sw.joinK_eq,(Za hp).1,(Za hp).2]
 refine ⟨?_,λ a e hp'=>?_⟩
 · simp only [YK,hp,Option.map_some,YN,List.setIfInBounds_toArray,List.set_cons_zero,List.set_cons_succ,Bool.false_eq_true,if_false,if_true]
   try rfl
 · exact ee
def CA (f:Zt):Zt:={ f with low:=0,high:=0 }
theorem RY:Wk 222 CA false false:=by
 intro w p f tv cv ht1 hc1 hp
 have Yq:=(Array.getElem?_eq_some_iff.1 hp).1
 refine ZcN (R:=ZJ _) ?_;unfold ZcM
 simp (disch:=try exact DI) only [↓PR,QR,simprocAttr,Sw.joinK_eq,(Za hp).1,(Za hp).2]
 refine ⟨?_,λ a e hp'=>?_⟩
 · simp only [YK,hp,Option.map_some,YN,List.setIfInBounds_toArray,List.set_cons_zero,List.set_cons_succ,Bool.false_eq_true,if_false,if_true]
   try rfl
 · exact ee
def CB (f:Zt):Zt:={ f with loose:=false,high:=0 }
theorem RZ:Wk 224 CB false false:=by
 intro w p f tv cv ht1 hc1 hp
 have Yq:=(Array.getElem?_eq_some_iff.1 hp).1
 refine ZhO (R:=ZJ _) ?_;unfold n84
 simp (disch:=try exact DI) only [↓PR,QR,simprocAttr,Sw.joinK_eq,(Za hp).1,(Za hp).2]
 refine ⟨?_,λ a e hp'=>?_⟩
 · simp only [YK,hp,Option.map_some,YN,List.setIfInBounds_toArray,List.set_cons_zero,List.set_cons_succ,Bool.false_eq_true,if_false,if_true]
   try rfl
 · exact ee
def CC (f:Zt):Zt:={ f with of:=ByteArray.empty,base:=0,terms:=[] }
theorem R0:Wk 226 CC true false:=by
 intro w p f tv cv ht1 hc1 hp
 have Yq:=(Array.getElem?_eq_some_iff.1 hp).1
 refine ZhQ (R:=ZJ _) ?_;unfold n86
 simp (disch:=try exact DI) only [↓PR,QR,simprocAttr,Sw.joinK_eq,(Za hp).1,(Za hp).2]
 refine ⟨?_,λ a e hp'=>?_⟩
 · simp only [YK,hp,Option.map_some,YN,List.setIfInBounds_toArray,List.set_cons_zero,List.set_cons_succ,Bool.false_eq_true,if_false,if_true]
   try rfl
 · exact ee
def CD (f:Zt):Zt:={ f with of:=ByteArray.empty }
theorem R1:Wk 229 CD false false:=by
 intro w p f tv cv ht1 hc1 hp
 have Yq:=(Array.getElem?_eq_some_iff.1 hp).1
 refine ZhS (R:=ZJ _) ?_;unfold n88
 simp (disch:=try exact DI) only [↓PR,QR,simprocAttr,Sw.joinK_eq,(Za hp).1,(Za hp).2]
 refine ⟨?_,λ a e hp'=>?_⟩
 · simp only [YK,hp,Option.map_some,YN,List.setIfInBounds_toArray,List.set_cons_zero,List.set_cons_succ,Bool.false_eq_true,if_false,if_true]
   try rfl
 · exact ee
def CE (f:Zt):Zt:={ f with tag:=ByteArray.empty,cases:=[] }
theorem R2:Wk 231 CE false true:=by
 intro w p f tv cv ht1 hc1 hp
 have Yq:=(Array.getElem?_eq_some_iff.1 hp).1
 refine ZhU (R:=ZJ _) ?_;unfold n90
 simp (disch:=try exact DI) only [↓PR,QR,simprocAttr,Sw.joinK_eq,(Za hp).1,(Za hp).2]
 refine ⟨?_,λ a e hp'=>?_⟩
 · simp only [YK,hp,Option.map_some,YN,List.setIfInBounds_toArray,List.set_cons_zero,List.set_cons_succ,Bool.false_eq_true,if_false,if_true]
   try rfl
 · exact ee
def qm (f:Zt):Zt:={ f with bits:=0 }
theorem Nf:Wk 233 qm false false:=by
 intro w p f tv cv ht1 hc1 hp
 have Yq:=(Array.getElem?_eq_some_iff.1 hp).1
 refine ZhV (R:=ZJ _) ?_;unfold n91
 simp (disch:=try exact DI) only [↓PR,QR,simprocAttr,Sw.joinK_eq,(Za hp).1,(Za hp).2]
 refine ⟨?_,λ a e hp'=>?_⟩
 · simp only [YK,hp,Option.map_some,YN,List.setIfInBounds_toArray,List.set_cons_zero,List.set_cons_succ,Bool.false_eq_true,if_false,if_true]
   try rfl
 · exact ee
def qn (f:Zt):Zt:={ f with fr:=ByteArray.empty,check:=0 }
theorem Ng:Wk 235 qn false false:=by
 intro w p f tv cv ht1 hc1 hp
 have Yq:=(Array.getElem?_eq_some_iff.1 hp).1
 refine ZhX (R:=ZJ _) ?_;unfold n93
 simp (disch:=try exact DI) only [↓PR,QR,simprocAttr,Sw.joinK_eq,(Za hp).1,(Za hp).2]
 refine ⟨?_,λ a e hp'=>?_⟩
 · simp only [YK,hp,Option.map_some,YN,List.setIfInBounds_toArray,List.set_cons_zero,List.set_cons_succ,Bool.false_eq_true,if_false,if_true]
   try rfl
 · exact ee
def qo (f:Zt):Zt:={ f with of:=ByteArray.empty,base:=0,terms:=[],key:=0 }
theorem Nh:Wk 237 qo true false:=by
 intro w p f tv cv ht1 hc1 hp
 have Yq:=(Array.getElem?_eq_some_iff.1 hp).1
 refine Zh0 (R:=ZJ _) ?_;unfold n96
 simp (disch:=try exact DI) only [↓PR,QR,simprocAttr,Sw.joinK_eq,(Za hp).1,(Za hp).2]
 refine ⟨?_,λ a e hp'=>?_⟩
 · simp only [YK,hp,Option.map_some,YN,List.setIfInBounds_toArray,List.set_cons_zero,List.set_cons_succ,Bool.false_eq_true,if_false,if_true]
   try rfl
 · exact ee
abbrev Xn:Int→Vl:=λ n => .int .i64 n
def Cj (L:List (Int×Vl×Nat)):Prop:=(∀ k,¬ (1≤k∧k≤12)→Sw.look L k=none)∧Sw.look L 1=some (.agg #[.func (.func 212) #[] #[],.func (.func 213) #[] #[]])∧Sw.look L 2=some (.agg #[.func (.func 216) #[] #[],.func (.func 217) #[] #[]])∧Sw.look L 3=some (.agg #[.func (.func 218) #[] #[],.func (.func 219) #[] #[]])∧Sw.look L 4=some (.agg #[.func (.func 220) #[] #[],.func (.func 221) #[] #[]])∧Sw.look L 5=some (.agg #[.func (.func 222) #[] #[],.func (.func 223) #[] #[]])∧Sw.look L 6=some (.agg #[.func (.func 224) #[] #[],.func (.func 225) #[] #[]])∧Sw.look L 7=some (.agg #[.func (.func 226) #[] #[],.func (.func 227) #[] #[]])∧Sw.look L 8=some (.agg #[.func (.func 229) #[] #[],.func (.func 230) #[] #[]])∧Sw.look L 9=some (.agg #[.func (.func 231) #[] #[],.func (.func 232) #[] #[]])∧Sw.look L 10=some (.agg #[.func (.func 233) #[] #[],.func (.func 234) #[] #[]])∧Sw.look L 11=some (.agg #[.func (.func 235) #[] #[],.func (.func 236) #[] #[]])∧Sw.look L 12=some (.agg #[.func (.func 237) #[] #[],.func (.func 238) #[] #[]])
theorem XE {w0 w:Wd} {m c:Nat} {L:List (Int×Vl×Nat)} {QP:PEn} {ku:WPr} (hM:Xj w m Xn L c) (e:Ext w0 w) (hm:w0.heap.size≤m) (k:Int) (v:Vl)
 (h:∀ w' L' c',Xj w' m Xn L' c'→(∀ k',Sw.look L' k'=if k'=k then some v else Sw.look L k')→Ext w0 w'→ku w'):opU Pg (mapUpdate 257 (.map (some m)) (.int .i64 k) v) QP w ku:=by
 rw [UQ underlying257 (Ql.int underlying117) hM k v]
 exact h _ _ _ (hM.put k v) (λ k'=>G9 _ _ _ _ _) (e.putObj hm _)
theorem BD (w0:Wd):Ret Pg 196 #[] w0 λ r w'=>∃ m L c,r = .map (some m)∧w0.heap.size≤m∧Xj w' m Xn L c∧Cj L∧Ext w0 w':=by
 refine ZhM (R:=ZJ _) ?_;unfold n82
 simp (disch:=try exact DI) only [↓PR,QR,simprocAttr]
 have hM0:Xj (w0.alloc (.map #[] 0)) w0.heap.size Xn [] 0:=Xj.new w0 _
 have e0:Ext w0 (w0.alloc (.map #[] 0)):=ee
 refine XE hM0 e0 (Nat.le_refl _) 1 _ (λ w1 L1 c1 hM1 hl1 e1=>?_)
 simp (disch:=try exact DI) only [↓PR,QR,simprocAttr]
 refine XE hM1 e1 (Nat.le_refl _) 2 _ (λ w2 L2 c2 hM2 hl2 e2=>?_)
 simp (disch:=try exact DI) only [↓PR,QR,simprocAttr]
 refine XE hM2 e2 (Nat.le_refl _) 3 _ (λ w3 L3 c3 hM3 hl3 e3=>?_)
 simp (disch:=try exact DI) only [↓PR,QR,simprocAttr]
 refine XE hM3 e3 (Nat.le_refl _) 4 _ (λ w4 L4 c4 hM4 hl4 e4=>?_)
 simp (disch:=try exact DI) only [↓PR,QR,simprocAttr]
 refine XE hM4 e4 (Nat.le_refl _) 5 _ (λ w5 L5 c5 hM5 hl5 e5=>?_)
 simp (disch:=try exact DI) only [↓PR,QR,simprocAttr]
 refine XE hM5 e5 (Nat.le_refl _) 6 _ (λ w6 L6 c6 hM6 hl6 e6=>?_)
 simp (disch:=try exact DI) only [↓PR,QR,simprocAttr]
 refine XE hM6 e6 (Nat.le_refl _) 7 _ (λ w7 L7 c7 hM7 hl7 e7=>?_)
 simp (disch:=try exact DI) only [↓PR,QR,simprocAttr]
 refine XE hM7 e7 (Nat.le_refl _) 8 _ (λ w8 L8 c8 hM8 hl8 e8=>?_)
 simp (disch:=try exact DI) only [↓PR,QR,simprocAttr]
 refine XE hM8 e8 (Nat.le_refl _) 9 _ (λ w9 L9 c9 hM9 hl9 e9=>?_)
 simp (disch:=try exact DI) only [↓PR,QR,simprocAttr]
 refine XE hM9 e9 (Nat.le_refl _) 10 _ (λ w10 L10 c10 hM10 hl10 e10=>?_)
 simp (disch:=try exact DI) only [↓PR,QR,simprocAttr]
 refine XE hM10 e10 (Nat.le_refl _) 11 _ (λ w11 L11 c11 hM11 hl11 e11=>?_)
 simp (disch:=try exact DI) only [↓PR,QR,simprocAttr]
 refine XE hM11 e11 (Nat.le_refl _) 12 _ (λ w12 L12 c12 hM12 hl12 e12=>?_)
 simp (disch:=try exact DI) only [↓PR,QR,simprocAttr]
 have hn:∀ k,Sw.look ([]:List (Int×Vl×Nat)) k=none:=λ _=>rfl
 refine ⟨_,_,_,rfl,Nat.le_refl _,hM12,⟨λ k hk=>?_,?_,?_,?_,?_,?_,?_,?_,?_,?_,?_,?_,?_⟩,e12⟩
 · rw [hl12,if_neg (by omega),hl11,if_neg (by omega),hl10,if_neg (by omega),hl9,if_neg (by omega),hl8,if_neg (by omega),hl7,if_neg (by omega),hl6,if_neg (by omega),hl5,if_neg (by omega),hl4,if_neg (by omega),hl3,if_neg (by omega),hl2,if_neg (by omega),hl1,if_neg (by omega),hn]
 · rw [hl12,if_neg (by decide),hl11,if_neg (by decide),hl10,if_neg (by decide),hl9,if_neg (by decide),hl8,if_neg (by decide),hl7,if_neg (by decide),hl6,if_neg (by decide),hl5,if_neg (by decide),hl4,if_neg (by decide),hl3,if_neg (by decide),hl2,if_neg (by decide),hl1,if_pos rfl]
 · rw [hl12,if_neg (by decide),hl11,if_neg (by decide),hl10,if_neg (by decide),hl9,if_neg (by decide),hl8,if_neg (by decide),hl7,if_neg (by decide),hl6,if_neg (by decide),hl5,if_neg (by decide),hl4,if_neg (by decide),hl3,if_neg (by decide),hl2,if_pos rfl]
 · rw [hl12,if_neg (by decide),hl11,if_neg (by decide),hl10,if_neg (by decide),hl9,if_neg (by decide),hl8,if_neg (by decide),hl7,if_neg (by decide),hl6,if_neg (by decide),hl5,if_neg (by decide),hl4,if_neg (by decide),hl3,if_pos rfl]
 · rw [hl12,if_neg (by decide),hl11,if_neg (by decide),hl10,if_neg (by decide),hl9,if_neg (by decide),hl8,if_neg (by decide),hl7,if_neg (by decide),hl6,if_neg (by decide),hl5,if_neg (by decide),hl4,if_pos rfl]
 · rw [hl12,if_neg (by decide),hl11,if_neg (by decide),hl10,if_neg (by decide),hl9,if_neg (by decide),hl8,if_neg (by decide),hl7,if_neg (by decide),hl6,if_neg (by decide),hl5,if_pos rfl]
 · rw [hl12,if_neg (by decide),hl11,if_neg (by decide),hl10,if_neg (by decide),hl9,if_neg (by decide),hl8,if_neg (by decide),hl7,if_neg (by decide),hl6,if_pos rfl]
 · rw [hl12,if_neg (by decide),hl11,if_neg (by decide),hl10,if_neg (by decide),hl9,if_neg (by decide),hl8,if_neg (by decide),hl7,if_pos rfl]
 · rw [hl12,if_neg (by decide),hl11,if_neg (by decide),hl10,if_neg (by decide),hl9,if_neg (by decide),hl8,if_pos rfl]
 · rw [hl12,if_neg (by decide),hl11,if_neg (by decide),hl10,if_neg (by decide),hl9,if_pos rfl]
 · rw [hl12,if_neg (by decide),hl11,if_neg (by decide),hl10,if_pos rfl]
 · rw [hl12,if_neg (by decide),hl11,if_pos rfl]
 · rw [hl12,if_pos rfl]
def xn (f:Zt):Zt:={ name:=f.name,kind:=f.kind,bits:=0,little:=false,loose:=false,low:=0,high:=0,base:=0,terms:=[],of:=ByteArray.empty,tag:=ByteArray.empty,fr:=ByteArray.empty,cases:=[],check:=0,key:=0 }
section
variable {w0:Wd} {cb md ms:Nat} {Zs ZE:List (BAr×Vl)} {at_ fld:Int} {fs:List Zt}
theorem Qc {a0:Wd} (e00:Ext a0 w0) (h:Chk w0 cb md ms Zs ZE at_ fld fs) (p3 p6:Nat) (f:Zt) (tv cv:Vl) (hT:ZW w0 tv f.terms) (hC:Yh w0 cv f.cases) (o3:w0.heap[p3]?=some (.cells (Zv f tv cv).toArray 123 (0,0)))
 (g1 g2:FuncId) (o6:w0.heap[p6]?=some (.cells #[.func (.func g1) #[] #[],.func (.func g2) #[] #[]] 255 (0,0))) (hc1:Callable Pg g1) (hc2:Callable Pg g2) (cl:Zt→Zt) (ct cc:Bool) (hcl:Wk g1 cl ct cc)
 (hterms:(cl f).terms=if ct then [] else f.terms) (hcases:(cl f).cases=if cc then [] else f.cases) (code:Int)
 (hchk:∀ w v,Chk w cb md ms Zs ZE at_ fld fs→ZZ w v f→Calls Pg g2 #[.pointer (some ⟨cb,0,none⟩),v] w (X2 w at_ fld code)) :
 EE (.pointer (some ⟨cb,0,none⟩)) (.pointer (some ⟨p3,0,none⟩)) (.pointer (some ⟨p6,0,none⟩)) (X2 a0 at_ fld (orC (Yo (decide (cl f=xn f)) 5) code)) w0:=by
 have ht1:=Zd.oneCell hT
 have hv1:=Zd.oneCell hC
 have l6:p6 < w0.heap.size:=(Array.getElem?_eq_some_iff.1 o6).1
 unfold EE
 simp (disch:=try exact DI) only [↓PR,QR,simprocAttr,(Za o3).1,(Za o6).1]
 have e1:Ext w0 (w0.alloc (Obj.cells (Zv f tv cv).toArray 123)):=ee
 have o7:=Zz w0 (Zv f tv cv).toArray 123
 rw [YP hc1]
 simp only [Array.empty_append,Array.append_empty]
 refine Zl (hcl _ w0.heap.size f tv cv ht1 hv1 o7) ?_
 rintro r w2 ⟨o7',hE⟩
 have e2:=hE w0 e1 (Nat.le_refl _)
 clear hE o7 e1
 have hT2:ZW w2 (if ct then .slice none 0 0 else tv) (cl f).terms:=by
  rw [hterms]
  cases ct
  · exact ZW.ext hT e2
  · exact Zd.nil _ _ _
 have hC2:Yh w2 (if cc then .slice none 0 0 else cv) (cl f).cases:=by
  rw [hcases]
  cases cc
  · exact Yh.ext hC e2
  · exact Zd.nil _ _ _
 generalize (if ct=true then Value.slice none 0 0 else tv)=tv2 at o7' hT2
 generalize (if cc=true then Value.slice none 0 0 else cv)=cv2 at o7' hC2
 generalize cl f=g at o7' hT2 hC2 ⊢
 have o3':=e2.obj o3
 clear hterms hcases hcl
 unfold ZaI
 have hL:QE Pg w2 123 ⟨w0.heap.size,0,none⟩ (.agg (Zv g tv2 cv2).toArray):=QE.many WQ rfl (λ j v hv=>by rw [Addr.add_lit,(Za o7').1];simpa using hv)
 refine (JL hL).mpr ?_
 simp (disch:=try exact DI) only [↓PR,QR,simprocAttr,(Za o3').1]
 refine zcr (Be w2 _ _ g (xn f) ⟨_,_,rfl,hT2,hC2⟩ ⟨.slice none 0 0,.slice none 0 0,rfl,Zd.nil _ _ _,Zd.nil _ _ _⟩) λ w3 e3=>?_
 have e23:=e2.trans e3
 refine ZP (Yy (h.ext e23) _ 5 (by decide)) (λ w4 e4 h0=>?_) (λ w4 e4 h0=>?_)
 · rw [h0,YZ]
   have e24:=e23.trans e4
   simp (disch:=try exact DI) only [↓PR,QR,simprocAttr,↓ZaH,(Za (e24.obj o6)).1,(Za (e24.obj o3)).1]
   rw [YP hc2]
   simp only [Array.empty_append,Array.append_empty]
   refine ZP (hchk w4 _ (h.ext e24) ⟨tv,cv,rfl,ZW.ext hT e24,Yh.ext hC e24⟩) (λ w5 e5 h0=>?_) (λ w5 e5 h0=>?_)
   · exact Y9 (e00.trans (e24.trans e5)) h0
   · exact Ya (e00.trans (e24.trans e5)) rfl h0
 · rw [Qh h0]
   exact Ya (e00.trans (e23.trans e4)) rfl h0
end
def YI (bef:List Zt) (Zs ZE:List (BAr×Vl)) (f:Zt):Int:=
 if f.kind=1 then orC (Yo (Uj f) 6) (Yu (Bg f) 0 [f.low,f.high]) else
 if f.kind=2 then orC (Yo (Uj f) 6) (Yu (Bg f) 0 [f.low]) else
 if f.kind=3 then Yu 34359738367 0 [f.low,f.high] else
 if f.kind=4 then V9 (XI bef) f else
 if f.kind=5 then orC (Yu 255 0 [f.low]) (Yu 1048576 0 [f.high]) else
 if f.kind=6 then Yu 1048576 2 [f.high] else
 if f.kind=7 then orC (Yo (Yr Zs f.of).isSome 8) (V9 (XI bef) f) else
 if f.kind=8 then Yo (Yr Zs f.of).isSome 8 else
 if f.kind=9 then V0 bef Zs f else
 if f.kind=10 then Yo (HV f) 6 else
 if f.kind=11 then orC (Yu 3 1 [f.check]) (Yo (bef.any λ o=>decide (o.name=f.fr)) 8) else
 if f.kind=12 then orC (Yu 4294967295 0 [f.key]) (orC (Yo (Rl ZE f.of) 8) (V9 (XI bef) f)) else 0
def YT (f:Zt):Zt:=
 if f.kind=1 then Cw f else
 if f.kind=2 then Cx f else
 if f.kind=3 then Cy f else
 if f.kind=4 then Cz f else
 if f.kind=5 then CA f else
 if f.kind=6 then CB f else
 if f.kind=7 then CC f else
 if f.kind=8 then CD f else
 if f.kind=9 then CE f else
 if f.kind=10 then qm f else
 if f.kind=11 then qn f else
 if f.kind=12 then qo f else f
def Km (bef:List Zt) (Zs ZE:List (BAr×Vl)) (f:Zt):Int:=
 orC (Yo (Yj f.name) 1) (orC (Yo (!bef.any λ o=>decide (o.name=f.name)) 2) (orC (Yo (decide (1≤f.kind∧f.kind≤12)) 4) (orC (Yo (decide (YT f=xn f)) 5) (YI bef Zs ZE f))))
section
variable {w0:Wd} {cb md ms:Nat} {Zs ZE:List (BAr×Vl)} {at_ fld:Int} {fs:List Zt}
theorem R8 {a0:Wd} (e00:Ext a0 w0) (h:Chk w0 cb md ms Zs ZE at_ fld fs) (i:Nat) (hi:fld=i) (Yq:i < fs.length) (p3 p6:Nat) (f:Zt) (tv cv:Vl) (hT:ZW w0 tv f.terms) (hC:Yh w0 cv f.cases) (o3:w0.heap[p3]?=some (.cells (Zv f tv cv).toArray 123 (0,0)))
 (L:List (Int×Vl×Nat)) (hL:Cj L) (a b:Vl) (ok:Bool) (hab:(Sw.look L f.kind).getD (.agg #[.nilFunc,.nilFunc]) = .agg #[a,b]) (hok:ok=(Sw.look L f.kind).isSome) (o6:w0.heap[p6]?=some (.cells #[a,b] 255 (0,0))) :
 Zg Pg 135 #[.pointer (some ⟨cb,0,none⟩),.bool ok,.int .i64 4] (Zb (X2 a0 at_ fld (orC (Yo (decide (1≤f.kind∧f.kind≤12)) 4) (orC (Yo (decide (YT f=xn f)) 5) (YI (fs.take i) Zs ZE f))))) w0
  (λ _ w=>EE (.pointer (some ⟨cb,0,none⟩)) (.pointer (some ⟨p3,0,none⟩)) (.pointer (some ⟨p6,0,none⟩)) (X2 a0 at_ fld (orC (Yo (decide (1≤f.kind∧f.kind≤12)) 4) (orC (Yo (decide (YT f=xn f)) 5) (YI (fs.take i) Zs ZE f)))) w):=by
 obtain ⟨hn,k1,k2,k3,k4,k5,k6,k7,k8,k9,k10,k11,k12⟩:=hL
 by_cases hk:1≤f.kind∧f.kind≤12
 · have hd:decide (1≤f.kind∧f.kind≤12)=true:=by simpa using hk
   rw [hd]
   show Zg _ _ _ (Zb (X2 a0 at_ fld (orC 0 _))) _ _
   simp only [show Yo true 4=0 from rfl,YZ]
   have hs:ok=true:=by
    rw [hok]
    have:f.kind=1∨f.kind=2∨f.kind=3∨f.kind=4∨f.kind=5∨f.kind=6∨f.kind=7∨f.kind=8∨f.kind=9∨f.kind=10∨f.kind=11∨f.kind=12:=by omega
    rcases this with h | h | h | h | h | h | h | h | h | h | h | h<;>simp only [h,k1,k2,k3,k4,k5,k6,k7,k8,k9,k10,k11,k12,Option.isSome_some]
   subst hs
   refine ZP (Yy h true 4 (by decide)) (λ w1 e1 _=>?_) (λ w1 e1 h0=>absurd rfl h0)
   have hw:=h.ext e1
   have hT1:=ZW.ext hT e1
   have hC1:=Yh.ext hC e1
   have o31:=e1.obj o3
   have this:f.kind=1∨f.kind=2∨f.kind=3∨f.kind=4∨f.kind=5∨f.kind=6∨f.kind=7∨f.kind=8∨f.kind=9∨f.kind=10∨f.kind=11∨f.kind=12:=by omega
   rcases this with Vj | Vj | Vj | Vj | Vj | Vj | Vj | Vj | Vj | Vj | Vj | Vj
   · rw [Vj,k1,Option.getD_some] at hab
     injection hab with hab
     have hab:=congrArg Array.toList hab
     simp only [List.cons.injEq,and_true] at hab
     obtain ⟨rfl,rfl⟩:=hab
     have hcl:YT f=Cw f:=by unfold YT;simp [Vj]
     have hcc:YI (fs.take i) Zs ZE f=orC (Yo (Uj f) 6) (Yu (Bg f) 0 [f.low,f.high]):=by unfold YI;simp [Vj]
     rw [hcl,hcc]
     exact Qc (e00.trans e1) hw p3 p6 f tv cv hT1 hC1 o31 _ _ (e1.obj o6) c212 c213 Cw false false RU rfl rfl _ (λ w v hw hf=>Ru hw v f hf)
   · rw [Vj,k2,Option.getD_some] at hab
     injection hab with hab
     have hab:=congrArg Array.toList hab
     simp only [List.cons.injEq,and_true] at hab
     obtain ⟨rfl,rfl⟩:=hab
     have hcl:YT f=Cx f:=by unfold YT;simp [Vj]
     have hcc:YI (fs.take i) Zs ZE f=orC (Yo (Uj f) 6) (Yu (Bg f) 0 [f.low]):=by unfold YI;simp [Vj]
     rw [hcl,hcc]
     exact Qc (e00.trans e1) hw p3 p6 f tv cv hT1 hC1 o31 _ _ (e1.obj o6) Zf1 Zf2 Cx false false RV rfl rfl _ (λ w v hw hf=>LC hw v f hf)
   · rw [Vj,k3,Option.getD_some] at hab
     injection hab with hab
     have hab:=congrArg Array.toList hab
     simp only [List.cons.injEq,and_true] at hab
     obtain ⟨rfl,rfl⟩:=hab
     have hcl:YT f=Cy f:=by unfold YT;simp [Vj]
     have hcc:YI (fs.take i) Zs ZE f=Yu 34359738367 0 [f.low,f.high]:=by unfold YI;simp [Vj]
     rw [hcl,hcc]
     exact Qc (e00.trans e1) hw p3 p6 f tv cv hT1 hC1 o31 _ _ (e1.obj o6) Zf3 Zf4 Cy false false RW rfl rfl _ (λ w v hw hf=>Io hw v f hf)
   · rw [Vj,k4,Option.getD_some] at hab
     injection hab with hab
     have hab:=congrArg Array.toList hab
     simp only [List.cons.injEq,and_true] at hab
     obtain ⟨rfl,rfl⟩:=hab
     have hcl:YT f=Cz f:=by unfold YT;simp [Vj]
     have hcc:YI (fs.take i) Zs ZE f=V9 (XI (fs.take i)) f:=by unfold YI;simp [Vj]
     rw [hcl,hcc]
     exact Qc (e00.trans e1) hw p3 p6 f tv cv hT1 hC1 o31 _ _ (e1.obj o6) Zf5 Zbg Cz true false RX rfl rfl _ (λ w v hw hf=>xg hw i hi Yq v f hf)
   · rw [Vj,k5,Option.getD_some] at hab
     injection hab with hab
     have hab:=congrArg Array.toList hab
     simp only [List.cons.injEq,and_true] at hab
     obtain ⟨rfl,rfl⟩:=hab
     have hcl:YT f=CA f:=by unfold YT;simp [Vj]
     have hcc:YI (fs.take i) Zs ZE f=orC (Yu 255 0 [f.low]) (Yu 1048576 0 [f.high]):=by unfold YI;simp [Vj]
     rw [hcl,hcc]
     exact Qc (e00.trans e1) hw p3 p6 f tv cv hT1 hC1 o31 _ _ (e1.obj o6) Zf6 Zf7 CA false false RY rfl rfl _ (λ w v hw hf=>ML hw v f hf)
   · rw [Vj,k6,Option.getD_some] at hab
     injection hab with hab
     have hab:=congrArg Array.toList hab
     simp only [List.cons.injEq,and_true] at hab
     obtain ⟨rfl,rfl⟩:=hab
     have hcl:YT f=CB f:=by unfold YT;simp [Vj]
     have hcc:YI (fs.take i) Zs ZE f=Yu 1048576 2 [f.high]:=by unfold YI;simp [Vj]
     rw [hcl,hcc]
     exact Qc (e00.trans e1) hw p3 p6 f tv cv hT1 hC1 o31 _ _ (e1.obj o6) Zf8 Zf9 CB false false RZ rfl rfl _ (λ w v hw hf=>Ec hw v f hf)
   · rw [Vj,k7,Option.getD_some] at hab
     injection hab with hab
     have hab:=congrArg Array.toList hab
     simp only [List.cons.injEq,and_true] at hab
     obtain ⟨rfl,rfl⟩:=hab
     have hcl:YT f=CC f:=by unfold YT;simp [Vj]
     have hcc:YI (fs.take i) Zs ZE f=orC (Yo (Yr Zs f.of).isSome 8) (V9 (XI (fs.take i)) f):=by unfold YI;simp [Vj]
     rw [hcl,hcc]
     exact Qc (e00.trans e1) hw p3 p6 f tv cv hT1 hC1 o31 _ _ (e1.obj o6) Zga Zgb CC true false R0 rfl rfl _ (λ w v hw hf=>NL hw i hi Yq v f hf)
   · rw [Vj,k8,Option.getD_some] at hab
     injection hab with hab
     have hab:=congrArg Array.toList hab
     simp only [List.cons.injEq,and_true] at hab
     obtain ⟨rfl,rfl⟩:=hab
     have hcl:YT f=CD f:=by unfold YT;simp [Vj]
     have hcc:YI (fs.take i) Zs ZE f=Yo (Yr Zs f.of).isSome 8:=by unfold YI;simp [Vj]
     rw [hcl,hcc]
     exact Qc (e00.trans e1) hw p3 p6 f tv cv hT1 hC1 o31 _ _ (e1.obj o6) Zgc Zgd CD false false R1 rfl rfl _ (λ w v hw hf=>Es hw v f hf)
   · rw [Vj,k9,Option.getD_some] at hab
     injection hab with hab
     have hab:=congrArg Array.toList hab
     simp only [List.cons.injEq,and_true] at hab
     obtain ⟨rfl,rfl⟩:=hab
     have hcl:YT f=CE f:=by unfold YT;simp [Vj]
     have hcc:YI (fs.take i) Zs ZE f=V0 (fs.take i) Zs f:=by unfold YI;simp [Vj]
     rw [hcl,hcc]
     exact Qc (e00.trans e1) hw p3 p6 f tv cv hT1 hC1 o31 _ _ (e1.obj o6) Zge c232 CE false true R2 rfl rfl _ (λ w v hw hf=>Lv hw i hi Yq v f hf)
   · rw [Vj,k10,Option.getD_some] at hab
     injection hab with hab
     have hab:=congrArg Array.toList hab
     simp only [List.cons.injEq,and_true] at hab
     obtain ⟨rfl,rfl⟩:=hab
     have hcl:YT f=qm f:=by unfold YT;simp [Vj]
     have hcc:YI (fs.take i) Zs ZE f=Yo (HV f) 6:=by unfold YI;simp [Vj]
     rw [hcl,hcc]
     exact Qc (e00.trans e1) hw p3 p6 f tv cv hT1 hC1 o31 _ _ (e1.obj o6) c233 Zgf qm false false Nf rfl rfl _ (λ w v hw hf=>SE hw v f hf)
   · rw [Vj,k11,Option.getD_some] at hab
     injection hab with hab
     have hab:=congrArg Array.toList hab
     simp only [List.cons.injEq,and_true] at hab
     obtain ⟨rfl,rfl⟩:=hab
     have hcl:YT f=qn f:=by unfold YT;simp [Vj]
     have hcc:YI (fs.take i) Zs ZE f=orC (Yu 3 1 [f.check]) (Yo ((fs.take i).any λ o=>decide (o.name=f.fr)) 8):=by unfold YI;simp [Vj]
     rw [hcl,hcc]
     exact Qc (e00.trans e1) hw p3 p6 f tv cv hT1 hC1 o31 _ _ (e1.obj o6) Zgg Zgh qn false false Ng rfl rfl _ (λ w v hw hf=>LB hw i hi Yq v f hf)
   · rw [Vj,k12,Option.getD_some] at hab
     injection hab with hab
     have hab:=congrArg Array.toList hab
     simp only [List.cons.injEq,and_true] at hab
     obtain ⟨rfl,rfl⟩:=hab
     have hcl:YT f=qo f:=by unfold YT;simp [Vj]
     have hcc:YI (fs.take i) Zs ZE f=orC (Yu 4294967295 0 [f.key]) (orC (Yo (Rl ZE f.of) 8) (V9 (XI (fs.take i)) f)):=by unfold YI;simp [Vj]
     rw [hcl,hcc]
     exact Qc (e00.trans e1) hw p3 p6 f tv cv hT1 hC1 o31 _ _ (e1.obj o6) Zgi Zgj qo true false Nh rfl rfl _ (λ w v hw hf=>Rw hw i hi Yq v f hf)
 · have hd:decide (1≤f.kind∧f.kind≤12)=false:=by simpa using hk
   rw [hd]
   have hs:ok=false:=by rw [hok,hn _ hk];rfl
   subst hs
   refine ZP (Yy h false 4 (by decide)) (λ w1 e1 h0=>absurd h0 (by decide)) (λ w1 e1 h0=>?_)
   exact Ya (e00.trans e1) rfl h0
end
section
variable {w0:Wd} {cb md ms:Nat} {Zs ZE:List (BAr×Vl)} {at_ fld:Int} {fs:List Zt}
theorem D2 (h:Chk w0 cb md ms Zs ZE at_ fld fs) (i:Nat) (hi:fld=i) (Yq:i < fs.length) (v:Vl) (f:Zt) (hf:ZZ w0 v f) :
 Calls Pg 161 #[.pointer (some ⟨cb,0,none⟩),v] w0 (X2 w0 at_ fld (Km (fs.take i) Zs ZE f)):=by
 obtain ⟨tv,cv,rfl,hT,hC,ht1,hc1⟩:=hf.op
 refine ZhB ?_;unfold n72
 simp (disch:=try exact DI) only [↓PR,QR,simprocAttr]
 generalize hW:World.alloc w0 _=W
 have e0:Ext w0 W:=by rw [← hW];exact ee
 have o3:W.heap[w0.heap.size]?=some (.cells (Zv f tv cv).toArray 123 (0,0)):=by rw [← hW];simp (disch:=try exact DI) only [↓PR,QR,simprocAttr]
 clear hW
 refine zcr (Ud _ f.name) λ w1 e1=>?_
 have e01:=e0.trans e1
 unfold Km
 refine ZP (Yy (h.ext e01) _ 1 (by decide)) (λ w2 e2 h0=>?_) (λ w2 e2 h0=>?_)
 · rw [h0,YZ]
   have e02:=e01.trans e2
   have o32:=(e1.trans e2).obj o3
   refine ZG ?_
   simp (disch:=try exact DI) only [↓PR,QR,simprocAttr,↓ZaM,(Za o32).1]
   have eD:Ext w0 w2.drew:=e02.wdrew
   refine Zl (Wl (h.ext eD) i hi Yq) ?_
   rintro bv w3 ⟨hB,e3⟩
   refine ⟨e3,?_⟩
   have hb1:=Zd.oneCell hB
   simp (disch:=try exact DI) only [↓PR,QR,simprocAttr]
   refine zcr (zD w3 _ ⟨ByteArray.empty,fs.take i⟩ f.name ⟨bv,rfl,hB⟩) λ w4 e4=>?_
   refine ⟨e3.trans e4,?_⟩
   simp (disch:=try exact DI) only [↓PR,QR,simprocAttr,↓ZaL]
   have e04:=eD.trans (e3.trans e4)
   have e24:Ext w2 w4:=(Ext.refl w2).wdrew.trans (e3.trans e4)
   refine ZP (Yy (h.ext e04) _ 2 (by decide)) (λ w5 e5 h0=>?_) (λ w5 e5 h0=>?_)
   · rw [h0,YZ]
     have e05:=e04.trans e5
     have o35:=(e24.trans e5).obj o32
     clear e24 e04 e3 e4 hB eD e02 e01 e1 e2 o32
     refine ZG ?_
     simp (disch:=try exact DI) only [↓PR,QR,simprocAttr,↓ZaK,(Za o35).1]
     have eD:Ext w5 w5.drew:=(Ext.refl _).wdrew
     have fin5:∀ (w':Wd) (m p6 c:Nat) (L:List (Int×Vl×Nat)) (u0 u1:Vl),Ext w5.drew w'→Xj w' m Xn L c→Cj L→w'.heap[p6]?=some (.cells #[u0,u1] 255 (0,0))→w5.heap.size≤p6 →
      IT (.pointer (some ⟨p6,0,none⟩)) (.map (some m)) (.int .i64 f.kind) (KM w5.drew m Xn L c) (λ t5 t6 w=>Zg Pg 135 #[.pointer (some ⟨cb,0,none⟩),t5,.int .i64 4] (Zb (X2 w0 at_ fld (orC (Yo (decide (1≤f.kind∧f.kind≤12)) 4) (orC (Yo (decide (YT f=xn f)) 5) (YI (fs.take i) Zs ZE f))))) w λ _ w=>EE (.pointer (some ⟨cb,0,none⟩)) (.pointer (some ⟨w0.heap.size,0,none⟩)) t6 (X2 w0 at_ fld (orC (Yo (decide (1≤f.kind∧f.kind≤12)) 4) (orC (Yo (decide (YT f=xn f)) 5) (YI (fs.take i) Zs ZE f)))) w)
       (X2 w0 at_ fld (orC (Yo (decide (1≤f.kind∧f.kind≤12)) 4) (orC (Yo (decide (YT f=xn f)) 5) (YI (fs.take i) Zs ZE f)))) w':=by
      intro w' m p6 c L u0 u1 e' hM hL o6 hp6
      haveI:Yn (KM w5.drew m Xn L c):=⟨⟨w',e',hM⟩⟩
      unfold IT
      rw [WM underlying257 (Ql.int underlying117) FA ⟨w',e',hM⟩]
      obtain ⟨a,b,hab,ha,hb⟩:∃ a b,(Sw.look L f.kind).getD (.agg #[.nilFunc,.nilFunc]) = .agg #[a,b]∧a.oneCell'=true∧b.oneCell'=true:=by
       obtain ⟨hn,k1,k2,k3,k4,k5,k6,k7,k8,k9,k10,k11,k12⟩:=hL
       by_cases hk:1≤f.kind∧f.kind≤12
       · have this:f.kind=1∨f.kind=2∨f.kind=3∨f.kind=4∨f.kind=5∨f.kind=6∨f.kind=7∨f.kind=8∨f.kind=9∨f.kind=10∨f.kind=11∨f.kind=12:=by omega
         rcases this with h | h | h | h | h | h | h | h | h | h | h | h<;>simp only [h,k1,k2,k3,k4,k5,k6,k7,k8,k9,k10,k11,k12,Option.getD_some]<;>exact ⟨_,_,rfl,rfl,rfl⟩
       · rw [hn _ hk];exact ⟨_,_,rfl,rfl,rfl⟩
      rw [hab]
      simp (disch:=try exact DI) only [↓PR,QR,simprocAttr,(Za o6).1,(Za o6).2]
      have e6:Ext w5.drew ((w'.setCell ⟨p6,0,none⟩ a).setCell ⟨p6,1,none⟩ b):=(e'.setCell (show w5.drew.heap.size≤(⟨p6,0,none⟩:Addr).block from hp6) _).setCell (show w5.drew.heap.size≤(⟨p6,1,none⟩:Addr).block from hp6) _
      refine ⟨⟨e6,(hM.setCell _ _).setCell _ _⟩,?_⟩
      have e06:=(e05.trans eD).trans e6
      have o6':=Zw (o:=1) (Zw (o:=0) o6 a) b
      exact R8 e06 (h.ext e06) i hi Yq _ p6 f tv cv (ZW.ext hT e06) (Yh.ext hC e06) ((eD.trans e6).obj o35) L hL a b _ hab rfl (by simpa using o6')
     refine ⟨?_,?_⟩
     · refine Zl (BD _) ?_
       rintro _ w6 ⟨m,L,c,rfl,hm,hM,hL,e6⟩
       refine Vn e6 hM ?_
       have h9:=fin5 (w6.alloc (.cells #[.nilFunc,.nilFunc] 255)) m w6.heap.size c L _ _ (e6.alloc _) (hM.ext ((Ext.refl _).alloc _)) hL (Zz _ _ _) (by have:=e6.size;simpa using this)
       unfold IT at h9
       unfold ZaJ
       simp only [UH]
       haveI:Yn (KM w5.drew m Xn L c):=⟨⟨w6,e6,hM⟩⟩
       rw [WM underlying257 (Ql.int underlying117) FA ⟨w6,e6,hM⟩] at h9 ⊢
       simp (disch:=try exact DI) only [↓PR,QR,simprocAttr]
       simp only [↓Sw.GENQ] at h9
       exact ⟨⟨e6.alloc _,hM.ext ((Ext.refl _).alloc _)⟩,h9⟩
     · refine ⟨(Ext.refl _).alloc _,?_⟩
       refine Zl (BD _) ?_
       rintro _ w6 ⟨m,L,c,rfl,hm,hM,hL,e6⟩
       refine Vn (((Ext.refl _).alloc _).trans e6) hM ?_
       exact fin5 w6 m w5.heap.size c L _ _ (((Ext.refl _).alloc _).trans e6) hM hL (e6.obj (Zz w5.drew _ _)) (Nat.le_refl _)
   · rw [Qh h0]
     exact Ya (e04.trans e5) rfl h0
 · rw [Qh h0]
   exact Ya (e01.trans e2) rfl h0
end
def Yx (f:Zt):List BAr:=if f.kind=7∨f.kind=8∨f.kind=12 then [f.of] else if f.kind=9 then f.cases.map (·.of) else []
def YR (l:List Zt):List BAr:=l.flatMap Yx
abbrev Xi (s:BAr):List Vl:=[.string s]
theorem Vb {w:Wd} {QP:PEn} {k:KV} {base:Nat} {v:Vl} {l:List BAr} (s:BAr) {b:Nat} (je:ZT w base 9 1 Xi v l) (hc:w.cell? ⟨b,0,none⟩=some (.string s)) (Ks:base≤w.heap.size) (hl:l.length≤1048576)
 (hk:∀ v' w',ZT w' base 9 1 Xi v' (l++[s])→w.grownBy w' v.ownBlock→k v' w') :
 opV Pg (Builtin.append_ #[94,94] 94 #[v,.slice (some ⟨b,0,none⟩) 1 1]) QP w k:=by
 have hby:=by9
 refine Wv (l':=[s]) underlying94 ty9 rfl (by decide) (λ _=>rfl) (λ x _ u hu=>by simp at hu;subst hu;rfl) je (λ j x hx=>?_) Ks ?_ (by simp;omega) hk
 · cases j with
   | zero=>
    simp at hx;subst hx
    intro j v hv
    cases j with
    | zero=>simp at hv;subst hv;simpa using hc
    | succ j=>simp at hv
   | succ j=>simp at hx
 · simp only [List.length_cons,List.length_nil]
   exact Nat.le_trans (Nat.mul_le_mul (Nat.add_le_add_right hl 1) hby) (by decide)
def XV (w:Wd) (pb:Nat) (sv:Vl) (l:List BAr):Prop:=w.cell? ⟨pb,0,none⟩=some sv∧Zd w 1 GQ sv l∧∀ A m c,sv = .slice (some A) m c→pb < A.block
theorem XV.ext {w w':Wd} {pb:Nat} {sv:Vl} {l:List BAr} (h:XV w pb sv l) (e:Ext w w'):XV w' pb sv l:=⟨e.cell h.1,h.2.1.ext JE e,h.2.2⟩
theorem xm {w0 w:Wd} {QP:PEn} {ku:WPr} {pb lo p:Nat} {sv:Vl} {l:List BAr} (s:BAr) {T T':TypeId} (hp:p=w.heap.size) (e:Ext w0 w) (h0:w0.heap.size≤pb) (hlo:pb < lo) (o3:w.heap[pb]?=some (.cells #[sv] T (0,0))) (hO:ZT w lo 9 1 Xi sv l) (hs:lo≤w.heap.size) (hl:l.length≤1048576)
 (hk:∀ w' sv',Ext w0 w'→w'.heap[pb]?=some (.cells #[sv'] T (0,0))→ZT w' lo 9 1 Xi sv' (l++[s])→lo≤w'.heap.size→ku w') :
 opV Pg (Builtin.append_ #[94,94] 94 #[sv,.slice (some ⟨p,0,none⟩) 1 1]) QP (w.alloc (.cells #[.string s] T')) (λ t w=>opU Pg (storeAt 94 (.pointer (some ⟨pb,0,none⟩)) t) QP w ku):=by
 subst hp
 have l3:pb < w.heap.size:=(Array.getElem?_eq_some_iff.1 o3).1
 have o3':=((Ext.refl w).alloc (.cells #[.string s] T')).obj o3
 refine Vb s (hO.ext ((Ext.refl w).alloc _)) (by rw [Qp];rfl) (Nat.le_trans hs (by simp)) hl ?_
 intro v' w' hO' hg
 have YW:some pb≠sv.ownBlock:=by
  intro h
  have:=hO.lt pb h.symm
  omega
 have o3w:w'.heap[pb]?=some (.cells #[sv] T (0,0)):=by rw [hg.block pb (by simp;omega) YW];exact o3'
 have eg:Ext w0 w':=(e.alloc _).grown hg (λ k hk=>by have:=hO.lt k hk;omega)
 have hv:=(hO'.slice (E:=GQ) (λ _=>rfl) (λ _ _=>rfl)).oneCell
 rw [BY SU hv ((Za o3w).1 0) ((Za o3w).2 0)]
 refine hk _ v' (eg.setCell h0 _) ?_ ((hO'.range.only (YH.setCell w' pb 0 v') (.inr (.inl hlo))).1) ?_
 · have:=Zw (o:=0) o3w v'
   simpa using this
 · have:=hg.size
   simp at this ⊢
   omega
theorem qG (w0:Wd) (v:Vl) (m:Y8) (hm:QV w0 v m) (hb:(YR m.fields).length≤1048576) :
 Ret Pg 162 #[v] w0 λ r w'=>∃ pb sv,r = .func (.func 198) #[] #[.pointer (some ⟨pb,0,none⟩)]∧XV w' pb sv (YR m.fields)∧w0.heap.size≤pb∧Ext w0 w':=by
 obtain ⟨fv,rfl,hF⟩:=hm
 obtain ⟨A,c,rfl,hlc,hcm,hlm,YV⟩:=Zd.open hF
 refine Zhv (R:=ZJ _) ?_;unfold n65
 simp (disch:=try exact DI) only [↓PR,QR,simprocAttr]
 generalize hW:World.alloc (World.alloc w0 _) _=W
 have e0:Ext w0 W:=by rw [← hW];exact ee
 have JA:W.heap.size=w0.heap.size+1+1:=by rw [← hW];simp only [World.size_alloc]
 have o3:W.heap[w0.heap.size+1]?=some (.cells #[.slice none 0 0] 94 (0,0)):=by rw [← hW];simp (disch:=try exact DI) only [↓PR,QR,simprocAttr]
 clear hW
 refine ZQ (λ a0 w=>∃ (k:Nat) , a0 = .int .i64 (k:Int)∧k≤m.fields.length∧Ext w0 w∧(∃ sv,w.heap[w0.heap.size+1]?=some (.cells #[sv] 94 (0,0))∧ZT w W.heap.size 9 1 Xi sv (YR (m.fields.take k))∧W.heap.size≤w.heap.size)) (λ a0 _=>m.fields.length - (intOf a0).toNat) ⟨0,rfl,Nat.zero_le _,ee,⟨_,o3,ZT.nil _ _ _ _ _,Nat.le_refl _⟩⟩ ?_
 rintro _ w ⟨k,rfl,hk,e,hI⟩
 have se:=e.size
 rcases ZY hk with ⟨x,hx,hd,Yq,Z5⟩ | ⟨hk,hd,Z5⟩
 · obtain ⟨sv,o3,hO,hsW⟩:=hI
   obtain ⟨b,o,cs,rfl,hl,hA,hE⟩:=YV k x hx
   obtain ⟨tv,cv,rfl,hT,hC,ht1,hc1⟩:=hE.op
   have hpre:(YR (m.fields.take (k+1)))=YR (m.fields.take k)++Yx x:=by unfold YR;rw [Qe hx,List.flatMap_append];simp
   have hle:(YR (m.fields.take (k+1))).length≤1048576:=by
    refine Nat.le_trans ?_ hb
    have:m.fields=m.fields.take (k+1)++m.fields.drop (k+1):=(List.take_append_drop _ _).symm
    conv=>rhs;rw [this]
    unfold YR
    rw [List.flatMap_append,List.length_append]
    omega
   rw [hpre,List.length_append] at hle
   have hsv:=(hO.slice (E:=GQ) (λ _=>rfl) (λ _ _=>rfl)).oneCell
   simp (disch:=try exact DI) only [↓PR,QR,simprocAttr,↓xM,↓xN,↓xO,↓zf,↓J1,↓xP,↓xQ,Z5,hA.c15]
   generalize hW1:World.alloc w _=w1
   have e1:Ext w w1:=by rw [← hW1];exact ee
   have o5:w1.heap[w.heap.size]?=some (.cells (Zv x tv cv).toArray 123 (0,0)):=by rw [← hW1];simp (disch:=try exact DI) only [↓PR,QR,simprocAttr]
   clear hW1
   have s1:=e1.size
   have e01:=e.trans e1
   have o31:=e1.obj o3
   have hO1:=hO.ext e1
   have l5:w.heap.size < w1.heap.size:=(Array.getElem?_eq_some_iff.1 o5).1
   have l3:w0.heap.size+1 < w1.heap.size:=(Array.getElem?_eq_some_iff.1 o31).1
   by_cases hr:x.kind=7∨x.kind=8∨x.kind=12
   · have hrf:Yx x=[x.of]:=by unfold Yx;rw [if_pos hr]
     rw [hrf] at hpre hle
     have key:∀ b,b=true→zf (.pointer (some ⟨w0.heap.size+1,0,none⟩)) (.pointer (some ⟨w.heap.size,0,none⟩)) (.int .i64 (k:Int)) (.int .i64 x.kind) (.bool b) (λ a0' w'=>(∃ k:Nat,a0'=Value.int IntKind.i64 (k:Int)∧k≤m.fields.length∧Ext w0 w'∧∃ sv,w'.heap[w0.heap.size+1]?=some (.cells #[sv] 94 (0,0))∧ZT w' W.heap.size 9 1 Xi sv (YR (m.fields.take k))∧W.heap.size≤w'.heap.size)∧m.fields.length - (intOf a0').toNat < m.fields.length - (intOf (Value.int IntKind.i64 (k:Int))).toNat)
      (ZJ λ r w'=>∃ pb sv,r = .func (.func 198) #[] #[.pointer (some ⟨pb,0,none⟩)]∧XV w' pb sv (YR m.fields)∧w0.heap.size≤pb∧Ext w0 w') w1:=by
      rintro b rfl
      simp (disch:=try exact DI) only [↓PR,QR,simprocAttr,↓xM,↓xN,↓xO,↓zf,↓J1,↓xP,↓xQ,(Za o31).1,(Za o5).1]
      refine xm x.of rfl e01 (by omega) (by omega) o31 hO1 (by omega) (by simp at hle;omega) ?_
      intro w2 sv2 e2 o32 hO2 hs2
      rw [← hpre] at hO2
      simp (disch:=try exact DI) only [↓PR,QR,simprocAttr]
      exact ⟨⟨k+1,rfl,by omega,ee,⟨sv2,o32,hO2,hs2⟩⟩,Yf (kd := .i64) Yq⟩
     simp only [World.size_alloc]
     rcases hr with h | h | h
     · rw [h] at key ⊢
       simp (disch:=try exact DI) only [↓PR,QR,simprocAttr]
       exact key true rfl
     · rw [h] at key ⊢
       simp (disch:=try exact DI) only [↓PR,QR,simprocAttr,↓J1]
       exact key true rfl
     · rw [h] at key ⊢
       simp (disch:=try exact DI) only [↓PR,QR,simprocAttr,↓J1]
       exact key true rfl
   · have h7:(x.kind == 7)=false:=by simp;omega
     have h8:(x.kind == 8)=false:=by simp;omega
     have h12:(x.kind == 12)=false:=by simp;omega
     simp only [World.size_alloc]
     by_cases h9:x.kind=9
     · have h9':(x.kind == 9)=true:=by simp [h9]
       have hrf:Yx x=x.cases.map (·.of):=by unfold Yx;rw [if_neg hr,if_pos h9]
       rw [hrf] at hpre hle
       obtain ⟨A',c',rfl,hlc',hcm',hlm',hel'⟩:=Zd.open hC
       simp (disch:=try exact DI) only [↓PR,QR,simprocAttr,↓xM,↓xN,↓xO,↓zf,↓J1,↓xP,↓xQ,h7,h8,h12,h9',(Za o5).1]
       refine ZQ (λ a0 wa=>∃ (ka:Nat) , a0 = .int .i64 (ka:Int)∧ka≤x.cases.length∧Ext w0 wa∧(∃ sv,wa.heap[w0.heap.size+1]?=some (.cells #[sv] 94 (0,0))∧ZT wa W.heap.size 9 1 Xi sv (YR (m.fields.take k)++(x.cases.take ka).map (·.of))∧W.heap.size≤wa.heap.size)) (λ a0 _=>x.cases.length - (intOf a0).toNat) ⟨0,rfl,Nat.zero_le _,ee,⟨sv,o31,by simpa using hO1,by omega⟩⟩ ?_
       rintro _ wa ⟨ka,rfl,hka,ea,hIa⟩
       have sea:=ea.size
       rcases ZY hka with ⟨xa,hxa,hda,hlta,Nz⟩ | ⟨hka,hda,Nz⟩
       · obtain ⟨sva,oa,hOa,hsa⟩:=hIa
         obtain ⟨b',o',cs',rfl,_,hA',rfl⟩:=hel' ka xa hxa
         have la:w0.heap.size+1 < wa.heap.size:=(Array.getElem?_eq_some_iff.1 oa).1
         have oa':=((Ext.refl wa).alloc (.cells #[.int .i64 xa.low,.int .i64 xa.high,.string xa.of] 213)).obj oa
         have hla:(x.cases.take ka).length≤x.cases.length:=by rw [List.length_take];omega
         simp (disch:=try exact DI) only [↓PR,QR,simprocAttr,↓xM,↓xN,↓xO,↓zf,↓J1,↓xP,↓xQ,Nz,hA'.c3,(Za oa').1,(Za oa).1]
         refine xm xa.of (by simp only [World.size_alloc]) (ea.alloc _) (by omega) (by omega) oa' (hOa.ext ((Ext.refl wa).alloc _)) (by simp;omega) (by simp at hle hla ⊢;omega) ?_
         intro w2 sv2 e2 o32 hO2 hs2
         simp (disch:=try exact DI) only [↓PR,QR,simprocAttr]
         have hO3:ZT w2 W.heap.size 9 1 Xi sv2 (YR (m.fields.take k)++(x.cases.take (ka+1)).map (·.of)):=by
          rw [Qe hxa,List.map_append,← List.append_assoc];exact hO2
         exact ⟨⟨ka+1,rfl,by omega,ee,⟨sv2,o32,hO3,hs2⟩⟩,Yf (kd := .i64) hlta⟩
       · subst hka
         obtain ⟨sva,oa,hOa,hsa⟩:=hIa
         rw [List.take_length,← hpre] at hOa
         simp (disch:=try exact DI) only [↓PR,QR,simprocAttr,↓xM,↓xN,↓xO,↓zf,↓J1,↓xP,↓xQ,Nz]
         exact ⟨⟨k+1,rfl,by omega,ee,⟨sva,oa,hOa,hsa⟩⟩,Yf (kd := .i64) Yq⟩
     · have h9':(x.kind == 9)=false:=by simp;omega
       have hrf:Yx x=[]:=by unfold Yx;rw [if_neg hr,if_neg h9]
       rw [hrf,List.append_nil] at hpre
       rw [← hpre] at hO1
       simp (disch:=try exact DI) only [↓PR,QR,simprocAttr,↓xM,↓xN,↓xO,↓zf,↓J1,↓xP,↓xQ,h7,h8,h12,h9',(Za o5).1]
       exact ⟨⟨k+1,rfl,by omega,ee,⟨sv,o31,hO1,by omega⟩⟩,Yf (kd := .i64) Yq⟩
 · subst hk
   obtain ⟨sv,o3,hO,hsW⟩:=hI
   rw [List.take_length] at hO
   simp (disch:=try exact DI) only [↓PR,QR,simprocAttr,↓xM,↓xN,↓xO,↓zf,↓J1,↓xP,↓xQ,Z5]
   have hS:=hO.slice (E:=GQ) (λ _=>rfl) (λ _ _=>rfl)
   exact ⟨_,sv,rfl,⟨(Za o3).1 0,hS,λ A m c e=>by subst e;have:=hO.lt A.block rfl;omega⟩,by omega,e⟩
theorem zE (w0:Wd) (v:Vl) (l:List BAr) (s:BAr) (hs:Zd w0 1 GQ v l) :
 Ret Pg 167 #[v,.string s] w0 λ r w'=>r = .int .i64 (idx (λ y=>decide (s=y)) l)∧Ext w0 w':=by
 obtain ⟨A,c,rfl,hlc,hcm,hlm,YV⟩:=Zd.open hs
 refine Zeb (R:=ZJ _) ?_;unfold Zea
 simp (disch:=try exact DI) only [↓PR,QR,simprocAttr]
 refine ZQ (λ a0 w=>∃ (k:Nat) , a0 = .int .i64 (k:Int)∧k≤l.length∧Ext w0 w∧∀ (j:Nat) y,j < k→l[j]?=some y→decide (s=y)=false) (λ a0 _=>l.length - (intOf a0).toNat) ⟨0,rfl,Nat.zero_le _,ee,λ j y h=>by omega⟩ ?_
 rintro _ w ⟨k,rfl,hk,e,hI⟩
 have se:=e.size
 rcases ZY hk with ⟨x,hx,hd,Yq,Z5⟩ | ⟨hk,hd,Z5⟩
 · obtain ⟨b,o,cs,rfl,hl,hA,rfl⟩:=YV k x hx
   simp (disch:=try exact DI) only [↓PR,QR,simprocAttr,Z5,hA.c1,↓Hh]
   cases hp:decide (s=x) with
   | true=>
    simp (disch:=try exact DI) only [↓PR,QR,simprocAttr]
    exact ⟨by rw [QJ hx hp hI],e⟩
   | false=>
    simp (disch:=try exact DI) only [↓PR,QR,simprocAttr]
    exact ⟨⟨k+1,rfl,by omega,ee,before_succ hI hx hp⟩,Yf (kd := .i64) Yq⟩
 · subst hk
   simp (disch:=try exact DI) only [↓PR,QR,simprocAttr,Z5,↓Hh]
   exact ⟨by rw [QK λ j y hy=>hI j y (List.getElem?_eq_some_iff.1 hy).1 hy],e⟩
theorem QF (w0:Wd) (v:Vl) (l:List BAr) (s:BAr) (hs:Zd w0 1 GQ v l) :
 Ret Pg 142 #[v,.string s] w0 λ r w'=>r = .bool (l.any λ y=>decide (s=y))∧Ext w0 w':=by
 refine ZdN (R:=ZJ _) ?_;unfold ZdM
 refine Zl (zE _ _ l s hs) ?_
 rintro r w' ⟨rfl,e⟩
 simp (disch:=try exact DI) only [↓PR,QR,simprocAttr,Sw.joinK_eq]
 exact ⟨by rw [W4],e⟩
def ZV:List BAr→List BAr→List BAr
 | _,[]=>[]
 | seen,s::l=>if seen.any (λ y=>decide (s=y)) then ZV (seen++[s]) l else s::ZV (seen++[s]) l
def MD (l:List BAr) (k:Nat):Vl:=match l[k]? with
 | some s => .string s
 | none=>undef
theorem FH (pb:Nat) (sv:Vl) (l:List BAr):Is Pg 198 #[.pointer (some ⟨pb,0,none⟩)] (ZV [] l).length (MD (ZV [] l)) (λ w=>XV w pb sv l):=by
 intro yv J Jx Jp w hFP hJe hJx XG h0
 obtain ⟨hc,hT,_⟩:=hFP 0 w h0
 obtain ⟨A,c,rfl,hlc,hcm,hlm,YV⟩:=Zd.open hT
 refine Zek (t0:=yv) (t1 := .pointer (some ⟨pb,0,none⟩)) ?_
 unfold n66
 simp (disch:=try exact DI) only [↓PR,QR,simprocAttr,hc]
 refine ZQ (λ i w=>∃ k j:Nat,i = .int .i64 k∧k≤l.length∧J j w∧j≤(ZV [] l).length∧(ZV [] l).drop j=ZV (l.take k) (l.drop k)) (λ i _=>l.length - (intOf i).toNat) ⟨0,0,rfl,by omega,h0,by omega,rfl⟩ ?_
 rintro i w' ⟨k,j,rfl,hk,hJ,hj,hD⟩
 rcases ZY hk with ⟨x,hx,hd,Yq,Z5⟩ | ⟨hk,hd,Z5⟩
 · obtain ⟨hc',hT',_⟩:=hFP j w' hJ
   obtain ⟨A',c',hv,_,hcm',_,hel'⟩:=Zd.open hT'
   injection hv with hv _ hv'
   subst hv hv'
   obtain ⟨b,o,cs,rfl,hl,hA,rfl⟩:=hel' k x hx
   have er:=Ext.refl w'
   rw [hd] at hD
   simp only [ZV] at hD
   simp (disch:=try exact DI) only [↓PR,QR,simprocAttr,↓Uq,↓Ur,Z5,hA.c1,hc']
   rw [Vv underlying94 ty9 b o l.length c .i64 k (by omega)]
   have XA:(l.take k).length=k:=by rw [List.length_take];omega
   have hpre:Zd w' 1 GQ (.slice (some ⟨b,o,none⟩) k c) (l.take k):=by
    refine ⟨_,c,by rw [XA],by rw [XA];omega,hcm,λ _=>⟨b,o,rfl,λ i y hy=>?_⟩⟩
    rw [List.getElem?_take] at hy
    split at hy
    · obtain ⟨b',o',cs,hA',h1,h2,h3⟩:=hel' i y hy
      injection hA' with hA'
      injection hA' with h5 h6
      subst h5 h6
      exact ⟨cs,h1,h2,h3⟩
    · cases hy
   refine zcr (QF w' _ _ x hpre) λ w2 e2=>?_
   have hJ2:=hJe j w' w2 hJ e2
   have htk:l.take (k+1)=l.take k++[x]:=Qe hx
   cases hany:(l.take k).any (λ y=>decide (x=y)) with
   | true=>
    rw [hany,if_pos rfl,← htk] at hD
    simp (disch:=try exact DI) only [↓PR,QR,simprocAttr,↓Uq,↓Ur]
    exact ⟨⟨k+1,j,rfl,by omega,hJ2,hj,hD⟩,Yf (kd := .i64) Yq⟩
   | false=>
    rw [hany,if_neg (by simp),← htk] at hD
    have LN:j < (ZV [] l).length:=by
     have:=congrArg List.length hD
     simp at this
     omega
    have hxj:(ZV [] l)[j]?=some x:=by
     have:=congrArg (λ l=>l[0]?) hD
     simpa using this
    have hD2:(ZV [] l).drop (j+1)=ZV (l.take (k+1)) (l.drop (k+1)):=by
     rw [← List.tail_drop,hD];rfl
    have hs:=XG j LN w2 hJ2
    rw [show MD (ZV [] l) j = .string x by unfold MD;rw [hxj]] at hs
    simp (disch:=try exact DI) only [↓PR,QR,simprocAttr,↓Uq,↓Ur]
    refine UF hs (λ ch w h=>h) ?_
    rintro v w3 (⟨rfl,h2⟩ | ⟨rfl,h2⟩)
    · simp (disch:=try exact DI) only [↓PR,QR,simprocAttr,↓Uq,↓Ur]
      exact ⟨⟨k+1,j+1,rfl,by omega,h2,LN,hD2⟩,Yf (kd := .i64) Yq⟩
    · simp (disch:=try exact DI) only [↓PR,QR,simprocAttr,↓Uq,↓Ur]
      exact .inr h2
 · subst hk
   simp (disch:=try exact DI) only [↓PR,QR,simprocAttr,↓Uq,↓Ur,Z5]
   rw [hd] at hD
   have LN:j=(ZV [] l).length:=by
    have:=congrArg List.length hD
    simp [ZV] at this
    omega
   rw [← LN]
   exact .inl hJ
end Go.Proofs.YtgalpdihjbinjaaGreatDoor
namespace Go.Sw
open Go.RowKit (Below)
theorem ZT.grown {α:Type} {w w':Wd} {lo n:Nat} {T:TypeId} {enc:α→List Vl} {v:Vl} {l:List α} {row:Option Nat} (h:ZT w lo T n enc v l) (hg:w.grownBy w' row) (YW:∀ b,v.ownBlock=some b→row≠some b):ZT w' lo T n enc v l:=by
 obtain ⟨h1,h2⟩:=h
 refine ⟨h1,?_⟩
 rcases h2 with h2 | ⟨g,cap,cur,hv,hb,hc,h3⟩
 · exact .inl h2
 · refine .inr ⟨g,cap,cur,hv,hb,?_,h3⟩
   rw [hg.block g (Array.getElem?_eq_some_iff.1 hc).1 (λ e=>YW g (by rw [hv];rfl) e.symm)]
   exact hc
end Go.Sw
namespace Go.Proofs.YtgalpdihjbinjaaGreatDoor
open Sw
open Go.RowKit (intOf Below)
theorem zX:∀ (l seen:List BAr) (s:BAr),s∈ZV seen l↔s∈l∧s ∉ seen
 | [],seen,s=>by simp [ZV]
 | a::l,seen,s=>by
  simp only [ZV]
  by_cases h:(seen.any λ y=>decide (a=y))=true
  · rw [if_pos h,zX l]
    have ha:a∈seen:=by obtain ⟨y,h1,h2⟩:=List.any_eq_true.1 h;simp at h2;subst h2;exact h1
    simp only [List.mem_append,List.mem_singleton,List.mem_cons,not_or]
    constructor
    · rintro ⟨h1,h2,h3⟩;exact ⟨.inr h1,h2⟩
    · rintro ⟨h1 | h1,h2⟩
      · subst h1;exact absurd ha h2
      · exact ⟨h1,h2,⟨λ (e:s=a)=>h2 (e ▸ ha),by simp⟩⟩
  · rw [if_neg h]
    have ha:a ∉ seen:=λ h2=>h (List.any_eq_true.2 ⟨a,h2,by simp⟩)
    simp only [List.mem_cons,zX l,List.mem_append,List.mem_singleton,not_or]
    by_cases e:s=a
    · subst e;simp [ha]
    · simp [e]
abbrev Ue (w:Wd) (base:Nat) (v:Vl) (l:List BAr):Prop:=ZT w base 9 1 Xi v l
def Ev (c d e f g b:Vl) (a:WPr) (Ja:KV) (R:RT) (w:Wd):Prop:=
 qV Pg a (loadAt 43 g) λ h=>
 qV Pg a (loadAt 74 e) λ i=>
 qV Pg a (loadAt 74 f) λ j=>
 qV Pg a (fieldAt 60 d 2) λ k=>
 qV Pg a (loadAt 58 k) λ l=>
 qV Pg a (Instr.sliceAt 58 l none (some b) none) λ m=>
 Zg Pg 77 #[c,h,i,j,m] (Zb R) w λ o w=>
 a w∧(
 opV Pg (Zh .add 3 true b (.int .i64 1)) (Zb R) w λ n w=>
 Ja n w)
def IN (a b c d:Vl) (j9:KV) (R:RT) (w:Wd):Prop:=
 ZD c (.bool true) d λ e=>
 Zg Pg 33 #[a,e,(.int .i64 10)] (Zb R) w λ g w=>
 opV Pg (Zh .add 3 true b (.int .i64 1)) (Zb R) w λ f w=>
 j9 f w
def Ew (d e f b:Vl) (j9:KV) (R:RT) (w:Wd):Prop:=
 Zq (λ (a:Vl) (w:Wd)=>
 IN d f b a j9 R w) λ c=>
 Zp b false (
 opV Pg (loadAt 123 e) (Zb R) w λ g w=>
 Zg Pg 68 #[g] (Zb R) w λ h w=>
 opV Pg (Zh .eql 124 true h (.int .i64 0)) (Zb R) w λ a w=>
 c a w) (
 c undef w)
def Ex (c d e b:Vl) (j9:KV) (R:RT) (w:Wd):Prop:=
 opV Pg (indexAt 72 e b) (Zb R) w λ f w=>
 opV Pg (loadAt 123 f) (Zb R) w λ g w=>
 opV Pg (Instr.alloc 123 true (.tuple #[])) (Zb R) w λ a w=>
 opU Pg (storeAt 123 a g) (Zb R) w λ w=>
 opV Pg (fieldAt 60 d 2) (Zb R) w λ h w=>
 opV Pg (loadAt 58 h) (Zb R) w λ i w=>
 opV Pg (makeFunc (.func 79) #[] #[a]) (Zb R) w λ j w=>
 Zg Pg 78 #[i,j] (Zb R) w λ k w=>
 Ew c a b k j9 R w
def BH (a d e:Vl) (R:RT) (w:Wd):Prop:=
 opN Pg (YL a) (Zb R) w λ f w=>
 opV Pg (fieldAt 81 f 4) (Zb R) w λ g w=>
 opU Pg (storeAt 3 g (.int .i64 (-1))) (Zb R) w λ w=>
 opV Pg (fieldAt 74 e 1) (Zb R) w λ h w=>
 opV Pg (loadAt 72 h) (Zb R) w λ b w=>
 opV Pg (Builtin.len_ #[72] 3 #[b]) (Zb R) w λ i w=>
 Xd (λ c w j9=>
 opV Pg (Zh .lss 3 false c i) (Zb R) w λ j w=>
 Zu j (
 Ex a d b c j9 R w) (
 R (.returned (.tuple #[])) w)) (.int .i64 0) w
def Ey (b d e f g a:Vl) (Ja:KV) (R:RT) (w:Wd):Prop:=
 opV Pg (indexAt 58 g a) (Zb R) w λ h w=>
 opV Pg (loadAt 43 h) (Zb R) w λ i w=>
 opV Pg (Instr.alloc 43 true (.tuple #[])) (Zb R) w λ c w=>
 opU Pg (storeAt 43 c i) (Zb R) w λ w=>
 opN Pg (YL b) (Zb R) w λ j w=>
 opV Pg (fieldAt 81 j 4) (Zb R) w λ k w=>
 opU Pg (storeAt 3 k a) (Zb R) w λ w=>
 Ye w λ l w=>
 Ev b d e f c a l Ja R w
def BI (b a f c:Vl) (R:RT) (w:Wd):Prop:=
 opV Pg (fieldAt 60 a 2) (Zb R) w λ g w=>
 opV Pg (loadAt 58 g) (Zb R) w λ d w=>
 opV Pg (Builtin.len_ #[58] 3 #[d]) (Zb R) w λ h w=>
 Xd (λ e w Ja=>
 opV Pg (Zh .lss 3 false e h) (Zb R) w λ i w=>
 Zu i (
 Ey b a f c d e Ja R w) (
 BH b a c R w)) (.int .i64 0) w
def Ez (a d e f b:Vl) (c:WPr) (R:RT) (w:Wd):Prop:=
 qV Pg c (Instr.extract b 0) λ g=>
 qV Pg c (Instr.extract b 1) λ l=>
 opN Pg (YL a) (Zb R) w λ h w=>
 opV Pg (fieldAt 81 h 3) (Zb R) w λ i w=>
 opV Pg (loadAt 3 i) (Zb R) w λ j w=>
 opV Pg (Zh .eql 3 false g j) (Zb R) w λ k w=>
 Zg Pg 33 #[a,k,(.int .i64 4)] (Zb R) w λ m w=>
 BI a d e f R w
def EA (b c d e:Vl) (a:WPr) (R:RT) (w:Wd):Prop:=
 qN Pg a (YL b) λ f=>
 qV Pg a (fieldAt 81 f 0) λ g=>
 qV Pg a (loadAt 24 g) λ h=>
 qV Pg a (fieldAt 60 c 0) λ i=>
 qV Pg a (loadAt 9 i) λ j=>
 Zg Pg 20 #[h,j] (Zb R) w λ k w=>
 a w∧(
 Ez b c d e k a R w)
def yK (a d e b f g:Vl) (R:RT) (w:Wd):Prop:=
 Zq (λ (h:Vl) (w:Wd)=>
 ZD b h (.bool false) λ i=>
 Zg Pg 33 #[a,i,(.int .i64 3)] (Zb R) w λ k w=>
 Ye w λ j w=>
 EA a d e f j R w) λ c=>
 Zp b true (
 c g w) (
 c undef w)
def jK (b:Vl) (a:WPr) (d:KW) (R:RT) (w:Wd):Prop:=
 qV Pg a (Instr.extract b 0) λ e=>
 qV Pg a (Instr.extract b 1) λ f=>
 opV Pg (Instr.alloc 74 true (.tuple #[])) (Zb R) w λ c w=>
 a w∧(
 opU Pg (storeAt 74 c e) (Zb R) w λ w=>
 a w∧(
 d c f w))
def jL (b c:Vl) (a:WPr) (d:KW) (R:RT) (w:Wd):Prop:=
 a w∧(
 qV Pg a (Instr.extract c 0) λ e=>
 qV Pg a (Instr.extract c 1) λ f=>
 opU Pg (storeAt 74 b e) (Zb R) w λ w=>
 a w∧(
 d b f w))
def yL (d e i j:Vl) (a:WPr) (R:RT) (w:Wd):Prop:=
 qN Pg a (YL d) λ k=>
 qV Pg a (fieldAt 81 k 2) λ l=>
 qV Pg a (loadAt 27 l) λ f=>
 qV Pg a (fieldAt 60 e 1) λ m=>
 qV Pg a (loadAt 9 m) λ g=>
 Zq (λ (b:Vl) (n:Vl) (w:Wd)=>
 yK d e i j b n R w) λ h=>
 (
 Zg Pg 76 #[f,g] (Zb R) w λ c w=>
 a w∧(
 jK c a h R w))∧(
 opV Pg (Instr.alloc 74 true (.tuple #[])) (Zb R) w λ b w=>
 a w∧(
 Zg Pg 76 #[f,g] (Zb R) w λ c w=>
 jL b c a h R w))
def jM (b:Vl) (a:WPr) (d:KW) (R:RT) (w:Wd):Prop:=
 qV Pg a (Instr.extract b 0) λ e=>
 qV Pg a (Instr.extract b 1) λ f=>
 opV Pg (Instr.alloc 74 true (.tuple #[])) (Zb R) w λ c w=>
 a w∧(
 opU Pg (storeAt 74 c e) (Zb R) w λ w=>
 a w∧(
 d c f w))
def jN (b c:Vl) (a:WPr) (d:KW) (R:RT) (w:Wd):Prop:=
 a w∧(
 qV Pg a (Instr.extract c 0) λ e=>
 qV Pg a (Instr.extract c 1) λ f=>
 opU Pg (storeAt 74 b e) (Zb R) w λ w=>
 a w∧(
 d b f w))
def jO (d e:Vl) (a:WPr) (R:RT) (w:Wd):Prop:=
 qN Pg a (YL d) λ i=>
 qV Pg a (fieldAt 81 i 1) λ j=>
 qV Pg a (loadAt 27 j) λ f=>
 qV Pg a (fieldAt 60 e 0) λ k=>
 qV Pg a (loadAt 9 k) λ g=>
 Zq (λ (b:Vl) (l:Vl) (w:Wd)=>
 Ye w λ m w=>
 yL d e b l m R w) λ h=>
 (
 Zg Pg 76 #[f,g] (Zb R) w λ c w=>
 a w∧(
 jM c a h R w))∧(
 opV Pg (Instr.alloc 74 true (.tuple #[])) (Zb R) w λ b w=>
 a w∧(
 Zg Pg 76 #[f,g] (Zb R) w λ c w=>
 jN b c a h R w))
def n26 (a b:Vl) (R:RT) (w:Wd):Prop:=
 opV Pg (Instr.box 60 b) (Zb R) w λ c w=>
 Ye w λ d w=>
 jO a c d R w
set_option maxHeartbeats 40000000 in
theorem ZgS {t0 t1:Vl} {R:RT} {w:Wd} (h:n26 t0 t1 R w):Calls Pg 36 #[t0,t1] w R:=by
 refine yD func36 ?_
 refine zs<|zr<|yv h λ _ w h=>zn<|zk<|zs<|yh [4,5,15,16,17,18,19,20,21,22,23,24] h λ C hC h=>yw 0 hC ?_
 refine yn 1 hC h λ _ h=>?_
 refine ye 2 hC h λ _ h=>?_
 refine ye 3 hC h λ _ h=>?_
 refine ye 4 hC h λ _ h=>?_
 refine ye 5 hC h λ _ h=>?_
 refine Qr h (λ K2 hK h=>?_)
 refine Q5 [4,5,15,22,23,24] (λ ρ w=>K2 (ρ 4) (ρ 5) w) (λ T hT=>?_) (λ σ w h=>?_)
 · obtain ⟨h0,h1⟩:=h
   refine Y7 6 10 rfl rfl (by kernel_rfl) (λ _ _=>rfl) (λ _ _=>rfl) ?_ ?_
   · have h:=h0
     refine yc h c76 λ _ w h=>zn ?_
     obtain ⟨hC,h⟩:=h
     refine ⟨_,λ _ h=>h,hC,?_⟩
     refine yw 7 hC ?_
     refine ye 8 hC h λ _ h=>?_
     refine ye 9 hC h λ _ h=>?_
     refine yo 10 ?_
     refine yv h λ _ w h=>zn ?_
     obtain ⟨hC,h⟩:=h
     refine ⟨hC,?_⟩
     refine yo 11 ?_
     refine yu h λ w h=>zn ?_
     obtain ⟨hC,h⟩:=h
     refine ⟨hC,?_⟩
     refine yw 12 hC ?_
     refine yz ?_
     exact zt hT h
   have h:=h1
   refine yv h λ _ w h=>zn ?_
   obtain ⟨hC,h⟩:=h
   refine ⟨_,λ _ h=>h,hC,?_⟩
   refine yo 6 ?_
   refine yc h c76 λ _ w h=>zn ?_
   obtain ⟨hC,h⟩:=h
   refine ⟨hC,?_⟩
   refine yw 7 hC ?_
   refine ye 8 hC h λ _ h=>?_
   refine ye 9 hC h λ _ h=>?_
   refine yo 11 ?_
   refine yu h λ w h=>zn ?_
   obtain ⟨hC,h⟩:=h
   refine ⟨hC,?_⟩
   refine yw 12 hC ?_
   refine yz ?_
   exact zt hT h
 subst hK
 refine zk<|zs<|yh [6,7,25,26,27,28,29,30,31,32,33,34] h λ C hC h=>yw 0 hC ?_
 refine yn 1 hC h λ _ h=>?_
 refine ye 2 hC h λ _ h=>?_
 refine ye 3 hC h λ _ h=>?_
 refine ye 4 hC h λ _ h=>?_
 refine ye 5 hC h λ _ h=>?_
 refine Qr h (λ K4 hK h=>?_)
 refine Q5 [6,7,25,32,33,34] (λ ρ w=>K4 (ρ 6) (ρ 7) w) (λ T hT=>?_) (λ σ w h=>?_)
 · obtain ⟨h0,h1⟩:=h
   refine Y7 6 10 rfl rfl (by kernel_rfl) (λ _ _=>rfl) (λ _ _=>rfl) ?_ ?_
   · have h:=h0
     refine yc h c76 λ _ w h=>zn ?_
     obtain ⟨hC,h⟩:=h
     refine ⟨_,λ _ h=>h,hC,?_⟩
     refine yw 7 hC ?_
     refine ye 8 hC h λ _ h=>?_
     refine ye 9 hC h λ _ h=>?_
     refine yo 10 ?_
     refine yv h λ _ w h=>zn ?_
     obtain ⟨hC,h⟩:=h
     refine ⟨hC,?_⟩
     refine yo 11 ?_
     refine yu h λ w h=>zn ?_
     obtain ⟨hC,h⟩:=h
     refine ⟨hC,?_⟩
     refine yw 12 hC ?_
     refine yz ?_
     exact zt hT h
   have h:=h1
   refine yv h λ _ w h=>zn ?_
   obtain ⟨hC,h⟩:=h
   refine ⟨_,λ _ h=>h,hC,?_⟩
   refine yo 6 ?_
   refine yc h c76 λ _ w h=>zn ?_
   obtain ⟨hC,h⟩:=h
   refine ⟨hC,?_⟩
   refine yw 7 hC ?_
   refine ye 8 hC h λ _ h=>?_
   refine ye 9 hC h λ _ h=>?_
   refine yo 11 ?_
   refine yu h λ w h=>zn ?_
   obtain ⟨hC,h⟩:=h
   refine ⟨hC,?_⟩
   refine yw 12 hC ?_
   refine yz ?_
   exact zt hT h
 subst hK
 refine zk<|zs<|Zr<|yG 3<|zm<|zm<|zm<|zn<|yg1 1 2 true [38] 38 h (λ _ T hT h=>?_) λ σ w h=>?_
 · refine zm<|zn ?_
   exact zt hT h
 refine yG 2<|yp h λ _ h=>yc h c33 λ _ w h=>zn<|ZK<|zk<|zs<|yh [8,9,41,42,43,44,45,46,47,48,49,50] h λ C hC h=>yw 0 hC ?_
 refine yn 1 hC h λ _ h=>?_
 refine ye 2 hC h λ _ h=>?_
 refine ye 3 hC h λ _ h=>?_
 refine ye 4 hC h λ _ h=>?_
 refine ye 5 hC h λ _ h=>?_
 refine yo 6 ?_
 refine yc h c20 λ _ w h=>zn ?_
 obtain ⟨hC,h⟩:=h
 refine ⟨hC,?_⟩
 refine yw 7 hC ?_
 refine ye 8 hC h λ _ h=>?_
 refine ye 9 hC h λ _ h=>?_
 refine yw 10 hC ?_
 refine yw 11 hC ?_
 refine yz<|zk<|zs<|zr<|zm<|zm<|zm<|yN h λ _ w h=>yv h λ _ w h=>yv h λ _ w h=>yb h λ _ w h=>yc h c33 λ _ w h=>zn<|zk<|zs ?_
 refine zs<|zr<|yv h λ _ w h=>yv h λ _ w h=>yx h λ _ w h=>zm<|zn<|zk<|Zn<|yl1 [10,11,62,63,64,65,66,67,68,69,70,71,72,73,74,75,76,77,78,79,80] 62 h λ σ w next h=>zs<|zr<|yb h λ _ w h=>zn<|zk ?_
 refine zs<|yC h (λ h=>?_) λ h=>?_
 · refine Zo<|zk<|zs<|Zn<|zs<|zr<|zm<|yv h λ _ w h=>yv h λ _ w h=>yv h λ _ w h=>zm<|yu h λ w h=>zn<|zk<|zs ?_
   refine zr<|zm<|zm<|yN h λ _ w h=>yv h λ _ w h=>yu h λ w h=>zn<|zk<|yh [71,72,73,74,75,76,77,78,79] h λ C hC h=>yw 0 hC ?_
   refine ye 1 hC h λ _ h=>?_
   refine ye 2 hC h λ _ h=>?_
   refine ye 3 hC h λ _ h=>?_
   refine ye 4 hC h λ _ h=>?_
   refine ye 5 hC h λ _ h=>?_
   refine yw 6 hC ?_
   refine ye 7 hC h λ _ h=>?_
   refine yo 8 ?_
   refine yc h c77 λ _ w h=>zn ?_
   obtain ⟨hC,h⟩:=h
   refine ⟨hC,?_⟩
   exact yz<|Zf<|zk<|zr<|yb h λ _ w h=>zm<|zn<|zk<|⟨rfl,h⟩
 refine ZR<|Ze<|Ze<|Zx<|zk<|zs<|zr<|zm<|yN h λ _ w h=>yv h λ _ w h=>yu h λ w h=>zn<|zk<|zs<|zr ?_
 refine yv h λ _ w h=>yv h λ _ w h=>yx h λ _ w h=>zm<|zn<|zk<|Zn<|yl1 [13,14,87,88,89,90,91,92,93,94,95,96,97,98,99,100,101,102,103] 87 h λ σ w next h=>zs<|zr<|yb h λ _ w h=>zn<|zk<|zs<|yC h (λ h=>?_) λ h=>?_
 · refine Zo<|zk<|zs<|Zn<|zs<|zr<|yv h λ _ w h=>yv h λ _ w h=>yv h λ _ w h=>yu h λ w h=>zn<|zk<|zs<|zr<|yv h λ _ w h=>?_
   refine yv h λ _ w h=>yF h λ _ w h=>yc h c78 λ _ w h=>zm<|zn<|zk<|Zr<|yG 3<|zm<|zm<|zm<|zn<|yg1 3 2 false [98,99,100] 100 h (λ _ T hT h=>?_) λ σ w h=>?_
   · refine yv h λ _ w h=>yc h c68 λ _ w h=>yb h λ _ w h=>zn ?_
     exact zt hT h
   exact yG 2<|yp h λ _ h=>yc h c33 λ _ w h=>zn<|ZK<|Zf<|zk<|zr<|yb h λ _ w h=>zm<|zn<|zk<|⟨rfl,h⟩
 exact ZR<|Ze<|Ze<|Zx<|ZH<|ZO rfl h
end Go.Proofs.YtgalpdihjbinjaaGreatDoor
