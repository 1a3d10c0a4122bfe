/-
  Lemmas for the claim.
-/
import Derived.Test.YtfjjgjjlebllmaaGreatQs2
set_option linter.all false
set_option maxHeartbeats 4000000
set_option maxRecDepth 100000
open Go.Instr (loadAt storeAt fieldAt indexAt buildSlice mapUpdate makeFunc)
open Go.Proofs.Tryz
namespace Go.Proofs.YtfjjgjjlebllmaaGreat
open Sw
def Lv (b:Vl) (a:WPr) (R:RT) (w:Wd):Prop:=
 J0 48 b 5 a λ c=>
 I0 3 c a λ d=>
 J0 48 b 5 a λ e=>
 I0 3 e a λ f=>
 R (.returned (.tuple #[d,f])) w
def Lw (b:Vl) (a:WPr) (R:RT) (w:Wd):Prop:=
 J0 48 b 5 a λ c=>
 I0 3 c a λ d=>
 J0 48 b 6 a λ e=>
 I0 3 e a λ f=>
 R (.returned (.tuple #[d,f])) w
def n26 (b:Vl) (R:RT) (w:Wd):Prop:=
 opV Pg (Instr.box 48 b) (Zh R) w λ a w=>
 F0 48 a 1 R w λ c w=>
 L0 42 c R w λ d w=>
 B0 .eql 42 true d (.int .i64 2) R w λ e w=>
 Zq e (
 Yy w λ f w=>
 Lv a f R w) (
 Yy w λ g w=>
 Lw a g R w)
theorem Zh8 {t0:Vl} {R:RT} {w:Wd} (h:n26 t0 R w):Calls Pg 152 #[t0] w R:=by
 refine yD func152 ?_
 refine zs<|zr<|yv h λ _ w h=>zm<|zm<|zn<|zk<|zs<|zs<|zr<|yv h λ _ w h=>yv h λ _ w h=>yb h λ _ w h=>zn<|zk ?_
 refine yC h (λ h=>?_) λ h=>?_
 · refine zs<|yh [2,3,7,8,9,10] h λ C hC h=>ye 0 hC h λ _ h=>?_
   refine ye 1 hC h λ _ h=>?_
   refine ye 2 hC h λ _ h=>?_
   refine ye 3 hC h λ _ h=>?_
   refine yw 4 hC ?_
   refine yw 5 hC ?_
   exact yz<|zk<|Ze<|Zb<|Qe rfl rfl rfl h
 refine Zi<|zk<|zs<|yh [2,3,11,12,13,14] h λ C hC h=>ye 0 hC h λ _ h=>?_
 refine ye 1 hC h λ _ h=>?_
 refine ye 2 hC h λ _ h=>?_
 refine ye 3 hC h λ _ h=>?_
 refine yw 4 hC ?_
 refine yw 5 hC ?_
 exact yz<|zk<|Ze<|Qe rfl rfl rfl h
def qM (a b:Vl) (ZT:KV) (R:RT) (w:Wd):Prop:=
 B0 .lss 3 true b (.int .i64 0) R w λ c w=>
 Zq c (
 R (.returned (.int .i64 8)) w) (
 B0 .add 3 true a (.int .i64 1) R w λ d w=>
 ZT d w)
def qO (a b c d:Vl) (ZT:KV) (R:RT) (w:Wd):Prop:=
 L0 28 b R w λ e w=>
 F0 60 d 2 R w λ f w=>
 L0 9 f R w λ g w=>
 C0 53 #[e,g,a] R w λ h w=>
 qM c h ZT R w
def qP (d e f g b h i:Vl) (ZT:KV) (R:RT) (w:Wd):Prop:=
 Zr (λ (a:Vl) (w:Wd)=>
 Zw b (.bool true) a λ j=>
 Zq j (
 R (.returned (.int .i64 7)) w) (
 qO d e f g ZT R w)) λ c=>
 Zn b false (
 Zw h i (.bool false) λ a=>
 c a w) (
 c undef w)
def qQ (b c d:Vl) (a:WPr) (e:KV) (R:RT) (w:Wd):Prop:=
 J0 60 d 0 a λ f=>
 I0 3 f a λ g=>
 J0 48 b 11 a λ h=>
 I0 46 h a λ i=>
 qV Pg a (ZI .sub 3 true c (.int .i64 1)) λ j=>
 M0 46 i j a λ k=>
 J0 60 k 1 a λ l=>
 I0 3 l a λ m=>
 qV Pg a (ZI .leq 3 false g m) λ n=>
 e n w
def qR (h i j a b k l:Vl) (c:WPr) (ZT:KV) (R:RT) (w:Wd):Prop:=
 Zw k (.bool true) l λ d=>
 Zr (λ (e:Vl) (w:Wd)=>
 Zr (λ (m:Vl) (w:Wd)=>
 qP h i a b d e m ZT R w) λ f=>
 Zn e true (
 qQ j a b c f R w) (
 f undef w)) λ g=>
 Zn d false (
 qV Pg c (ZI .gtr 3 true a (.int .i64 0)) λ n=>
 g n w) (
 g undef w)
def qS (f g h i j c k l:Vl) (a:WPr) (ZT:KV) (R:RT) (w:Wd):Prop:=
 Zw k (.bool true) l λ d=>
 Zr (λ (b:Vl) (w:Wd)=>
 qR f h i j c d b a ZT R w) λ e=>
 Zn d false (
 J0 60 c 1 a λ m=>
 I0 3 m a λ n=>
 qV Pg a (ZI .gtr 3 false n g) λ b=>
 e b w) (
 e undef w)
def yJ (f g h i j k b:Vl) (a:WPr) (ZT:KV) (R:RT) (w:Wd):Prop:=
 J0 60 b 0 a λ l=>
 I0 3 l a λ m=>
 qV Pg a (ZI .lss 3 false m g) λ d=>
 Zr (λ (c:Vl) (w:Wd)=>
 qS f h i j k b d c a ZT R w) λ e=>
 Zn d false (
 J0 60 b 0 a λ n=>
 I0 3 n a λ o=>
 J0 60 b 1 a λ p=>
 I0 3 p a λ q=>
 qV Pg a (ZI .gtr 3 false o q) λ c=>
 e c w) (
 e undef w)
def yK (d e f g a b:Vl) (ZT:KV) (R:RT) (w:Wd):Prop:=
 F0 48 a 11 R w λ h w=>
 L0 46 h R w λ i w=>
 X0 46 i b R w λ j w=>
 L0 60 j R w λ k w=>
 opV Pg (Instr.alloc 60 true (.tuple #[])) (Zh R) w λ c w=>
 S0 60 c k R w λ w=>
 Yy w λ l w=>
 yJ d e f g a b c l ZT R w
def yL (c d e f a b:Vl) (ZT:KV) (R:RT) (w:Wd):Prop:=
 F0 48 a 11 R w λ g w=>
 L0 46 g R w λ h w=>
 G0 46 3 h R w λ i w=>
 B0 .lss 3 false b i R w λ j w=>
 Zq j (
 yK c d e f a b ZT R w) (
 R (.returned (.int .i64 0)) w)
def n30 (e f g h i:Vl) (R:RT) (w:Wd):Prop:=
 opV Pg (Instr.box 28 e) (Zh R) w λ j w=>
 opV Pg (Instr.box 48 g) (Zh R) w λ a w=>
 F0 48 a 11 R w λ k w=>
 L0 46 k R w λ l w=>
 G0 46 3 l R w λ m w=>
 B0 .lss 3 true m (.int .i64 1) R w λ c w=>
 Zr (λ (b:Vl) (w:Wd)=>
 Zw c (.bool true) b λ n=>
 Zq n (
 R (.returned (.int .i64 3)) w) (
 YS (λ o w ZT=>
 yL f h i j a o ZT R w) (.int .i64 0) w)) λ d=>
 Zn c false (
 F0 48 a 11 R w λ p w=>
 L0 46 p R w λ q w=>
 G0 46 3 q R w λ r w=>
 B0 .gtr 3 true r (.int .i64 40) R w λ b w=>
 d b w) (
 d undef w)
set_option maxHeartbeats 40000000 in
theorem Zic {t0 t1 t2 t3 t4:Vl} {R:RT} {w:Wd} (h:n30 t0 t1 t2 t3 t4 R w):Calls Pg 153 #[t0,t1,t2,t3,t4] w R:=by
 refine yD func153 ?_
 refine zs<|zr<|yv h λ _ w h=>yv h λ _ w h=>zm<|zn<|zk<|zs<|zs<|Zu<|yG 5<|yv h λ _ w h=>yv h λ _ w h=>yx h λ _ w h=>yb h λ _ w h=>?_
 refine zm<|zn<|yg1 4 4 false [18,19,20,21] 21 h (λ _ T hT h=>?_) λ σ w h=>?_
 · refine yv h λ _ w h=>yv h λ _ w h=>yx h λ _ w h=>yb h λ _ w h=>zn ?_
   exact zt hT h
 refine yG 1<|yp h λ _ h=>zn<|ZQ<|zk<|yC h (λ h=>zs<|zr<|zm<|zn<|zk<|Ze<|Zb<|Zk rfl rfl h) λ h=>Zi<|zk<|zs<|zs<|zr<|zm<|zn<|zk ?_
 refine Zj<|yl1 [10,11,12,23,24,25,26,27,28,29,30,31,32,33,34,35,36,37,38,39,40,41,42,43,44,45,46,47,48,49,50,51,52,53,54,55,56,57,58,59,60,61,62,63,64,65,66,67,68,69,70,71,72,73] 11 h λ σ w next h=>zs<|zs<|zr<|zm<|yv h λ _ w h=>yv h λ _ w h=>yx h λ _ w h=>yb h λ _ w h=>zn<|zk<|yC h (λ h=>?_) λ h=>?_
 · refine Zi<|zk<|zs<|Zj<|zs<|zr<|yv h λ _ w h=>yv h λ _ w h=>zm<|yv h λ _ w h=>yv h λ _ w h=>yv h λ _ w h=>yu h λ w h=>zn<|zk ?_
   refine zs<|zs<|yh [35,36,37,38,39,40,41,42,43,44,45,46,47,48,49,50,51,52,53,54,55,56,57,58,59,60,61,62,63,64,65,66,67] h λ C hC h=>ye 0 hC h λ _ h=>?_
   refine ye 1 hC h λ _ h=>?_
   refine yw 2 hC ?_
   refine ye 3 hC h λ _ h=>?_
   refine yw 4 hC ?_
   refine yj1 23 [9,8,7,6,5,4,3,2,1,0] [40,41,42,43,44] 44 h (λ _ hT hb h=>?_) (λ _ hT hb h=>?_) λ σ w hC h=>?_
   · refine ye 5 hC h λ _ h=>?_
     refine ye 6 hC h λ _ h=>?_
     refine ye 7 hC h λ _ h=>?_
     refine ye 8 hC h λ _ h=>?_
     refine ye 9 hC h λ _ h=>?_
     exact yt hT hC h
   · refine yi 5 hC ?_
     refine yi 6 hC ?_
     refine yi 7 hC ?_
     refine yi 8 hC ?_
     refine yi 9 hC ?_
     exact yt hT hC h
   refine yP 10 hC h λ _ h=>?_
   refine yw 11 hC ?_
   refine yj1 17 [15,14,13,12,11,10,9,8,7,6,5,4,3,2,1,0] [47,48,49,50] 50 h (λ _ hT hb h=>?_) (λ _ hT hb h=>?_) λ σ w hC h=>?_
   · refine ye 12 hC h λ _ h=>?_
     refine ye 13 hC h λ _ h=>?_
     refine yw 14 hC ?_
     refine ye 15 hC h λ _ h=>?_
     exact yt hT hC h
   · refine yi 12 hC ?_
     refine yi 13 hC ?_
     refine yi 14 hC ?_
     refine yi 15 hC ?_
     exact yt hT hC h
   refine yP 16 hC h λ _ h=>?_
   refine yw 17 hC ?_
   refine yj1 12 [20,19,18,17,16,15,14,13,12,11,10,9,8,7,6,5,4,3,2,1,0] [53,54,55] 55 h (λ _ hT hb h=>?_) (λ _ hT hb h=>?_) λ σ w hC h=>?_
   · refine yw 18 hC ?_
     refine ye 19 hC h λ _ h=>?_
     refine yw 20 hC ?_
     exact yt hT hC h
   · refine yi 18 hC ?_
     refine yi 19 hC ?_
     refine yi 20 hC ?_
     exact yt hT hC h
   refine yj1 2 [30,29,28,27,26,25,24,23,22,21,20,19,18,17,16,15,14,13,12,11,10,9,8,7,6,5,4,3,2,1,0] [56,57,58,59,60,61,62,63,64,65] 65 h (λ _ hT hb h=>?_) (λ _ hT hb h=>?_) λ σ w hC h=>?_
   · refine ye 21 hC h λ _ h=>?_
     refine ye 22 hC h λ _ h=>?_
     refine ye 23 hC h λ _ h=>?_
     refine ye 24 hC h λ _ h=>?_
     refine yw 25 hC ?_
     refine ye 26 hC h λ _ h=>?_
     refine ye 27 hC h λ _ h=>?_
     refine ye 28 hC h λ _ h=>?_
     refine ye 29 hC h λ _ h=>?_
     refine ye 30 hC h λ _ h=>?_
     exact yt hT hC h
   · refine yi 21 hC ?_
     refine yi 22 hC ?_
     refine yi 23 hC ?_
     refine yi 24 hC ?_
     refine yi 25 hC ?_
     refine yi 26 hC ?_
     refine yi 27 hC ?_
     refine yi 28 hC ?_
     refine yi 29 hC ?_
     refine yi 30 hC ?_
     exact yt hT hC h
   refine yj1 1 [31,30,29,28,27,26,25,24,23,22,21,20,19,18,17,16,15,14,13,12,11,10,9,8,7,6,5,4,3,2,1,0] [66] 66 h (λ _ hT hb h=>?_) (λ _ hT hb h=>?_) λ σ w hC h=>?_
   · refine yP 31 hC h λ _ h=>?_
     exact yt hT hC h
   · refine yi 31 hC ?_
     exact yt hT hC h
   refine yP 32 hC h λ _ h=>?_
   refine yz<|zk<|yC h (λ h=>zs<|zr<|zm<|zn<|zk<|Ze<|Zb<|Zf<|Zb<|Zb<|Zf<|Zb<|Zk rfl rfl h) λ h=>Zi<|zk<|zs<|zr<|yv h λ _ w h=>yv h λ _ w h=>yv h λ _ w h=>zm<|yc h c53 λ _ w h=>yb h λ _ w h=>zn ?_
   exact zk<|yC h (λ h=>zs<|zr<|zm<|zn<|zk<|Ze<|Zf<|Zb<|Zb<|Zf<|Zb<|Zk rfl rfl h) λ h=>Zi<|Zg<|zk<|zr<|zm<|yb h λ _ w h=>zm<|zn<|zk<|⟨rfl,h⟩
 exact ZA<|Zc<|Zc<|Zp<|zk<|zs<|zr<|zm<|zn<|zk<|Ze<|Zk rfl rfl h
def Zar (a b c:Vl) (d:KV) (R:RT) (w:Wd):Prop:=
 F0 28 a 1 R w λ e w=>
 L0 26 e R w λ f w=>
 X0 26 f b R w λ g w=>
 F0 24 g 1 R w λ h w=>
 L0 22 h R w λ i w=>
 X0 22 i c R w λ j w=>
 F0 48 j 4 R w λ k w=>
 L0 4 k R w λ l w=>
 N0 l R w λ m w=>
 d m w
def Zas (f g h c d i:Vl) (a:WPr) (YI:KW) (R:RT) (w:Wd):Prop:=
 Zr (λ (b:Vl) (w:Wd)=>
 Zw c b (.bool false) λ j=>
 B0 .add 3 true d (.int .i64 1) R w λ k w=>
 YI j k w) λ e=>
 Zn c true (
 I0 28 f a λ l=>
 M0 82 i d a λ m=>
 I0 9 m a λ n=>
 C0 53 #[l,n,h] R w λ o w=>
 a w∧(
 M0 93 g o a λ p=>
 I0 4 p a λ b=>
 e b w)) (
 e undef w)
def Zat (a b c:Vl) (Zo:KW) (R:RT) (w:Wd):Prop:=
 opV Pg (buildSlice 93 1 #[(0,c)]) (Zh R) w λ d w=>
 opV Pg (Builtin.append_ #[93,93] 93 #[a,d]) (Zh R) w λ e w=>
 B0 .add 3 true b (.int .i64 1) R w λ f w=>
 Zo e f w
def Zau (f a b c d e:Vl) (Zo:KW) (YI:KW) (R:RT) (w:Wd):Prop:=
 G0 82 3 e R w λ g w=>
 B0 .lss 3 false d g R w λ h w=>
 Zq h (
 Yy w λ i w=>
 Zas f a b c d e i YI R w) (
 Zat a b c Zo R w)
def Zav (b d c a:Vl) (Zo:KW) (R:RT) (w:Wd):Prop:=
 F0 28 b 1 R w λ e w=>
 L0 26 e R w λ f w=>
 X0 26 f c R w λ g w=>
 L0 24 g R w λ h w=>
 C0 54 #[h] R w λ i w=>
 Qi (λ a j w YI=>
 Zau b d c a j i Zo YI R w) a (.int .i64 0) w
def Zaw (d e a b:Vl) (ZT:KW) (R:RT) (w:Wd):Prop:=
 Zr (λ (f:Vl) (w:Wd)=>
 Zw a f (.bool false) λ g=>
 B0 .add 3 true b (.int .i64 1) R w λ h w=>
 ZT g h w) λ c=>
 Zn a true (
 Zar d e b c R w) (
 c undef w)
def Zax (a e b c d:Vl) (Zo:KW) (ZT:KW) (R:RT) (w:Wd):Prop:=
 F0 28 a 1 R w λ f w=>
 L0 26 f R w λ g w=>
 X0 26 g b R w λ h w=>
 F0 24 h 1 R w λ i w=>
 L0 22 i R w λ j w=>
 G0 22 3 j R w λ k w=>
 B0 .lss 3 false d k R w λ l w=>
 Zq l (
 Zaw a b c d ZT R w) (
 Zav a e b c Zo R w)
def Zay (c d a b:Vl) (Zo:KW) (R:RT) (w:Wd):Prop:=
 B0 .lss 3 false b c R w λ e w=>
 Zq e (
 Qi (λ f g w ZT=>
 Zax d a b f g Zo ZT R w) (.bool true) (.int .i64 0) w) (
 R (.returned a) w)
def n28 (a b:Vl) (R:RT) (w:Wd):Prop:=
 opV Pg (Instr.box 28 a) (Zh R) w λ c w=>
 Qi (λ d e w Zo=>
 Zay b c d e Zo R w) (Value.slice none 0 0) (.int .i64 0) w
set_option maxHeartbeats 40000000 in
theorem Zia {t0 t1:Vl} {R:RT} {w:Wd} (h:n28 t0 t1 R w):Calls Pg 154 #[t0,t1] w R:=by
 refine yD func154 ?_
 refine zs<|zr<|yv h λ _ w h=>zm<|zn<|zk<|zs<|zr<|zm<|zn<|zk<|zs<|zs<|zr<|zm ?_
 refine zn<|zk<|Zj<|yl2 [5,6,7,8,9,10,11,12,13,14,15,16,17,18,19,20,21,22,23,24,25,26,27,28,29,30,31,32,33,34,35,36,37,38,39,40,41,42,43,44,45,46,47,48,49,50,51,52,53,54,55,56,57,58,59,60,61,62,63,64,65,66,67,68,69] 5 6 h λ σ w next h=>zs<|zs<|zr<|zm<|zm<|yb h λ _ w h=>zn<|zk<|yC h (λ h=>?_) λ h=>?_
 · refine Zi<|zk<|zs<|Zj<|zs<|zr<|zm<|zn<|zk<|zs<|zs<|zr<|zm<|zn<|zk ?_
   refine Zj<|yl2 [7,8,16,17,18,19,20,21,22,23,24,25,26,27,28,29,30,31,32,33,34,35,36,37,38,39,40] 7 8 h λ σ w next h=>zs<|zs<|zr<|zm<|yv h λ _ w h=>yv h λ _ w h=>zm<|yv h λ _ w h=>yv h λ _ w h=>yv h λ _ w h=>yx h λ _ w h=>yb h λ _ w h=>zn ?_
   refine zk<|yC h (λ h=>?_) λ h=>?_
   · refine Zi<|zk<|zs<|Zj<|Zu<|yG 2<|zm<|zm<|zn<|yg1 11 1 true [29,30,31,32,33,34,35,36,37,38,39] 39 h (λ _ T hT h=>?_) λ σ w h=>?_
     · refine yv h λ _ w h=>yv h λ _ w h=>zm<|yv h λ _ w h=>yv h λ _ w h=>yv h λ _ w h=>zm<|yv h λ _ w h=>yv h λ _ w h=>yv h λ _ w h=>yv h λ _ w h=>zn ?_
       exact zt hT h
     exact yG 2<|yp h λ _ h=>zm<|zn<|ZQ<|Zg<|zk<|zr<|zm<|yb h λ _ w h=>zm<|zn<|zk<|⟨rfl,h⟩
   refine ZA<|Zc<|Zc<|Zp<|zk<|zs<|zr<|yv h λ _ w h=>yv h λ _ w h=>zm<|yv h λ _ w h=>yv h λ _ w h=>yc h c54 λ _ w h=>zm<|zn ?_
   refine zk<|zs<|zs<|zr<|zm<|zn<|zk<|Zj<|yl2 [7,10,47,48,49,50,51,52,53,54,55,56,57,58,59,60,61,62,63,64,65] 7 10 h λ σ w next h=>zs<|zs<|zr<|zm<|zm<|yx h λ _ w h=>?_
   refine yb h λ _ w h=>zn<|zk<|yC h (λ h=>?_) λ h=>?_
   · refine Zi<|zk<|zs<|Zj<|yh [7,53,54,55,56,57,58,59,60,61,62,63,64,65] h λ C hC h=>yw 0 hC ?_
     refine yw 1 hC ?_
     refine yj1 2 [11,10,9,8,7,6,5,4,3,2,1,0] [55,56,57,58,59,60,61,62,63,64] 64 h (λ _ hT hb h=>?_) (λ _ hT hb h=>?_) λ σ w hC h=>?_
     · refine yw 2 hC ?_
       refine ye 3 hC h λ _ h=>?_
       refine yw 4 hC ?_
       refine yw 5 hC ?_
       refine ye 6 hC h λ _ h=>?_
       refine ye 7 hC h λ _ h=>?_
       refine yw 8 hC ?_
       refine yo 9 ?_
       refine yc h c53 λ _ w h=>zn ?_
       obtain ⟨hC,h⟩:=h
       refine ⟨hC,?_⟩
       refine ye 10 hC h λ _ h=>?_
       refine ye 11 hC h λ _ h=>?_
       exact yt hT hC h
     · refine yi 2 hC ?_
       refine yi 3 hC ?_
       refine yi 4 hC ?_
       refine yi 5 hC ?_
       refine yi 6 hC ?_
       refine yi 7 hC ?_
       refine yi 8 hC ?_
       refine yi 9 hC ?_
       refine yi 10 hC ?_
       refine yi 11 hC ?_
       exact yt hT hC h
     refine yP 12 hC h λ _ h=>?_
     refine yw 13 hC ?_
     exact yz<|Zg<|zk<|zr<|zm<|yb h λ _ w h=>zm<|zn<|zk<|⟨rfl,h⟩
   refine ZA<|Zc<|Zc<|Zp<|zk<|zr<|zm<|zm<|yS h λ _ w h=>yx h λ _ w h=>zm<|zn<|Zg<|zk<|zr ?_
   exact zm<|yb h λ _ w h=>zm<|zn<|zk<|⟨rfl,h⟩
 exact ZA<|Zc<|Zc<|Zp<|zk<|zs<|zr<|zm<|zm<|zn<|zk<|Ze<|Zk rfl rfl h
def xU (d e f:Vl) (R:RT) (w:Wd):Prop:=
 Zw e f (.bool false) λ b=>
 Zr (λ (a:Vl) (w:Wd)=>
 Zw b a (.bool false) λ g=>
 R (.returned g) w) λ c=>
 Zn b true (
 opV Pg (ZI .neq 5 true d (.int .u8 95)) (Zh R) w λ a w=>
 c a w) (
 c undef w)
def xV (b e:Vl) (R:RT) (w:Wd):Prop:=
 N0 e R w λ c w=>
 Zr (λ (a:Vl) (w:Wd)=>
 xU b c a R w) λ d=>
 Zn c true (
 C0 157 #[b] R w λ f w=>
 N0 f R w λ a w=>
 d a w) (
 d undef w)
def ZdJ (a:Vl) (R:RT) (w:Wd):Prop:=
 C0 156 #[a] R w λ b w=>
 xV a b R w
theorem ZdK {t0:Vl} {R:RT} {w:Wd} (h:ZdJ t0 R w):Calls Pg 155 #[t0] w R:=by
 refine yD func155 ?_
 refine zs<|zr<|zm<|zn<|zk<|zs<|Zu<|yG 4<|zm<|yc h ZcW λ _ w h=>yv h λ _ w h=>zm<|zn<|yg1 3 3 true [7,8,9] 9 h (λ _ T hT h=>?_) λ σ w h=>?_
 · refine zm<|yc h ZgY λ _ w h=>yv h λ _ w h=>zn ?_
   exact zt hT h
 refine yG 2<|yp h λ _ h=>zm<|zn<|yg1 2 8 true [12,13] 13 h (λ _ T hT h=>?_) λ σ w h=>?_
 · refine zm<|yb h λ _ w h=>zn ?_
   exact zt hT h
 exact yG 2<|yp h λ _ h=>zm<|zn<|ZQ<|zk<|Ze<|Zk rfl rfl h
def HU (g c d:Vl) (R:RT) (w:Wd):Prop:=
 Zr (λ (a:Vl) (w:Wd)=>
 Zr (λ (b:Vl) (w:Wd)=>
 Zw c (.bool true) b λ h=>
 R (.returned h) w) λ e=>
 Zn c false (
 Zw d a (.bool false) λ b=>
 e b w) (
 e undef w)) λ f=>
 Zn d true (
 opV Pg (ZI .leq 5 true g (.int .u8 122)) (Zh R) w λ a w=>
 f a w) (
 f undef w)
def HV (a d e:Vl) (R:RT) (w:Wd):Prop:=
 Zw d e (.bool false) λ b=>
 Zr (λ (f:Vl) (w:Wd)=>
 HU a b f R w) λ c=>
 Zn b false (
 opV Pg (ZI .geq 5 true a (.int .u8 97)) (Zh R) w λ g w=>
 c g w) (
 c undef w)
def ZdY (a:Vl) (R:RT) (w:Wd):Prop:=
 opV Pg (ZI .geq 5 true a (.int .u8 65)) (Zh R) w λ c w=>
 Zr (λ (b:Vl) (w:Wd)=>
 HV a c b R w) λ d=>
 Zn c true (
 opV Pg (ZI .leq 5 true a (.int .u8 90)) (Zh R) w λ b w=>
 d b w) (
 d undef w)
theorem ZdZ {t0:Vl} {R:RT} {w:Wd} (h:ZdY t0 R w):Calls Pg 156 #[t0] w R:=by
 refine yD func156 ?_
 refine zs<|zr<|zm<|zn<|zk<|zs<|Zu<|yG 3<|zm<|yb h λ _ w h=>zm<|zn<|yg1 2 2 true [6,7] 7 h (λ _ T hT h=>?_) λ σ w h=>?_
 · refine zm<|yb h λ _ w h=>zn ?_
   exact zt hT h
 refine yG 2<|yp h λ _ h=>zm<|zn<|yg1 3 6 false [10,11,12] 12 h (λ _ T hT h=>?_) λ σ w h=>?_
 · refine zm<|yb h λ _ w h=>zm<|zn ?_
   exact zt hT h
 refine yg1 2 9 true [13,14] 14 h (λ _ T hT h=>?_) λ σ w h=>?_
 · refine zm<|yb h λ _ w h=>zn ?_
   exact zt hT h
 refine yg1 1 6 false [15] 15 h (λ _ T hT h=>?_) λ σ w h=>?_
 · refine yp h λ _ h=>zn ?_
   exact zt hT h
 exact yG 2<|yp h λ _ h=>zm<|zn<|ZQ<|zk<|Ze<|Zk rfl rfl h
def ZdW (b:Vl) (R:RT) (w:Wd):Prop:=
 opV Pg (ZI .geq 5 true b (.int .u8 48)) (Zh R) w λ c w=>
 Zr (λ (a:Vl) (w:Wd)=>
 Zw c a (.bool false) λ e=>
 R (.returned e) w) λ d=>
 Zn c true (
 opV Pg (ZI .leq 5 true b (.int .u8 57)) (Zh R) w λ a w=>
 d a w) (
 d undef w)
theorem ZdX {t0:Vl} {R:RT} {w:Wd} (h:ZdW t0 R w):Calls Pg 157 #[t0] w R:=by
 refine yD func157 ?_
 refine zs<|zr<|zm<|zn<|zk<|zs<|Zu<|yG 3<|zm<|yb h λ _ w h=>zm<|zn<|yg1 2 2 true [6,7] 7 h (λ _ T hT h=>?_) λ σ w h=>?_
 · refine zm<|yb h λ _ w h=>zn ?_
   exact zt hT h
 exact yG 2<|yp h λ _ h=>zm<|zn<|ZQ<|zk<|Ze<|Zk rfl rfl h
def ZdT (a:Vl) (R:RT) (w:Wd):Prop:=
 C0 182 #[a,(.bool false)] R w λ b w=>
 N0 b R w λ c w=>
 R (.returned c) w
theorem ZdU {t0:Vl} {R:RT} {w:Wd} (h:ZdT t0 R w):Calls Pg 158 #[t0] w R:=by
 refine yD func158 ?_
 exact zs<|zr<|zm<|zn<|zk<|zs<|zr<|zm<|yc h Zhc λ _ w h=>yv h λ _ w h=>zm<|zn<|zk<|Ze<|Zk rfl rfl h
def Zeg (a b:Vl) (R:RT) (w:Wd):Prop:=
 C0 183 #[a,b] R w λ c w=>
 B0 .geq 3 true c (.int .i64 0) R w λ d w=>
 R (.returned d) w
theorem Zeh {t0 t1:Vl} {R:RT} {w:Wd} (h:Zeg t0 t1 R w):Calls Pg 159 #[t0,t1] w R:=by
 refine yD func159 ?_
 refine zs<|zr<|zm<|zn<|zk<|zs<|zr<|zm<|zm<|yc h Zhd λ _ w h=>yb h λ _ w h=>zm<|zn<|zk<|Ze ?_
 exact Zk rfl rfl h
def PD (b:Vl) (a:WPr) (d:KV) (R:RT) (w:Wd):Prop:=
 qV Pg a (Instr.extract b 0) λ e=>
 qV Pg a (Instr.extract b 1) λ f=>
 opV Pg (Instr.alloc 74 true (.tuple #[])) (Zh R) w λ c w=>
 a w∧(
 S0 74 c e R w λ w=>
 a w∧(
 d c w))
def PE (b d e:Vl) (a:WPr) (f:KV) (R:RT) (w:Wd):Prop:=
 C0 220 #[d,e] R w λ c w=>
 a w∧(
 qV Pg a (Instr.extract c 0) λ g=>
 qV Pg a (Instr.extract c 1) λ h=>
 S0 74 b g R w λ w=>
 a w∧(
 f b w))
def PF (b c:Vl) (a:WPr) (d:KV) (R:RT) (w:Wd):Prop:=
 (
 C0 220 #[b,c] R w λ e w=>
 a w∧(
 PD e a d R w))∧(
 opV Pg (Instr.alloc 74 true (.tuple #[])) (Zh R) w λ f w=>
 a w∧(
 PE f b c a d R w))
def PG (b d e:Vl) (a:WPr) (f:KV) (R:RT) (w:Wd):Prop:=
 C0 220 #[d,e] R w λ c w=>
 a w∧(
 qV Pg a (Instr.extract c 0) λ g=>
 qV Pg a (Instr.extract c 1) λ h=>
 S0 74 b g R w λ w=>
 a w∧(
 f b w))
def PH (h i d:Vl) (a:WPr) (R:RT) (w:Wd):Prop:=
 J0 48 i 7 a λ j=>
 I0 45 j a λ e=>
 J0 124 h 0 a λ k=>
 I0 24 k a λ f=>
 Zr (λ (b:Vl) (w:Wd)=>
 L0 74 b R w λ l w=>
 S0 74 d l R w λ w=>
 qW Pg 74 d w λ r0=>
 R (.returned r0) w) λ g=>
 (
 C0 221 #[f] R w λ c w=>
 a w∧(
 PF e c a g R w))∧(
 opV Pg (Instr.alloc 74 true (.tuple #[])) (Zh R) w λ b w=>
 a w∧(
 C0 221 #[f] R w λ c w=>
 a w∧(
 PG b e c a g R w)))
def Zfw (a b:Vl) (R:RT) (w:Wd):Prop:=
 opV Pg (Instr.box 124 a) (Zh R) w λ c w=>
 opV Pg (Instr.box 48 b) (Zh R) w λ d w=>
 opV Pg (Instr.alloc 74 true (.tuple #[])) (Zh R) w λ e w=>
 Yy w λ f w=>
 PH c d e f R w
theorem Zfx {t0 t1:Vl} {R:RT} {w:Wd} (h:Zfw t0 t1 R w):Calls Pg 188 #[t0,t1] w R:=by
 refine yD func188 ?_
 refine zs<|zr<|yv h λ _ w h=>yv h λ _ w h=>yv h λ _ w h=>zn<|zk<|zs<|yh [5,6,7,8,9,10,11,12,13,14,15] h λ C hC h=>ye 0 hC h λ _ h=>?_
 refine ye 1 hC h λ _ h=>?_
 refine ye 2 hC h λ _ h=>?_
 refine ye 3 hC h λ _ h=>?_
 refine VR h (λ K2 hK h=>?_)
 refine UF [5,6,7,12,13,14,15] (λ ρ w=>K2 (ρ 5) w) (λ T hT=>?_) (λ σ w h=>?_)
 · obtain ⟨h0,h1⟩:=h
   refine QV 4 9 rfl rfl (by kernel_rfl) (λ _ _=>rfl) (λ _ _=>rfl) ?_ ?_
   · have h:=h0
     refine yc h Zc6 λ _ w h=>zn ?_
     obtain ⟨hC,h⟩:=h
     refine ⟨_,λ _ h=>h,hC,?_⟩
     obtain ⟨h0,h1⟩:=h
     refine QV 5 9 rfl rfl (by kernel_rfl) (λ _ _=>rfl) (λ _ _=>rfl) ?_ ?_
     · have h:=h0
       refine yc h SR λ _ w h=>zn ?_
       obtain ⟨hC,h⟩:=h
       refine ⟨_,λ _ h=>h,hC,?_⟩
       refine yw 6 hC ?_
       refine ye 7 hC h λ _ h=>?_
       refine ye 8 hC h λ _ h=>?_
       refine yo 9 ?_
       refine yv h λ _ w h=>zn ?_
       obtain ⟨hC,h⟩:=h
       refine ⟨hC,?_⟩
       refine yo 10 ?_
       refine yu h λ w h=>zn ?_
       obtain ⟨hC,h⟩:=h
       refine ⟨hC,?_⟩
       refine yw 11 hC ?_
       refine yz ?_
       exact zt hT h
     have h:=h1
     refine yv h λ _ w h=>zn ?_
     obtain ⟨hC,h⟩:=h
     refine ⟨_,λ _ h=>h,hC,?_⟩
     refine yo 5 ?_
     refine yc h SR λ _ w h=>zn ?_
     obtain ⟨hC,h⟩:=h
     refine ⟨hC,?_⟩
     refine yw 6 hC ?_
     refine ye 7 hC h λ _ h=>?_
     refine ye 8 hC h λ _ h=>?_
     refine yo 10 ?_
     refine yu h λ w h=>zn ?_
     obtain ⟨hC,h⟩:=h
     refine ⟨hC,?_⟩
     refine yw 11 hC ?_
     refine yz ?_
     exact zt hT h
   have h:=h1
   refine yv h λ _ w h=>zn ?_
   obtain ⟨hC,h⟩:=h
   refine ⟨_,λ _ h=>h,hC,?_⟩
   refine yo 4 ?_
   refine yc h Zc6 λ _ w h=>zn ?_
   obtain ⟨hC,h⟩:=h
   refine ⟨hC,?_⟩
   refine yo 5 ?_
   refine yc h SR λ _ w h=>zn ?_
   obtain ⟨hC,h⟩:=h
   refine ⟨hC,?_⟩
   refine yw 6 hC ?_
   refine ye 7 hC h λ _ h=>?_
   refine ye 8 hC h λ _ h=>?_
   refine yo 10 ?_
   refine yu h λ w h=>zn ?_
   obtain ⟨hC,h⟩:=h
   refine ⟨hC,?_⟩
   refine yw 11 hC ?_
   refine yz ?_
   exact zt hT h
 subst hK
 exact zk<|zs<|zr<|yv h λ _ w h=>yu h λ w h=>zn<|zk<|Ze<|Ya rfl rfl h
def PN (b:Vl) (R:RT) (w:Wd):Prop:=
 E0 b 0 R w λ f w=>
 E0 b 1 R w λ c w=>
 opV Pg (ZI .gtr 188 true f (.int .u64 0)) (Zh R) w λ d w=>
 Zr (λ (a:Vl) (w:Wd)=>
 Zw d (.bool true) a λ g=>
 Zq g (
 R (.returned (.int .i64 1099511627776)) w) (
 opV Pg (Go.convert 188 3 c) (Zh R) w λ h w=>
 R (.returned h) w)) λ e=>
 Zn d false (
 opV Pg (ZI .gtr 188 true c (.int .u64 1099511627776)) (Zh R) w λ a w=>
 e a w) (
 e undef w)
def ZfG (a b:Vl) (R:RT) (w:Wd):Prop:=
 opV Pg (Go.convert 3 188 a) (Zh R) w λ c w=>
 opV Pg (Go.convert 3 188 b) (Zh R) w λ d w=>
 C0 222 #[c,d] R w λ e w=>
 PN e R w
theorem ZfH {t0 t1:Vl} {R:RT} {w:Wd} (h:ZfG t0 t1 R w):Calls Pg 189 #[t0,t1] w R:=by
 refine yD func189 ?_
 refine zs<|zr<|zm<|zn<|zk<|zs<|zr<|zm<|yv h λ _ w h=>zm<|yv h λ _ w h=>yc h ZhE λ _ w h=>zm<|yv h λ _ w h=>yv h λ _ w h=>?_
 refine zm<|zm<|zn<|zk<|zs<|zs<|Zu<|yG 3<|zm<|yb h λ _ w h=>zm<|zn<|yg1 2 2 false [18,19] 19 h (λ _ T hT h=>?_) λ σ w h=>?_
 · refine zm<|yb h λ _ w h=>zn ?_
   exact zt hT h
 refine yG 1<|yp h λ _ h=>zn<|ZQ<|zk<|yC h (λ h=>zs<|zr<|zm<|zn<|zk<|Ze<|Zb<|Zk rfl rfl h) λ h=>Zi<|zk<|zs<|zr<|zm<|yv h λ _ w h=>zm<|zn ?_
 exact zk<|Ze<|Zk rfl rfl h
def n21 (b:Vl) (R:RT) (w:Wd):Prop:=
 opV Pg (ZI .geq 3 true b (.int .i64 (-1048576))) (Zh R) w λ c w=>
 Zr (λ (a:Vl) (w:Wd)=>
 Zw c a (.bool false) λ e=>
 R (.returned e) w) λ d=>
 Zn c true (
 B0 .leq 3 true b (.int .i64 1048576) R w λ a w=>
 d a w) (
 d undef w)
theorem Zh3 {t0:Vl} {R:RT} {w:Wd} (h:n21 t0 R w):Calls Pg 190 #[t0] w R:=by
 refine yD func190 ?_
 refine zs<|zr<|zm<|zn<|zk<|zs<|Zu<|yG 3<|zm<|yb h λ _ w h=>zm<|zn<|yg1 2 2 true [6,7] 7 h (λ _ T hT h=>?_) λ σ w h=>?_
 · refine zm<|yb h λ _ w h=>zn ?_
   exact zt hT h
 exact yG 2<|yp h λ _ h=>zm<|zn<|ZQ<|zk<|Ze<|Zk rfl rfl h
def HW (b c a:Vl) (Zo:KV) (R:RT) (w:Wd):Prop:=
 X0 93 b a R w λ d w=>
 L0 4 d R w λ e w=>
 B0 .eql 4 false c e R w λ f w=>
 Zq f (
 R (.returned a) w) (
 B0 .add 3 true a (.int .i64 1) R w λ g w=>
 Zo g w)
def Zey (a c:Vl) (R:RT) (w:Wd):Prop:=
 G0 93 3 a R w λ d w=>
 YS (λ b w Zo=>
 B0 .lss 3 false b d R w λ e w=>
 Zq e (
 HW a c b Zo R w) (
 R (.returned (.int .i64 (-1))) w)) (.int .i64 0) w
theorem Zez {t0 t1:Vl} {R:RT} {w:Wd} (h:Zey t0 t1 R w):Calls Pg 192 #[t0,t1] w R:=by
 refine yD func192 ?_
 refine zs<|zr<|zm<|zn<|zk<|zs<|zs<|zr<|zm<|yx h λ _ w h=>zm<|zn<|zk<|Zj<|yl1 [4,5,8,9,10,11,12,13,14,15,16,17,18] 8 h λ σ w next h=>?_
 refine zs<|zr<|yb h λ _ w h=>zn<|zk<|zs<|yC h (λ h=>?_) λ h=>?_
 · refine Zi<|zk<|zs<|Zj<|zs<|zr<|zm<|zm<|zn<|zk<|zs<|zr<|zm<|zm<|zm ?_
   refine yv h λ _ w h=>yv h λ _ w h=>yb h λ _ w h=>zn<|zk<|yC h (λ h=>zs<|zr<|zm<|zm<|zn<|zk<|Ze<|Zf<|Zb<|Zb<|Zf<|Zb<|Zk rfl rfl h) λ h=>Zi<|Zg<|zk<|zr<|yb h λ _ w h=>zm<|zn<|zk ?_
   exact ⟨rfl,h⟩
 exact ZA<|Zc<|Zc<|Zp<|zk<|zs<|zr<|zm<|zn<|zk<|Ze<|Zk rfl rfl h
def n79 (a:Vl) (R:RT) (w:Wd):Prop:=
 opN Pg (Xb a) (Zh R) w λ b w=>
 F0 48 b 2 R w λ c w=>
 opU Pg (storeAt 3 c (.int .i64 0)) (Zh R) w λ w=>
 opN Pg (Xb a) (Zh R) w λ d w=>
 F0 48 d 3 R w λ e w=>
 opU Pg (storeAt 4 e (.bool false)) (Zh R) w λ w=>
 opN Pg (Xb a) (Zh R) w λ f w=>
 F0 48 f 5 R w λ g w=>
 opU Pg (storeAt 3 g (.int .i64 0)) (Zh R) w λ w=>
 opN Pg (Xb a) (Zh R) w λ h w=>
 F0 48 h 6 R w λ i w=>
 opU Pg (storeAt 3 i (.int .i64 0)) (Zh R) w λ w=>
 R (.returned (.tuple #[])) w
theorem ZiW {t0:Vl} {R:RT} {w:Wd} (h:n79 t0 R w):Calls Pg 193 #[t0] w R:=by
 refine yD func193 ?_
 refine zr<|zm<|zm<|zm<|zm<|yN h λ _ w h=>yv h λ _ w h=>yu h λ w h=>yN h λ _ w h=>yv h λ _ w h=>yu h λ w h=>yN h λ _ w h=>yv h λ _ w h=>yu h λ w h=>yN h λ _ w h=>?_
 exact yv h λ _ w h=>yu h λ w h=>zn<|ZU<|Z1 rfl h
def Zby (c b:Vl) (a:WPr) (R:RT) (w:Wd):Prop:=
 J0 48 b 2 a λ d=>
 I0 3 d a λ e=>
 qV Pg a (ZI .shl 3 true (.int .i64 1) e) λ f=>
 qV Pg a (ZI .sub 3 true f (.int .i64 1)) λ g=>
 J0 48 b 5 a λ h=>
 I0 3 h a λ i=>
 J0 48 b 6 a λ j=>
 I0 3 j a λ k=>
 opV Pg (buildSlice 30 2 #[(0,i),(1,k)]) (Zh R) w λ l w=>
 a w∧(
 C0 196 #[c,(.int .i64 0),g,l] R w λ m w=>
 a w∧(
 R (.returned (.tuple #[])) w))
def n90 (a c:Vl) (R:RT) (w:Wd):Prop:=
 opV Pg (Instr.box 48 c) (Zh R) w λ b w=>
 L0 48 b R w λ d w=>
 C0 195 #[a,d] R w λ f w=>
 Yy w λ e w=>
 Zby a b e R w
theorem Zi7 {t0 t1:Vl} {R:RT} {w:Wd} (h:n90 t0 t1 R w):Calls Pg 194 #[t0,t1] w R:=by
 refine yD func194 ?_
 refine zs<|zr<|yv h λ _ w h=>zn<|zk<|zs<|zr<|zm<|yv h λ _ w h=>yc h Zc5 λ _ w h=>zn<|zk<|yh [7,8,9,10,11,12,13,14,15,16,17] h λ C hC h=>yw 0 hC ?_
 refine ye 1 hC h λ _ h=>?_
 refine ye 2 hC h λ _ h=>?_
 refine ye 3 hC h λ _ h=>?_
 refine ye 4 hC h λ _ h=>?_
 refine ye 5 hC h λ _ h=>?_
 refine ye 6 hC h λ _ h=>?_
 refine ye 7 hC h λ _ h=>?_
 refine ye 8 hC h λ _ h=>?_
 refine yo 9 ?_
 refine yS h λ _ w h=>zn ?_
 obtain ⟨hC,h⟩:=h
 refine ⟨hC,?_⟩
 refine yo 10 ?_
 refine yc h Dg λ _ w h=>zn ?_
 obtain ⟨hC,h⟩:=h
 refine ⟨hC,?_⟩
 exact yz<|ZU<|Z1 rfl h
def Re (d b e f:Vl) (R:RT) (w:Wd):Prop:=
 Zr (λ (a:Vl) (w:Wd)=>
 Zw b a (.bool false) λ g=>
 C0 122 #[d,g,(.int .i64 6)] R w λ h w=>
 R (.returned (.tuple #[])) w) λ c=>
 Zn b true (
 Zw e (.bool true) f λ a=>
 c a w) (
 c undef w)
def Rf (g h i c d:Vl) (R:RT) (w:Wd):Prop:=
 Zr (λ (a:Vl) (w:Wd)=>
 Zr (λ (b:Vl) (w:Wd)=>
 Re g i c b R w) λ e=>
 Zn c false (
 Zw d a (.bool false) λ b=>
 e b w) (
 e undef w)) λ f=>
 Zn d true (
 F0 48 h 2 R w λ j w=>
 L0 3 j R w λ k w=>
 B0 .rem 3 true k (.int .i64 8) R w λ l w=>
 B0 .eql 3 true l (.int .i64 0) R w λ a w=>
 f a w) (
 f undef w)
def Rg (d a e b:Vl) (R:RT) (w:Wd):Prop:=
 Zr (λ (f:Vl) (w:Wd)=>
 Rf d a e b f R w) λ c=>
 Zn b false (
 F0 48 a 2 R w λ g w=>
 L0 3 g R w λ h w=>
 B0 .gtr 3 true h (.int .i64 8) R w λ i w=>
 c i w) (
 c undef w)
def Rh (d a e f:Vl) (R:RT) (w:Wd):Prop:=
 Zw e f (.bool false) λ b=>
 Zr (λ (g:Vl) (w:Wd)=>
 Rg d a b g R w) λ c=>
 Zn b true (
 F0 48 a 3 R w λ h w=>
 L0 4 h R w λ i w=>
 N0 i R w λ j w=>
 c j w) (
 c undef w)
def n65 (e f:Vl) (R:RT) (w:Wd):Prop:=
 opV Pg (Instr.box 48 f) (Zh R) w λ a w=>
 F0 48 a 2 R w λ g w=>
 L0 3 g R w λ h w=>
 B0 .geq 3 true h (.int .i64 1) R w λ c w=>
 Zr (λ (b:Vl) (w:Wd)=>
 Rh e a c b R w) λ d=>
 Zn c true (
 F0 48 a 2 R w λ i w=>
 L0 3 i R w λ j w=>
 B0 .leq 3 true j (.int .i64 32) R w λ b w=>
 d b w) (
 d undef w)
theorem ZiJ {t0 t1:Vl} {R:RT} {w:Wd} (h:n65 t0 t1 R w):Calls Pg 195 #[t0,t1] w R:=by
 refine yD func195 ?_
 refine zs<|zr<|yv h λ _ w h=>zn<|zk<|Zu<|yG 5<|zm<|yv h λ _ w h=>yv h λ _ w h=>yb h λ _ w h=>zm<|zn<|yg1 3 4 true [9,10,11] 11 h (λ _ T hT h=>?_) λ σ w h=>?_
 · refine yv h λ _ w h=>yv h λ _ w h=>yb h λ _ w h=>zn ?_
   exact zt hT h
 refine yG 2<|yp h λ _ h=>zm<|zn<|yg1 4 9 true [14,15,16,17] 17 h (λ _ T hT h=>?_) λ σ w h=>?_
 · refine yv h λ _ w h=>yv h λ _ w h=>yv h λ _ w h=>zm<|zn ?_
   exact zt hT h
 refine yg1 4 13 false [18,19,20,21] 21 h (λ _ T hT h=>?_) λ σ w h=>?_
 · refine yv h λ _ w h=>yv h λ _ w h=>yb h λ _ w h=>zm<|zn ?_
   exact zt hT h
 refine yg1 4 17 true [22,23,24,25] 25 h (λ _ T hT h=>?_) λ σ w h=>?_
 · refine yv h λ _ w h=>yv h λ _ w h=>yb h λ _ w h=>yb h λ _ w h=>zn ?_
   exact zt hT h
 refine yg1 1 13 false [26] 26 h (λ _ T hT h=>?_) λ σ w h=>?_
 · refine yp h λ _ h=>zn ?_
   exact zt hT h
 refine yg1 1 9 true [27] 27 h (λ _ T hT h=>?_) λ σ w h=>?_
 · refine yp h λ _ h=>zn ?_
   exact zt hT h
 exact yG 2<|yp h λ _ h=>yc h UZ λ _ w h=>zn<|ZQ<|ZU<|Z1 rfl h
def LN (a b c d e:Vl) (Zo:KW) (R:RT) (w:Wd):Prop:=
 Zw d e (.bool false) λ f=>
 C0 122 #[a,f,(.int .i64 7)] R w λ h w=>
 B0 .add 3 true b (.int .i64 1) R w λ g w=>
 Zo c g w
def LO (f g h i c:Vl) (Zo:KW) (R:RT) (w:Wd):Prop:=
 X0 30 i c R w λ j w=>
 L0 3 j R w λ a w=>
 B0 .geq 3 false a g R w λ d w=>
 Zr (λ (b:Vl) (w:Wd)=>
 LN f c a d b Zo R w) λ e=>
 Zn d true (
 B0 .leq 3 false a h R w λ b w=>
 e b w) (
 e undef w)
def n73 (d a e b:Vl) (R:RT) (w:Wd):Prop:=
 G0 30 3 b R w λ f w=>
 Qi (λ a c w Zo=>
 B0 .lss 3 false c f R w λ g w=>
 Zq g (
 LO d a e b c Zo R w) (
 R (.returned (.tuple #[])) w)) a (.int .i64 0) w
theorem ZiR {t0 t1 t2 t3:Vl} {R:RT} {w:Wd} (h:n73 t0 t1 t2 t3 R w):Calls Pg 196 #[t0,t1,t2,t3] w R:=by
 refine yD func196 ?_
 refine zs<|zr<|zm<|yx h λ _ w h=>zm<|zn<|zk<|Zj<|yl2 [1,9,12,13,14,15,16,17,18,19,20,21,22,23,24,25,26,27] 1 12 h λ σ w next h=>zs<|zr<|yb h λ _ w h=>zn<|zk<|zs ?_
 refine yC h (λ h=>?_) λ h=>?_
 · refine Zi<|zk<|zs<|Zj<|zs<|zr<|yv h λ _ w h=>yv h λ _ w h=>zm<|zn<|zk<|zs<|Zu<|yG 5<|zm ?_
   refine zm<|zm<|yb h λ _ w h=>zm<|zn<|yg1 3 4 true [21,22,23] 23 h (λ _ T hT h=>?_) λ σ w h=>?_
   · refine zm<|zm<|yb h λ _ w h=>zn ?_
     exact zt hT h
   refine yG 2<|yp h λ _ h=>yc h UZ λ _ w h=>zn<|ZQ<|zk<|zr<|zm<|zm<|zn<|Zg<|zk<|zr<|yb h λ _ w h=>zm ?_
   exact zn<|zk<|⟨rfl,h⟩
 exact ZA<|Zc<|Zc<|Zp<|ZU<|Z1 rfl h
def n94 (a:Vl) (R:RT) (w:Wd):Prop:=
 opN Pg (Xb a) (Zh R) w λ b w=>
 F0 48 b 2 R w λ c w=>
 opU Pg (storeAt 3 c (.int .i64 0)) (Zh R) w λ w=>
 opN Pg (Xb a) (Zh R) w λ d w=>
 F0 48 d 3 R w λ e w=>
 opU Pg (storeAt 4 e (.bool false)) (Zh R) w λ w=>
 opN Pg (Xb a) (Zh R) w λ f w=>
 F0 48 f 5 R w λ g w=>
 opU Pg (storeAt 3 g (.int .i64 0)) (Zh R) w λ w=>
 R (.returned (.tuple #[])) w
theorem Zjb {t0:Vl} {R:RT} {w:Wd} (h:n94 t0 R w):Calls Pg 197 #[t0] w R:=by
 refine yD func197 ?_
 refine zr<|zm<|zm<|zm<|yN h λ _ w h=>yv h λ _ w h=>yu h λ w h=>yN h λ _ w h=>yv h λ _ w h=>yu h λ w h=>yN h λ _ w h=>yv h λ _ w h=>yu h λ w h=>zn<|ZU ?_
 exact Z1 rfl h
def ZbA (c b:Vl) (a:WPr) (R:RT) (w:Wd):Prop:=
 J0 48 b 2 a λ d=>
 I0 3 d a λ e=>
 qV Pg a (ZI .shl 3 true (.int .i64 1) e) λ f=>
 qV Pg a (ZI .sub 3 true f (.int .i64 1)) λ g=>
 J0 48 b 5 a λ h=>
 I0 3 h a λ i=>
 opV Pg (buildSlice 30 1 #[(0,i)]) (Zh R) w λ j w=>
 a w∧(
 C0 196 #[c,(.int .i64 0),g,j] R w λ k w=>
 a w∧(
 R (.returned (.tuple #[])) w))
def n95 (a c:Vl) (R:RT) (w:Wd):Prop:=
 opV Pg (Instr.box 48 c) (Zh R) w λ b w=>
 L0 48 b R w λ d w=>
 C0 195 #[a,d] R w λ f w=>
 Yy w λ e w=>
 ZbA a b e R w
theorem Zjc {t0 t1:Vl} {R:RT} {w:Wd} (h:n95 t0 t1 R w):Calls Pg 198 #[t0,t1] w R:=by
 refine yD func198 ?_
 refine zs<|zr<|yv h λ _ w h=>zn<|zk<|zs<|zr<|zm<|yv h λ _ w h=>yc h Zc5 λ _ w h=>zn<|zk<|yh [7,8,9,10,11,12,13,14,15] h λ C hC h=>yw 0 hC ?_
 refine ye 1 hC h λ _ h=>?_
 refine ye 2 hC h λ _ h=>?_
 refine ye 3 hC h λ _ h=>?_
 refine ye 4 hC h λ _ h=>?_
 refine ye 5 hC h λ _ h=>?_
 refine ye 6 hC h λ _ h=>?_
 refine yo 7 ?_
 refine yS h λ _ w h=>zn ?_
 obtain ⟨hC,h⟩:=h
 refine ⟨hC,?_⟩
 refine yo 8 ?_
 refine yc h Dg λ _ w h=>zn ?_
 obtain ⟨hC,h⟩:=h
 refine ⟨hC,?_⟩
 exact yz<|ZU<|Z1 rfl h
def n96 (a:Vl) (R:RT) (w:Wd):Prop:=
 opN Pg (Xb a) (Zh R) w λ b w=>
 F0 48 b 4 R w λ c w=>
 opU Pg (storeAt 4 c (.bool false)) (Zh R) w λ w=>
 opN Pg (Xb a) (Zh R) w λ d w=>
 F0 48 d 5 R w λ e w=>
 opU Pg (storeAt 3 e (.int .i64 0)) (Zh R) w λ w=>
 opN Pg (Xb a) (Zh R) w λ f w=>
 F0 48 f 6 R w λ g w=>
 opU Pg (storeAt 3 g (.int .i64 0)) (Zh R) w λ w=>
 R (.returned (.tuple #[])) w
theorem Zjd {t0:Vl} {R:RT} {w:Wd} (h:n96 t0 R w):Calls Pg 199 #[t0] w R:=by
 refine yD func199 ?_
 refine zr<|zm<|zm<|zm<|yN h λ _ w h=>yv h λ _ w h=>yu h λ w h=>yN h λ _ w h=>yv h λ _ w h=>yu h λ w h=>yN h λ _ w h=>yv h λ _ w h=>yu h λ w h=>zn<|ZU ?_
 exact Z1 rfl h
def n97 (b c:Vl) (R:RT) (w:Wd):Prop:=
 opV Pg (Instr.box 48 c) (Zh R) w λ a w=>
 F0 48 a 5 R w λ d w=>
 L0 3 d R w λ e w=>
 F0 48 a 6 R w λ f w=>
 L0 3 f R w λ g w=>
 opV Pg (buildSlice 30 2 #[(0,e),(1,g)]) (Zh R) w λ h w=>
 C0 196 #[b,(.int .i64 0),(.int .i64 34359738367),h] R w λ i w=>
 R (.returned (.tuple #[])) w
theorem Zje {t0 t1:Vl} {R:RT} {w:Wd} (h:n97 t0 t1 R w):Calls Pg 200 #[t0,t1] w R:=by
 refine yD func200 ?_
 refine zs<|zr<|yv h λ _ w h=>zn<|zk<|zr<|zm<|yv h λ _ w h=>yv h λ _ w h=>yv h λ _ w h=>yv h λ _ w h=>yS h λ _ w h=>yc h Dg λ _ w h=>zn<|ZU ?_
 exact Z1 rfl h
def n98 (a:Vl) (R:RT) (w:Wd):Prop:=
 opV Pg (Instr.build 45 #[]) (Zh R) w λ b w=>
 opN Pg (Xb a) (Zh R) w λ c w=>
 F0 48 c 7 R w λ d w=>
 S0 45 d b R w λ w=>
 R (.returned (.tuple #[])) w
theorem Zjf {t0:Vl} {R:RT} {w:Wd} (h:n98 t0 R w):Calls Pg 201 #[t0] w R:=by
 refine yD func201 ?_
 exact zr<|zm<|yB h λ _ w h=>yN h λ _ w h=>yv h λ _ w h=>yu h λ w h=>zn<|ZU<|Z1 rfl h
def LR (c a:Vl) (b:WPr) (R:RT) (w:Wd):Prop:=
 qV Pg b (Instr.extract a 0) λ e=>
 qV Pg b (Instr.extract a 1) λ d=>
 C0 122 #[c,d,(.int .i64 8)] R w λ f w=>
 R (.returned (.tuple #[])) w
def LS (b c:Vl) (a:WPr) (R:RT) (w:Wd):Prop:=
 J0 48 c 10 a λ d=>
 I0 9 d a λ e=>
 C0 184 #[b] R w λ f w=>
 a w∧(
 qV Pg a (Instr.build 24 #[(1,f)]) λ g=>
 C0 82 #[g,e] R w λ h w=>
 a w∧(
 LR b h a R w))
def n91 (a c:Vl) (R:RT) (w:Wd):Prop:=
 opV Pg (Instr.box 48 c) (Zh R) w λ b w=>
 F0 48 b 12 R w λ d w=>
 L0 3 d R w λ e w=>
 opV Pg (buildSlice 30 1 #[(0,e)]) (Zh R) w λ f w=>
 C0 196 #[a,(.int .i64 1),(.int .i64 3),f] R w λ h w=>
 Yy w λ g w=>
 LS a b g R w
theorem Zi8 {t0 t1:Vl} {R:RT} {w:Wd} (h:n91 t0 t1 R w):Calls Pg 217 #[t0,t1] w R:=by
 refine yD func217 ?_
 refine zs<|zr<|yv h λ _ w h=>zn<|zk<|zs<|zr<|zm<|yv h λ _ w h=>yv h λ _ w h=>yS h λ _ w h=>yc h Dg λ _ w h=>zn<|zk<|zs ?_
 refine yh [4,5,11,12,13,14,15,16,17,18,19] h λ C hC h=>yw 0 hC ?_
 refine ye 3 hC h λ _ h=>?_
 refine ye 4 hC h λ _ h=>?_
 refine yo 1 ?_
 refine yc h Mx λ _ w h=>zn ?_
 obtain ⟨hC,h⟩:=h
 refine ⟨hC,?_⟩
 refine ye 2 hC h λ _ h=>?_
 refine yo 5 ?_
 refine yc h c82 λ _ w h=>zn ?_
 obtain ⟨hC,h⟩:=h
 refine ⟨hC,?_⟩
 refine yw 6 hC ?_
 refine ye 7 hC h λ _ h=>?_
 refine ye 8 hC h λ _ h=>?_
 refine yw 9 hC ?_
 refine yw 10 hC ?_
 exact yz<|zk<|zr<|zm<|zm<|yc h UZ λ _ w h=>zn<|ZU<|Z1 rfl h
def n92 (a:Vl) (R:RT) (w:Wd):Prop:=
 opV Pg (Instr.build 45 #[]) (Zh R) w λ b w=>
 opN Pg (Xb a) (Zh R) w λ c w=>
 F0 48 c 8 R w λ d w=>
 opU Pg (storeAt 9 d (.string { data := #[] })) (Zh R) w λ w=>
 opN Pg (Xb a) (Zh R) w λ e w=>
 F0 48 e 7 R w λ f w=>
 S0 45 f b R w λ w=>
 opN Pg (Xb a) (Zh R) w λ g w=>
 F0 48 g 13 R w λ h w=>
 opU Pg (storeAt 3 h (.int .i64 0)) (Zh R) w λ w=>
 R (.returned (.tuple #[])) w
theorem Zi9 {t0:Vl} {R:RT} {w:Wd} (h:n92 t0 R w):Calls Pg 218 #[t0] w R:=by
 refine yD func218 ?_
 refine zr<|zm<|zm<|zm<|yB h λ _ w h=>yN h λ _ w h=>yv h λ _ w h=>yu h λ w h=>yN h λ _ w h=>yv h λ _ w h=>yu h λ w h=>yN h λ _ w h=>yv h λ _ w h=>yu h λ w h=>zn ?_
 exact ZU<|Z1 rfl h
def Zbz (b c:Vl) (a:WPr) (R:RT) (w:Wd):Prop:=
 qN Pg a (Xb b) λ d=>
 J0 164 d 2 a λ e=>
 I0 162 e a λ f=>
 J0 48 c 8 a λ g=>
 I0 9 g a λ h=>
 qV Pg a (Instr.lookup 162 f h false) λ i=>
 C0 122 #[b,i,(.int .i64 8)] R w λ k w=>
 a w∧(
 L0 48 c R w λ j w=>
 C0 202 #[b,j] R w λ l w=>
 R (.returned (.tuple #[])) w)
def n93 (a c:Vl) (R:RT) (w:Wd):Prop:=
 opV Pg (Instr.box 48 c) (Zh R) w λ b w=>
 F0 48 b 13 R w λ d w=>
 L0 3 d R w λ e w=>
 opV Pg (buildSlice 30 1 #[(0,e)]) (Zh R) w λ f w=>
 C0 196 #[a,(.int .i64 0),(.int .i64 4294967295),f] R w λ h w=>
 Yy w λ g w=>
 Zbz a b g R w
theorem Zja {t0 t1:Vl} {R:RT} {w:Wd} (h:n93 t0 t1 R w):Calls Pg 219 #[t0,t1] w R:=by
 refine yD func219 ?_
 refine zs<|zr<|yv h λ _ w h=>zn<|zk<|zs<|zr<|zm<|yv h λ _ w h=>yv h λ _ w h=>yS h λ _ w h=>yc h Dg λ _ w h=>zn<|zk<|zs ?_
 refine yh [9,10,11,12,13,14,15,16,17] h λ C hC h=>yw 0 hC ?_
 refine yw 1 hC ?_
 refine yn 2 hC h λ _ h=>?_
 refine ye 3 hC h λ _ h=>?_
 refine ye 4 hC h λ _ h=>?_
 refine ye 5 hC h λ _ h=>?_
 refine ye 6 hC h λ _ h=>?_
 refine ye 7 hC h λ _ h=>?_
 refine yo 8 ?_
 refine yc h UZ λ _ w h=>zn ?_
 obtain ⟨hC,h⟩:=h
 refine ⟨hC,?_⟩
 exact yz<|zk<|zr<|zm<|yv h λ _ w h=>yc h ZbO λ _ w h=>zn<|ZU<|Z1 rfl h
def AG (a b c:Vl) (R:RT) (w:Wd):Prop:=
 opV Pg (Instr.build 74 #[(0,b),(1,c)]) (Zh R) w λ d w=>
 S0 74 a d R w λ w=>
 qW Pg 74 a w λ r0=>
 R (.returned (.tuple #[r0,(.int .i64 0)])) w
def AH (b c d:Vl) (R:RT) (w:Wd):Prop:=
 opV Pg (makeFunc (.func 230) #[] #[b,c]) (Zh R) w λ a w=>
 XB Pg a #[(.bool true)] (Zh R) w λ e w=>
 XB Pg a #[(.bool false)] (Zh R) w λ f w=>
 AG d e f R w
def xT (c d a b:Vl) (R:RT) (w:Wd):Prop:=
 B0 .neq 31 true b (.int .i64 0) R w λ e w=>
 Zq e (
 opV Pg (Instr.build 74 #[]) (Zh R) w λ f w=>
 S0 74 a f R w λ w=>
 qW Pg 74 a w λ r0=>
 R (.returned (.tuple #[r0,b])) w) (
 AH c d a R w)
def Zdz (c d:Vl) (R:RT) (w:Wd):Prop:=
 opV Pg (Instr.box 45 c) (Zh R) w λ a w=>
 opV Pg (Instr.box 122 d) (Zh R) w λ b w=>
 opV Pg (Instr.alloc 74 true (.tuple #[])) (Zh R) w λ e w=>
 L0 45 a R w λ f w=>
 L0 122 b R w λ g w=>
 Yt Pg 229 #[f,(.string { data := #[] }),g,(.func (.func 228) #[] #[])] (Zh R) w λ h w=>
 xT a b e h R w
theorem ZdA {t0 t1:Vl} {R:RT} {w:Wd} (h:Zdz t0 t1 R w):Calls Pg 220 #[t0,t1] w R:=by
 refine yD func220 ?_
 refine zs<|zr<|yv h λ _ w h=>yv h λ _ w h=>yv h λ _ w h=>zm<|zn<|zk<|zs<|zr<|zm<|zn<|zk<|zs<|zs ?_
 refine zr<|yv h λ _ w h=>yv h λ _ w h=>zm<|yc h ZhI λ _ w h=>zm<|zn<|zk<|zs<|zr<|zm<|yb h λ _ w h=>zn<|zk<|yC h (λ h=>zs<|zr<|yB h λ _ w h=>zm<|yu h λ w h=>zm<|zn<|zk<|Ze<|Zb<|Yw rfl rfl rfl h) λ h=>?_
 refine Zi<|zk<|zs<|zr<|yF h λ _ w h=>zm<|zn<|zk<|zs<|zr<|zm<|yV h λ _ w h=>zm<|yV h λ _ w h=>yB h λ _ w h=>?_
 exact yu h λ w h=>zm<|zn<|zk<|Ze<|Yw rfl rfl rfl h
def n60 (a:Vl) (R:RT) (w:Wd):Prop:=
 opV Pg (Instr.box 24 a) (Zh R) w λ b w=>
 F0 24 b 1 R w λ c w=>
 L0 22 c R w λ d w=>
 C0 224 #[d] R w λ e w=>
 R (.returned e) w
theorem ZiE {t0:Vl} {R:RT} {w:Wd} (h:n60 t0 R w):Calls Pg 221 #[t0] w R:=by
 refine yD func221 ?_
 refine zs<|zr<|yv h λ _ w h=>zm<|zn<|zk<|zs<|zr<|yv h λ _ w h=>yv h λ _ w h=>yc h NU λ _ w h=>zm<|zn<|zk<|Ze ?_
 exact Zk rfl rfl h
def n5 (a b:Vl) (R:RT) (w:Wd):Prop:=
 opV Pg (ZI .and 188 true a (.int .u64 4294967295)) (Zh R) w λ c w=>
 opV Pg (ZI .shr 188 true a (.int .u64 32)) (Zh R) w λ d w=>
 opV Pg (ZI .and 188 true b (.int .u64 4294967295)) (Zh R) w λ e w=>
 opV Pg (ZI .shr 188 true b (.int .u64 32)) (Zh R) w λ f w=>
 B0 .mul 188 false c e R w λ h w=>
 B0 .mul 188 false d e R w λ i w=>
 opV Pg (ZI .shr 188 true h (.int .u64 32)) (Zh R) w λ j w=>
 B0 .add 188 false i j R w λ g w=>
 opV Pg (ZI .and 188 true g (.int .u64 4294967295)) (Zh R) w λ k w=>
 opV Pg (ZI .shr 188 true g (.int .u64 32)) (Zh R) w λ l w=>
 B0 .mul 188 false c f R w λ m w=>
 B0 .add 188 false k m R w λ n w=>
 B0 .mul 188 false d f R w λ o w=>
 B0 .add 188 false o l R w λ p w=>
 opV Pg (ZI .shr 188 true n (.int .u64 32)) (Zh R) w λ q w=>
 B0 .add 188 false p q R w λ r w=>
 B0 .mul 188 false a b R w λ s w=>
 R (.returned (.tuple #[r,s])) w
theorem n5s {t0 t1:Vl} {R:RT} {w:Wd} (h:n5 t0 t1 R w):Calls Pg 222 #[t0,t1] w R:=by
 refine yD func222 ?_
 refine zs<|zr<|zm<|zm<|zn<|zk<|zs<|zr<|zm<|yb h λ _ w h=>zm<|zn<|zk<|zs<|zr ?_
 refine zm<|yb h λ _ w h=>zm<|zn<|zk<|zs<|zr<|zm<|yb h λ _ w h=>zm<|zn<|zk<|zs<|zr<|zm ?_
 refine yb h λ _ w h=>zm<|zn<|zk<|zs<|zr<|zm<|zm<|yb h λ _ w h=>zm<|zn<|zk<|zs<|zr<|zm ?_
 refine zm<|yb h λ _ w h=>zm<|yb h λ _ w h=>yb h λ _ w h=>zm<|zn<|zk<|zs<|zr<|zm<|yb h λ _ w h=>zm<|zn<|zk ?_
 refine zs<|zr<|zm<|yb h λ _ w h=>zm<|zn<|zk<|zs<|zr<|zm<|zm<|zm<|yb h λ _ w h=>yb h λ _ w h=>zm ?_
 refine zn<|zk<|zs<|zr<|zm<|zm<|yb h λ _ w h=>zm<|yb h λ _ w h=>zm<|yb h λ _ w h=>yb h λ _ w h=>zm<|zn<|zk ?_
 exact zs<|zr<|zm<|zm<|yb h λ _ w h=>zm<|zn<|zk<|Ze<|Qe rfl rfl rfl h
def xY (e f c:Vl) (a:WPr) (R:RT) (w:Wd):Prop:=
 Zr (λ (b:Vl) (w:Wd)=>
 Zw c b (.bool false) λ g=>
 R (.returned g) w) λ d=>
 Zn c true (
 J0 45 e 1 a λ h=>
 I0 43 h a λ i=>
 C0 235 #[i,f] R w λ j w=>
 a w∧(
 qV Pg a (Op.unary .not j) λ b=>
 d b w)) (
 d undef w)
def xZ (b c d e:Vl) (a:WPr) (R:RT) (w:Wd):Prop:=
 a w∧(
 opV Pg (buildSlice 93 2 #[(0,d),(1,e)]) (Zh R) w λ f w=>
 a w∧(
 C0 158 #[f] R w λ g w=>
 a w∧(
 xY b c g a R w)))
def qa (b c:Vl) (a:WPr) (R:RT) (w:Wd):Prop:=
 J0 45 b 0 a λ d=>
 I0 3 d a λ e=>
 J0 45 b 1 a λ f=>
 I0 43 f a λ g=>
 qV Pg a (Builtin.len_ #[43] 3 #[g]) λ h=>
 qV Pg a (ZI .leq 3 true h (.int .i64 4)) λ i=>
 C0 234 #[e] R w λ j w=>
 xZ b c j i a R w
def ZdP (b:Vl) (R:RT) (w:Wd):Prop:=
 opV Pg (Instr.box 45 b) (Zh R) w λ c w=>
 opV Pg (Instr.makeMap 162 none) (Zh R) w λ d w=>
 opV Pg (Instr.alloc 162 true (.tuple #[])) (Zh R) w λ a w=>
 S0 162 a d R w λ w=>
 opV Pg (makeFunc (.func 233) #[] #[a]) (Zh R) w λ e w=>
 Yy w λ f w=>
 qa c e f R w
theorem ZdQ {t0:Vl} {R:RT} {w:Wd} (h:ZdP t0 R w):Calls Pg 223 #[t0] w R:=by
 refine yD func223 ?_
 refine zs<|zr<|yv h λ _ w h=>zm<|zn<|zk<|zs<|zr<|yv h λ _ w h=>yv h λ _ w h=>yu h λ w h=>zn<|zk<|zs<|zr ?_
 refine yF h λ _ w h=>zm<|zn<|zk<|zs<|yh [2,7,8,9,10,11,12,13,14,15,16,17,18,19,20,21,22] h λ C hC h=>ye 0 hC h λ _ h=>?_
 refine ye 1 hC h λ _ h=>?_
 refine ye 3 hC h λ _ h=>?_
 refine ye 4 hC h λ _ h=>?_
 refine ye 5 hC h λ _ h=>?_
 refine ye 6 hC h λ _ h=>?_
 refine yo 2 ?_
 refine yc h Zc9 λ _ w h=>zn ?_
 obtain ⟨hC,h⟩:=h
 refine ⟨hC,?_⟩
 refine yo 7 ?_
 refine yS h λ _ w h=>zn ?_
 obtain ⟨hC,h⟩:=h
 refine ⟨hC,?_⟩
 refine yo 8 ?_
 refine yc h SQ λ _ w h=>zn ?_
 obtain ⟨hC,h⟩:=h
 refine ⟨hC,?_⟩
 refine yw 9 hC ?_
 refine yj1 2 [14,13,12,11,10,9,8,7,2,6,5,4,3,1,0] [17,18,19,20,21] 21 h (λ _ hT hb h=>?_) (λ _ hT hb h=>?_) λ σ w hC h=>?_
 · refine ye 10 hC h λ _ h=>?_
   refine ye 11 hC h λ _ h=>?_
   refine yw 12 hC ?_
   refine yo 13 ?_
   refine yc h ZhM λ _ w h=>zn ?_
   obtain ⟨hC,h⟩:=h
   refine ⟨hC,?_⟩
   refine ye 14 hC h λ _ h=>?_
   exact yt hT hC h
 · refine yi 10 hC ?_
   refine yi 11 hC ?_
   refine yi 12 hC ?_
   refine yi 13 hC ?_
   refine yi 14 hC ?_
   exact yt hT hC h
 refine yP 15 hC h λ _ h=>?_
 refine yw 16 hC ?_
 exact yz<|zk<|Ze<|Zk rfl rfl h
def xQ (a b c:Vl) (d:WPr) (R:RT) (w:Wd):Prop:=
 F0 48 a 0 R w λ e w=>
 L0 9 e R w λ f w=>
 L0 74 b R w λ g w=>
 opU Pg (mapUpdate 122 c f g) (Zh R) w λ w=>
 d w
def xR (d e f a:Vl) (Zo:KV) (R:RT) (w:Wd):Prop:=
 E0 a 0 R w λ g w=>
 E0 a 1 R w λ h w=>
 opV Pg (Instr.alloc 74 true (.tuple #[])) (Zh R) w λ b w=>
 S0 74 b g R w λ w=>
 B0 .eql 31 true h (.int .i64 0) R w λ i w=>
 Zr (λ (w:Wd)=>
 B0 .add 3 true f (.int .i64 1) R w λ j w=>
 Zo j w) λ c=>
 Zq i (
 xQ d b e c R w) (
 c w)
def xS (c d b:Vl) (Zo:KV) (R:RT) (w:Wd):Prop:=
 X0 22 c b R w λ e w=>
 L0 48 e R w λ f w=>
 opV Pg (Instr.alloc 48 true (.tuple #[])) (Zh R) w λ a w=>
 S0 48 a f R w λ w=>
 L0 48 a R w λ g w=>
 C0 236 #[g] R w λ h w=>
 xR a d b h Zo R w
def Zdk (a:Vl) (R:RT) (w:Wd):Prop:=
 opV Pg (Instr.makeMap 122 none) (Zh R) w λ b w=>
 G0 22 3 a R w λ d w=>
 YS (λ c w Zo=>
 B0 .lss 3 false c d R w λ e w=>
 Zq e (
 xS a b c Zo R w) (
 R (.returned b) w)) (.int .i64 0) w
theorem Zdl {t0:Vl} {R:RT} {w:Wd} (h:Zdk t0 R w):Calls Pg 224 #[t0] w R:=by
 refine yD func224 ?_
 refine zs<|zr<|zm<|zn<|zk<|zs<|zr<|yv h λ _ w h=>zm<|zn<|zk<|zs<|zs<|zr<|zm ?_
 refine yx h λ _ w h=>zm<|zn<|zk<|Zj<|yl1 [5,6,7,11,12,13,14,15,16,17,18,19,20,21,22,23,24,25,26] 11 h λ σ w next h=>zs<|zr<|yb h λ _ w h=>zn<|zk<|zs<|yC h (λ h=>?_) λ h=>?_
 · refine Zi<|zk<|zs<|Zj<|zs<|zr<|yv h λ _ w h=>yv h λ _ w h=>yv h λ _ w h=>yu h λ w h=>zn<|zk<|zs<|zr<|yv h λ _ w h=>?_
   refine yc h ZhN λ _ w h=>zm<|yv h λ _ w h=>yv h λ _ w h=>yv h λ _ w h=>yu h λ w h=>zm<|zn<|zk<|zs<|zr<|zm<|yb h λ _ w h=>zn<|zk ?_
   refine yJ0 [22,23,24,25] h (λ _ _ hkK2 h=>?_) λ σ w h=>?_
   · refine yC h (λ h=>?_) λ h=>?_
     · refine zr<|zm<|yv h λ _ w h=>yv h λ _ w h=>yv h λ _ w h=>yu h λ w h=>zn<|zk ?_
       exact zt hkK2 h
     refine Zi<|zk ?_
     exact zt hkK2 h
   exact Zg<|zk<|zr<|yb h λ _ w h=>zm<|zn<|zk<|⟨rfl,h⟩
 exact ZA<|Zc<|Zc<|Zp<|zk<|zs<|zr<|zm<|zm<|zn<|zk<|Ze<|Zk rfl rfl h
def AI (a b:Vl) (c:WPr) (R:RT) (w:Wd):Prop:=
 F0 45 a 1 R w λ d w=>
 L0 43 d R w λ e w=>
 C0 60 #[e] R w λ f w=>
 S0 43 b f R w λ w=>
 c w
def ZdL (d:Vl) (R:RT) (w:Wd):Prop:=
 opV Pg (Instr.box 45 d) (Zh R) w λ a w=>
 opV Pg (Instr.alloc 43 true (.tuple #[])) (Zh R) w λ b w=>
 L0 45 a R w λ e w=>
 C0 223 #[e] R w λ f w=>
 Zr (λ (w:Wd)=>
 opV Pg (makeFunc (.func 237) #[] #[b]) (Zh R) w λ g w=>
 R (.returned g) w) λ c=>
 Zq f (
 AI a b c R w) (
 c w)
theorem ZdM {t0:Vl} {R:RT} {w:Wd} (h:ZdL t0 R w):Calls Pg 225 #[t0] w R:=by
 refine yD func225 ?_
 refine zs<|zr<|yv h λ _ w h=>zm<|zn<|zk<|zs<|zr<|yv h λ _ w h=>zn<|zk<|zs<|zs<|zr<|yv h λ _ w h=>?_
 refine yc h ZbQ λ _ w h=>zn<|zk<|yJ0 [6,7,8] h (λ _ _ hkK1 h=>?_) λ σ w h=>?_
 · refine yC h (λ h=>?_) λ h=>?_
   · refine zr<|yv h λ _ w h=>yv h λ _ w h=>yc h c60 λ _ w h=>yu h λ w h=>zn<|zk ?_
     exact zt hkK1 h
   refine Zi<|zk ?_
   exact zt hkK1 h
 exact zk<|zs<|zr<|yF h λ _ w h=>zm<|zn<|zk<|Ze<|Zk rfl rfl h
def Zec (a b:Vl) (R:RT) (w:Wd):Prop:=
 C0 134 #[a,b] R w λ c w=>
 B0 .geq 3 true c (.int .i64 0) R w λ d w=>
 R (.returned d) w
theorem Zed {t0 t1:Vl} {R:RT} {w:Wd} (h:Zec t0 t1 R w):Calls Pg 226 #[t0,t1] w R:=by
 refine yD func226 ?_
 refine zs<|zr<|zm<|zn<|zk<|zs<|zr<|zm<|zm<|yc h ZcV λ _ w h=>yb h λ _ w h=>zm<|zn<|zk<|Ze ?_
 exact Zk rfl rfl h
def n67 (e f:Vl) (R:RT) (w:Wd):Prop:=
 opV Pg (Instr.box 48 e) (Zh R) w λ b w=>
 F0 48 b 1 R w λ g w=>
 L0 42 g R w λ h w=>
 B0 .eql 42 true h (.int .i64 9) R w λ c w=>
 Zr (λ (a:Vl) (w:Wd)=>
 Zw c a (.bool false) λ i=>
 R (.returned i) w) λ d=>
 Zn c true (
 F0 48 b 9 R w λ j w=>
 L0 9 j R w λ k w=>
 F0 48 f 9 R w λ l w=>
 L0 9 l R w λ m w=>
 B0 .eql 9 false k m R w λ a w=>
 d a w) (
 d undef w)
theorem ZiL {t0 t1:Vl} {R:RT} {w:Wd} (h:n67 t0 t1 R w):Calls Pg 227 #[t0,t1] w R:=by
 refine yD func227 ?_
 refine zs<|zr<|yv h λ _ w h=>zm<|zn<|zk<|zs<|Zu<|yG 4<|yv h λ _ w h=>yv h λ _ w h=>yb h λ _ w h=>zm<|zn<|yg1 5 3 true [8,9,10,11,12] 12 h (λ _ T hT h=>?_) λ σ w h=>?_
 · refine yv h λ _ w h=>yv h λ _ w h=>yv h λ _ w h=>yv h λ _ w h=>yb h λ _ w h=>zn ?_
   exact zt hT h
 exact yG 2<|yp h λ _ h=>zm<|zn<|ZQ<|zk<|Ze<|Zk rfl rfl h
def ZdB (b:Vl) (R:RT) (w:Wd):Prop:=
 opV Pg (Instr.box 74 b) (Zh R) w λ a w=>
 F0 74 a 0 R w λ c w=>
 L0 3 c R w λ d w=>
 B0 .geq 3 true d (.int .i64 0) R w λ e w=>
 F0 74 a 0 R w λ f w=>
 L0 3 f R w λ g w=>
 F0 74 a 1 R w λ h w=>
 L0 3 h R w λ i w=>
 B0 .leq 3 false g i R w λ j w=>
 F0 74 a 1 R w λ k w=>
 L0 3 k R w λ l w=>
 B0 .lss 3 true l (.int .i64 34359738368) R w λ m w=>
 opV Pg (buildSlice 93 3 #[(0,e),(1,j),(2,m)]) (Zh R) w λ n w=>
 C0 158 #[n] R w λ o w=>
 R (.returned o) w
theorem ZdC {t0:Vl} {R:RT} {w:Wd} (h:ZdB t0 R w):Calls Pg 228 #[t0] w R:=by
 refine yD func228 ?_
 refine zs<|zr<|yv h λ _ w h=>zm<|zn<|zk<|zs<|zr<|yv h λ _ w h=>yv h λ _ w h=>yb h λ _ w h=>yv h λ _ w h=>yv h λ _ w h=>yv h λ _ w h=>yv h λ _ w h=>?_
 exact yb h λ _ w h=>yv h λ _ w h=>yv h λ _ w h=>yb h λ _ w h=>yS h λ _ w h=>yc h SQ λ _ w h=>zm<|zn<|zk<|Ze<|Zk rfl rfl h
def VU (b c d:Vl) (e:WPr) (a:PEn) (f:Nat→Wd→Prop) (R:RT) (w:Wd):Prop:=
 opV Pg (loadAt 236 b) a w λ g w=>
 opV Pg (loadAt 74 d) a w λ h w=>
 XB Pg g #[h] a w λ i w=>
 opV Pg (Op.unary .not i) a w λ j w=>
 Zq j (
 opU Pg (storeAt 31 c (.int .i64 2)) a w λ w=>
 f 0 w) (
 e w)
def VV (f g h i j c:Vl) (k:WPr) (a:PEn) (l:Nat→Wd→Prop) (R:RT) (w:Wd):Prop:=
 opV Pg (loadAt 122 g) a w λ m w=>
 opV Pg (Instr.lookup 122 m c true) a w λ d w=>
 opV Pg (Instr.extract d 0) a w λ n w=>
 opV Pg (Instr.extract d 1) a w λ o w=>
 opV Pg (Instr.alloc 74 true (.tuple #[])) a w λ e w=>
 opU Pg (storeAt 74 e n) a w λ w=>
 opV Pg (loadAt 9 f) a w λ p w=>
 opV Pg (ZI .eql 9 false c p) a w λ q w=>
 Zr (λ (w:Wd)=>
 k w) λ b=>
 Zq q (
 b w) (
 opV Pg (Op.unary .not o) a w λ r w=>
 Zq r (
 opU Pg (storeAt 4 j (.bool true)) a w λ w=>
 b w) (
 VU h i e b a l R w))
def VW (a b:Vl) (ds:LDf) (R:RT) (w:Wd):Prop:=
 opV Pg (loadAt 4 b) (OQ0 ds 31 a R) w λ c w=>
 Zq c (
 opU Pg (storeAt 31 a (.int .i64 9)) (OQ0 ds 31 a R) w λ w=>
 Us Pg ds [(some 31,a)] R w) (
 opU Pg (storeAt 31 a (.int .i64 0)) (OQ0 ds 31 a R) w λ w=>
 Us Pg ds [(some 31,a)] R w)
def Vs (c d e a b f:Vl) (ds:LDf) (R:RT) (w:Wd):Prop:=
 Bo Pg f ds (λ l1 g w h i j=>
 zW l1 w λ w=>
 VV c d e a b g h j i R w) (λ ch ds w=>OQ0 ds 31 a R ch w) w (λ ds w=>
 VW a b ds R w) [λ ds w=>
 Us Pg ds [(some 31,a)] R w]
def VX (c d e f a:Vl) (ds:LDf) (R:RT) (w:Wd):Prop:=
 opV Pg (Instr.alloc 4 true (.tuple #[])) (OQ0 ds 31 a R) w λ b w=>
 opU Pg (storeAt 4 b (.bool false)) (OQ0 ds 31 a R) w λ w=>
 opV Pg (loadAt 45 c) (OQ0 ds 31 a R) w λ g w=>
 Yt Pg 225 #[g] (OQ0 ds 31 a R) w λ h w=>
 Vs d e f a b h ds R w
def VY (b c d e a f:Vl) (ds:LDf) (R:RT) (w:Wd):Prop:=
 opV Pg (Op.unary .not f) (OQ0 ds 31 a R) w λ g w=>
 Zq g (
 opU Pg (storeAt 31 a (.int .i64 2)) (OQ0 ds 31 a R) w λ w=>
 Us Pg ds [(some 31,a)] R w) (
 VX b c d e a ds R w)
def Zb0 (c d e f:Vl) (R:RT) (w:Wd):Prop:=
 (λ (ds:LDf)=>
 opV Pg (Instr.box 45 c) (ZP Pg ds [(some 31,undef)] R) w λ b w=>
 opV Pg (Instr.box 9 d) (ZP Pg ds [(some 31,undef)] R) w λ g w=>
 opV Pg (Instr.box 122 e) (ZP Pg ds [(some 31,undef)] R) w λ h w=>
 opV Pg (Instr.box 236 f) (ZP Pg ds [(some 31,undef)] R) w λ i w=>
 opV Pg (Instr.alloc 31 true (.tuple #[])) (ZP Pg ds [(some 31,undef)] R) w λ a w=>
 opV Pg (loadAt 45 b) (OQ0 ds 31 a R) w λ j w=>
 Yt Pg 223 #[j] (OQ0 ds 31 a R) w λ k w=>
 VY b g h i a k ds R w) []
theorem ZdV {t0 t1 t2 t3:Vl} {R:RT} {w:Wd} (h:Zb0 t0 t1 t2 t3 R w):Calls Pg 229 #[t0,t1,t2,t3] w R:=by
 refine yE func229 ?_
 unfold Zb0 at h
 dsimp only at h
 refine zs<|zr<|yv h λ _ w h=>yv h λ _ w h=>yv h λ _ w h=>yv h λ _ w h=>yv h λ _ w h=>zn<|zk<|zs<|zs<|zr<|yv h λ _ w h=>yc h ZbQ λ _ w h=>yv h λ _ w h=>?_
 refine zn<|zk<|yC h (λ h=>zs<|zr<|yu h λ w h=>zn<|zk<|Ze<|Zb<|Y9 rfl h) λ h=>Zi<|zk<|zs<|zr<|yv h λ _ w h=>yu h λ w h=>zn<|zk<|zs<|zs<|zr ?_
 refine yv h λ _ w h=>yc h Zc7 λ _ w h=>zn<|zk<|Zj<|Gw [.ret] h rfl (λ l1 t18 w Kr1 Xr1 Qr1 h=>?_) (λ ds w h=>?_) (λ c ds w h=>?_) (λ ch ds w h=>Ql rfl h)
 · refine zr<|zm<|zn<|zk ?_
   obtain ⟨hr,h⟩:=h
   refine ⟨rfl,hr,λ w hb=>?_⟩
   have h:=h w hb
   refine Zj<|zs<|zr<|yv h λ _ w h=>zm<|yv h λ _ w h=>zm<|yv h λ _ w h=>yv h λ _ w h=>yv h λ _ w h=>yu h λ w h=>zm<|zn<|zk<|Zj ?_
   refine zs<|zr<|zm<|yv h λ _ w h=>yb h λ _ w h=>zm<|zn<|zk<|yJ0 [29,30,31,32,33,34,35,36] h (λ _ _ hkK2 h=>?_) λ σ w h=>?_
   · refine yC h (λ h=>?_) λ h=>?_
     · refine Zi<|zk ?_
       exact zt hkK2 h
     refine zs<|zr<|zm<|yv h λ _ w h=>zm<|zn<|zk<|yC h (λ h=>?_) λ h=>?_
     · refine zr<|yu h λ w h=>zn<|zk ?_
       exact zt hkK2 h
     refine zs<|zr<|yv h λ _ w h=>yv h λ _ w h=>yV h λ _ w h=>yv h λ _ w h=>zm<|zn<|zk<|yC h (λ h=>zs<|zr<|yu h λ w h=>zn<|zk<|Ze<|Zb<|Zf<|Zf<|⟨rfl,0,rfl,h⟩) λ h=>Zi<|zk ?_
     exact zt hkK2 h
   exact Zg<|Zg<|⟨rfl,h⟩
 · refine Zg<|zk<|zs<|zs<|zr<|yv h λ _ w h=>zn<|zk<|yC h (λ h=>zs<|zr<|yu h λ w h=>zn<|zk<|Ze<|Zb<|Y9 rfl h) λ h=>Zi<|zk<|zs<|zr<|yu h λ w h=>?_
   exact zn<|zk<|Ze<|Y9 rfl h
 rcases c with _ | c
 · refine ⟨_,rfl,.inl ⟨rfl,?_⟩⟩
   exact Zf<|Zb<|Y9 rfl h
 exact h.elim
def ZdD (a b c:Vl) (R:RT) (w:Wd):Prop:=
 opV Pg (Instr.box 4 a) (Zh R) w λ d w=>
 L0 45 b R w λ e w=>
 opV Pg (makeFunc (.func 232) #[] #[c,d]) (Zh R) w λ f w=>
 C0 231 #[e,f] R w λ g w=>
 R (.returned g) w
theorem ZdE {t0 t1 t2:Vl} {R:RT} {w:Wd} (h:ZdD t0 t1 t2 R w):Calls Pg 230 #[t0,t1,t2] w R:=by
 refine yD func230 ?_
 refine zs<|zr<|yv h λ _ w h=>zm<|zn<|zk<|zs<|zr<|yv h λ _ w h=>yF h λ _ w h=>yc h ZhJ λ _ w h=>zm<|zn<|zk<|Ze ?_
 exact Zk rfl rfl h
open Go.RowKit (intOf)
def Wx (c:UInt8):Bool:=(decide (65≤(c.toNat:Int))&&decide ((c.toNat:Int)≤90))||(decide (97≤(c.toNat:Int))&&decide ((c.toNat:Int)≤122))
def G3 (c:UInt8):Bool:=decide (48≤(c.toNat:Int))&&decide ((c.toNat:Int)≤57)
def Uw (c:UInt8):Bool:=Wx c||G3 c||((c.toNat:Int) == 95)
def W4 (v:Int):Bool:=decide (-1048576≤v)&&decide (v≤1048576)
def Qv (s:BAr):Bool:=decide (1≤(s.size:Int))&&decide ((s.size:Int)≤32)&&(match s.data.toList with | []=>false | c::_=>Wx c)&&s.data.toList.all Uw
theorem Ay (w0:Wd) (c:UInt8):Ret Pg 156 #[.int .u8 c.toNat] w0 λ r w'=>r = .bool (Wx c)∧Ext w0 w':=by
 refine ZdZ (R:=ZO _) ?_;unfold ZdY
 simp (disch:=try exact DI) only [↓PR,QR,simprocAttr,↓HU,↓HV]
 unfold Wx
 have e:=Ext.refl w0
 generalize decide (65≤(c.toNat:Int))=b1
 generalize decide ((c.toNat:Int)≤90)=b2
 generalize decide (97≤(c.toNat:Int))=b3
 generalize decide ((c.toNat:Int)≤122)=b4
 cases b1<;>cases b2<;>cases b3<;>cases b4<;>simp (disch:=try exact DI) only [↓PR,QR,simprocAttr,↓HU,↓HV]<;>exact ⟨by trivial,e⟩
theorem jn (w0:Wd) (c:UInt8):Ret Pg 117 #[.int .u8 c.toNat] w0 λ r w'=>r = .bool (Wx c)∧Ext w0 w':=by
 refine Zh2 (R:=ZO _) ?_;unfold n20
 simp (disch:=try exact DI) only [↓PR,QR,simprocAttr,↓PS,↓PT]
 unfold Wx
 have e:=Ext.refl w0
 generalize decide (65≤(c.toNat:Int))=b1
 generalize decide ((c.toNat:Int)≤90)=b2
 generalize decide (97≤(c.toNat:Int))=b3
 generalize decide ((c.toNat:Int)≤122)=b4
 cases b1<;>cases b2<;>cases b3<;>cases b4<;>simp (disch:=try exact DI) only [↓PR,QR,simprocAttr,↓PS,↓PT]<;>exact ⟨by trivial,e⟩
theorem ML (w0:Wd) (c:UInt8):Ret Pg 157 #[.int .u8 c.toNat] w0 λ r w'=>r = .bool (G3 c)∧Ext w0 w':=by
 refine ZdX (R:=ZO _) ?_;unfold ZdW
 simp (disch:=try exact DI) only [↓PR,QR,simprocAttr,Sw.joinK_eq]
 unfold G3
 have e:=Ext.refl w0
 generalize decide (48≤(c.toNat:Int))=b1
 generalize decide ((c.toNat:Int)≤57)=b2
 cases b1<;>cases b2<;>simp (disch:=try exact DI) only [↓PR,QR,simprocAttr,Sw.joinK_eq]<;>exact ⟨by trivial,e⟩
theorem IG (w0:Wd) (c:UInt8):Ret Pg 118 #[.int .u8 c.toNat] w0 λ r w'=>r = .bool (G3 c)∧Ext w0 w':=by
 refine Zh1 (R:=ZO _) ?_;unfold n19
 simp (disch:=try exact DI) only [↓PR,QR,simprocAttr,Sw.joinK_eq]
 unfold G3
 have e:=Ext.refl w0
 generalize decide (48≤(c.toNat:Int))=b1
 generalize decide ((c.toNat:Int)≤57)=b2
 cases b1<;>cases b2<;>simp (disch:=try exact DI) only [↓PR,QR,simprocAttr,Sw.joinK_eq]<;>exact ⟨by trivial,e⟩
theorem CU (w0:Wd) (v:Int):Ret Pg 234 #[.int .i64 v] w0 λ r w'=>r = .bool (W4 v)∧Ext w0 w':=by
 refine Zd3 (R:=ZO _) ?_;unfold Zd2
 simp (disch:=try exact DI) only [↓PR,QR,simprocAttr,Sw.joinK_eq]
 unfold W4
 have e:=Ext.refl w0
 generalize decide (-1048576≤v)=b1
 generalize decide (v≤1048576)=b2
 cases b1<;>cases b2<;>simp (disch:=try exact DI) only [↓PR,QR,simprocAttr,Sw.joinK_eq]<;>exact ⟨by trivial,e⟩
def jE (w:Wd) (v:Vl) (l:List Bool):Prop:=Zd w 1 En v l
theorem jR (w0:Wd) (v:Vl) (l:List Bool) (x:Bool) (hs:jE w0 v l) :
 Ret Pg 192 #[v,.bool x] w0 λ r w'=>r = .int .i64 (idx (x == ·) l)∧Ext w0 w':=by
 obtain ⟨A,c,rfl,hlc,hcm,hlm,Y3⟩:=Zd.open hs
 refine Zez (R:=ZO _) ?_;unfold Zey
 simp (disch:=try exact DI) only [↓PR,QR,simprocAttr]
 refine ZF (λ i w=>∃ k:Nat,i = .int .i64 k∧k≤l.length∧Ext w0 w∧∀ (j:Nat) y,j < k→l[j]?=some y→(x == y)=false) (λ i _=>l.length - (intOf i).toNat) ⟨0,rfl,by omega,Ext.refl _,λ j y h=>by omega⟩ ?_
 rintro i w ⟨k,rfl,hk,e,hb⟩
 by_cases Yv:k < l.length
 · obtain ⟨y,hy⟩:=getElem?_lt Yv
   obtain ⟨b,o,cs,rfl,hl,hA,rfl⟩:=Y3 k y hy
   have hd:decide ((k:Int) < (l.length:Int))=true:=by simp;omega
   have hc:w.cell? ⟨b,o+k*1,none⟩=some (.bool y):=(hA.ext e).cell 0 rfl
   simp (disch:=try exact DI) only [↓PR,QR,simprocAttr,hd,hc,↓HW]
   cases hp:(x == y) with
   | true=>
    simp (disch:=try exact DI) only [↓PR,QR,simprocAttr]
    exact ⟨by rw [WU hy hp hb],e⟩
   | false=>
    simp (disch:=try exact DI) only [↓PR,QR,simprocAttr]
    exact ⟨⟨k+1,rfl,by omega,e,V8 hb hy hp⟩,by simp [intOf];omega⟩
 · have hd:decide ((k:Int) < (l.length:Int))=false:=by simp;omega
   simp (disch:=try exact DI) only [↓PR,QR,simprocAttr,hd,↓HW]
   exact ⟨by rw [Ud λ j y hy=>hb j y (by have:=(List.getElem?_eq_some_iff.1 hy).1;omega) hy],e⟩
theorem zL (w0:Wd) (v:Vl) (l:List Bool) (x:Bool) (hs:jE w0 v l) :
 Ret Pg 182 #[v,.bool x] w0 λ r w'=>r = .bool (l.any (x == ·))∧Ext w0 w':=by
 refine Zej (R:=ZO _) ?_;unfold Zei
 refine Zs (jR _ _ l x hs) ?_
 rintro r w' ⟨rfl,e⟩
 simp (disch:=try exact DI) only [↓PR,QR,simprocAttr,Sw.joinK_eq]
 exact ⟨by rw [Qq],e⟩
theorem De (w0:Wd) (v:Vl) (l:List Bool) (hs:jE w0 v l) :
 Ret Pg 158 #[v] w0 λ r w'=>r = .bool (l.all id)∧Ext w0 w':=by
 refine ZdU (R:=ZO _) ?_;unfold ZdT
 refine Zs (zL _ _ l false hs) ?_
 rintro r w' ⟨rfl,e⟩
 simp (disch:=try exact DI) only [↓PR,QR,simprocAttr,Sw.joinK_eq]
 refine ⟨?_,e⟩
 congr 1
 clear hs
 induction l with
 | nil=>rfl
 | cons a l ih=>cases a<;>simp_all
theorem Hs (w0:Wd) (c:UInt8):Ret Pg 155 #[.int .u8 c.toNat] w0 λ r w'=>r = .bool (!Uw c)∧Ext w0 w':=by
 refine ZdK (R:=ZO _) ?_;unfold ZdJ
 refine Zs (Ay _ c) ?_
 rintro r w' ⟨rfl,e⟩
 simp (disch:=try exact DI) only [↓PR,QR,simprocAttr,↓xU,↓xV]
 unfold Uw
 cases Wx c with
 | true=>simp (disch:=try exact DI) only [↓PR,QR,simprocAttr,↓xU,↓xV];exact ⟨by trivial,e⟩
 | false=>
  simp (disch:=try exact DI) only [↓PR,QR,simprocAttr,↓xU,↓xV]
  refine Zs (ML _ c) ?_
  rintro r w2 ⟨rfl,e2⟩
  have e3:=e.trans e2
  cases G3 c with
  | true=>simp (disch:=try exact DI) only [↓PR,QR,simprocAttr,↓xU,↓xV];exact ⟨by trivial,e3⟩
  | false=>simp (disch:=try exact DI) only [↓PR,QR,simprocAttr,↓xU,↓xV];exact ⟨by trivial,e3⟩
def I9 (w:Wd) (v:Vl) (l:List UInt8):Prop:=Zd w 1 TR v l
theorem Jn (w0:Wd) (v:Vl) (l:List UInt8) (g:FuncId) (caps:AVl) (p:UInt8→Bool) (hs:I9 w0 v l) (hg:Callable Pg g) (hc:jW w0 (λ _ v x=>v = .int .u8 (x.toNat:Int)) g caps p l) :
 Ret Pg 159 #[v,.func (.func g) #[] caps] w0 λ r w'=>r = .bool (l.any p)∧Ext w0 w':=by
 refine Zeh (R:=ZO _) ?_;unfold Zeg
 refine Zs (GX _ _ l g caps p hs hg hc) ?_
 rintro r w' ⟨rfl,e⟩
 simp (disch:=try exact DI) only [↓PR,QR,simprocAttr,Sw.joinK_eq]
 exact ⟨by rw [Qq],e⟩
theorem j1 (w:Wd) (l:List Bool) (T:TypeId) (hl:l.length≤9223372036854775807):jE (w.alloc (.cells (l.map Value.bool).toArray T)) (.slice (some ⟨w.heap.size,0,none⟩) l.length l.length) l:=Zd.new1 _ (λ _ _=>rfl) w l T hl
theorem NR {w:Wd} {p:Nat} (hp:p=w.heap.size) (a b:Bool) (T:TypeId):Ret Pg 158 #[.slice (some ⟨p,0,none⟩) 2 2] (w.alloc (.cells #[.bool a,.bool b] T)) λ r w'=>r = .bool (a&&b)∧Ext (w.alloc (.cells #[.bool a,.bool b] T)) w':=by
 subst hp
 have h:=De _ _ [a,b] (j1 w [a,b] T (by simp))
 simpa using h
theorem Et {w:Wd} {p:Nat} (hp:p=w.heap.size) (a b c:Bool) (T:TypeId):Ret Pg 158 #[.slice (some ⟨p,0,none⟩) 3 3] (w.alloc (.cells #[.bool a,.bool b,.bool c] T)) λ r w'=>r = .bool (a&&b&&c)∧Ext (w.alloc (.cells #[.bool a,.bool b,.bool c] T)) w':=by
 subst hp
 have h:=De _ _ [a,b,c] (j1 w [a,b,c] T (by simp))
 simpa [Bool.and_assoc] using h
theorem zS (w0:Wd) (s:BAr):Ret Pg 123 #[.string s] w0 λ r w'=>r = .bool (Qv s)∧Ext w0 w':=by
 refine ZdI (R:=ZO _) ?_;unfold ZdH
 simp (disch:=try exact DI) only [↓PR,QR,simprocAttr,↓za,↓zf]
 have e1:Ext w0 (w0.alloc (.cells #[.bool (decide (1≤(s.size:Int))),.bool (decide ((s.size:Int)≤32))] 4)):=(Ext.refl w0).alloc _
 refine Zs (De _ _ [decide (1≤(s.size:Int)),decide ((s.size:Int)≤32)] (j1 w0 [decide (1≤(s.size:Int)),decide ((s.size:Int)≤32)] 4 (by simp))) ?_
 rintro r w1 ⟨rfl,e2⟩
 have e:=e1.trans e2
 have hall:[decide (1≤(s.size:Int)),decide ((s.size:Int)≤32)].all id=(decide (1≤(s.size:Int))&&decide ((s.size:Int)≤32)):=by simp
 rw [hall]
 unfold Qv
 cases h1:(decide (1≤(s.size:Int))&&decide ((s.size:Int)≤32)) with
 | false=>simp (disch:=try exact DI) only [↓PR,QR,simprocAttr,↓za,↓zf];exact ⟨by trivial,e⟩
 | true=>
  simp (disch:=try exact DI) only [↓PR,QR,simprocAttr,↓za,↓zf]
  have Xl:s.size≤9223372036854775807:=by simp only [Bool.and_eq_true,decide_eq_true_eq] at h1;omega
  obtain ⟨c,cs,hcs⟩:∃ c cs,s.data.toList=c::cs:=by
   simp only [Bool.and_eq_true,decide_eq_true_eq] at h1
   cases hd:s.data.toList with
   | nil=>
    have:s.data.size=0:=by rw [← Array.length_toList,hd];rfl
    have h0:s.size=s.data.size:=rfl
    omega
   | cons c cs=>exact ⟨c,cs,rfl⟩
  rw [Bc underlying9 s .i64 (b:=c) (by rw [hcs];rfl)]
  refine Zs (Ay _ c) ?_
  rintro r w2 ⟨rfl,e3⟩
  have e:=e.trans e3
  rw [hcs]
  cases hl:Wx c with
  | false=>simp (disch:=try exact DI) only [↓PR,QR,simprocAttr,↓za,↓zf];exact ⟨by rw [hl];rfl,e⟩
  | true=>
   simp (disch:=try exact DI) only [↓PR,QR,simprocAttr,↓za,↓zf]
   refine RO underlying9 underlying200 underlying5 s Xl ?_
   rintro v w3 e4 ⟨A,cp,rfl,hc1,hc2,b,rfl,Xr⟩
   have VF:s.data.toList.length=s.size:=by rw [Array.length_toList];rfl
   have hB:I9 w3 (.slice (some ⟨b,0,none⟩) s.size cp) s.data.toList:=by
    rw [← VF]
    refine ⟨_,_,rfl,by omega,hc2,λ _=>⟨_,_,rfl,λ k x hx=>⟨[.int .u8 x.toNat],rfl,λ j v hv=>?_,rfl⟩⟩⟩
    cases j with
    | zero=>injection hv with hv;subst hv;simpa using Xr k x hx
    | succ j=>cases hv
   have e:=e.trans e4
   refine Zs (Jn _ _ s.data.toList _ _ (λ x=>!Uw x) hB ZgX ?_) ?_
   · rintro w v x _ _ rfl
     exact Hs w x
   · rintro r w4 ⟨rfl,e5⟩
     simp (disch:=try exact DI) only [↓PR,QR,simprocAttr,↓za,↓zf]
     refine ⟨?_,e.trans e5⟩
     rw [hcs,hl]
     congr 1
     generalize c::cs=l
     clear hall
     induction l with
     | nil=>rfl
     | cons a l ih=>simp only [List.any_cons,List.all_cons,Bool.not_or,Bool.not_not,Bool.true_and] at *;rw [ih]
def VE (t:Z3):Bool:=Qv t.field&&(t.factor != 0)&&W4 t.factor
theorem Es (w:Wd) (t:Z3) (pb r:Nat) (names:List BAr) (Xr:w.cell? ⟨pb,0,none⟩=some (.map (some r))) (hm:Jg w r names) :
 Ret Pg 233 #[Kc t,.pointer (some ⟨pb,0,none⟩)] w λ v w'=>v = .bool (Kq names t.field||!VE t)∧Jg w' r (names++[t.field])∧w'.cell? ⟨pb,0,none⟩=some (.map (some r)) ∧
  ∀ w0,Ext w0 w→w0.heap.size≤r→Ext w0 w':=by
 have hpb:pb < w.heap.size:=World.block_lt_of_cell? w _ Xr
 obtain ⟨L,c,hM,hl⟩:=hm
 refine ZdS (R:=ZO _) ?_;unfold ZdR
 unfold Kc
 simp (disch:=try exact DI) only [↓PR,QR,simprocAttr,Xr]
 have e1:Ext w (w.alloc (.cells #[.string t.field,.int .i64 t.factor] 62)):=(Ext.refl w).alloc _
 rw [jh underlying162 underlying9 ty4 (hM.ext e1)]
 simp (disch:=try exact DI) only [↓PR,QR,simprocAttr,Xr]
 rw [GS underlying162 underlying9 (hM.ext e1)]
 obtain ⟨W,hW⟩:∃ W,((w.alloc (.cells #[.string t.field,.int .i64 t.factor] 62)).putObj r (Gr (Kg L c t.field (.bool true)) (Ku L c t.field)))=W:=⟨_,rfl⟩
 have hS:Jg W r (names++[t.field]):=by rw [← hW];exact Jg.put (hM.ext e1) hl _
 have hC:W.cell? ⟨pb,0,none⟩=some (.map (some r)):=by rw [← hW,JC (hM.ext e1)];exact e1.cell Xr
 have hE:∀ w0,Ext w0 w→w0.heap.size≤r→Ext w0 W:=λ w0 h0 hr=>by rw [← hW];exact (h0.trans e1).putObj hr _
 have hA0:W.cell? ⟨w.heap.size,0,none⟩=some (.string t.field):=by rw [← hW,JC (hM.ext e1),Ko];rfl
 have hA1:W.cell? ⟨w.heap.size,1,none⟩=some (.int .i64 t.factor):=by rw [← hW,JC (hM.ext e1),Ko];rfl
 rw [hW]
 refine Zy ?_
 have ht8:(Sw.look L t.field).getD (.bool false) = .bool (Kq names t.field):=by rw [hl];cases Kq names t.field<;>rfl
 rw [ht8]
 have fin:∀ b w',Ext W w'→b=(Kq names t.field||!VE t)→(Value.bool b = .bool (Kq names t.field||!VE t)∧Jg w' r (names++[t.field])∧w'.cell? ⟨pb,0,none⟩=some (.map (some r))∧∀ w0,Ext w0 w→w0.heap.size≤r→Ext w0 w'):=
  λ b w' e hb=>⟨by rw [hb],hS.ext e,e.cell hC,λ w0 h0 hr=>(hE w0 h0 hr).trans e⟩
 cases xK:Kq names t.field with
 | true=>
  simp (disch:=try exact DI) only [↓PR,QR,simprocAttr,↓AL,↓AM]
  exact ⟨trivial,(fin (true||!VE t) _ (Ext.refl _).wdrew (by rw [xK])).2⟩
 | false=>
  simp (disch:=try exact DI) only [↓PR,QR,simprocAttr,↓AL,↓AM,hA0,hA1]
  refine zcr (zS _ t.field) λ w1 e2=>?_
  refine ⟨e2,?_⟩
  refine zcr (CU _ t.factor) λ w2 e3=>?_
  refine ⟨e2.trans e3,?_⟩
  simp (disch:=try exact DI) only [↓PR,QR,simprocAttr,↓AL,↓AM]
  have e:=e2.trans e3
  refine ⟨e.alloc _,?_⟩
  refine zcr (Et rfl _ _ _ _) λ w3 e4=>?_
  refine ⟨(e.alloc _).trans e4,?_⟩
  simp (disch:=try exact DI) only [↓PR,QR,simprocAttr,↓AL,↓AM]
  exact ⟨rfl,(fin (!VE t) w3 (((Ext.refl _).wdrew).trans ((e.alloc _).trans e4)) (by rw [xK];rfl)).2⟩
def Gi:List BAr→List Z3→Bool
 | _,[]=>true
 | seen,t::ts=>!(Kq seen t.field)&&VE t&&Gi (seen++[t.field]) ts
theorem UX:∀ (ts:List Z3) (seen:List BAr),Gi seen ts=true↔∀ k x,ts[k]?=some x→(Kq (seen++(ts.take k).map (·.field)) x.field||!VE x)=false
 | [],seen=>by simp [Gi]
 | t::ts,seen=>by
  simp only [Gi,Bool.and_eq_true,UX ts]
  constructor
  · rintro ⟨⟨h1,h2⟩,h3⟩ k x hx
    cases k with
    | zero=>simp at hx;subst hx;simpa using ⟨by simpa using h1,h2⟩
    | succ k=>have:=h3 k x (by simpa using hx);simpa using this
  · intro h
    refine ⟨?_,λ k x hx=>by simpa using h (k+1) x (by simpa using hx)⟩
    have:=h 0 t rfl
    simp at this
    exact ⟨by rw [this.1];rfl,this.2⟩
theorem Js (w0 w1:Wd) (v:Vl) (l:List Z3) (g:FuncId) (caps:AVl) (p:Nat→Bool) (J:Nat→Wd→Prop) (hs:ZV w0 v l) (hg:Callable Pg g) (hJ:∀ k w,J k w→Ext w0 w) (h0:J 0 w1)
 (hc:∀ k x w u,l[k]?=some x→J k w→(λ _ v x=>v=Kc x) w u x→Ret Pg g (#[u]++caps) w λ r w'=>r = .bool (p k)∧J (k+1) w') :
 Ret Pg 235 #[v,.func (.func g) #[] caps] w1 λ r w'=>r = .bool ((List.range l.length).any p)∧∃ k,J k w':=by
 refine Zef (R:=ZO _) ?_;unfold Zee
 refine Zs (zO w0 _ _ l g caps p J hs hg hJ h0 hc) ?_
 rintro r w' ⟨rfl,e⟩
 simp (disch:=try exact DI) only [↓PR,QR,simprocAttr,Sw.joinK_eq]
 exact ⟨by rw [Qq],e⟩
def WO (base:Int) (ts:List Z3):Bool:=W4 base&&decide (ts.length≤4)&&Gi [] ts
theorem xx (w0:Wd) (v:Vl) (base:Int) (ts:List Z3) (hs:KD w0 v base ts) :
 Ret Pg 223 #[v] w0 λ r w'=>r = .bool (WO base ts)∧Ext w0 w':=by
 obtain ⟨tv,rfl,hT⟩:=hs
 refine ZdQ (R:=ZO _) ?_;unfold ZdP
 simp (disch:=try exact DI) only [↓PR,QR,simprocAttr]
 obtain ⟨A,c,rfl,hlc,hcm,hlm,Y3⟩:=Zd.open hT
 obtain ⟨W1,hW1⟩:∃ W1,w0.alloc (.cells #[.int .i64 base,.slice A ts.length c] 45)=W1:=⟨_,rfl⟩
 have e0:Ext w0 W1:=by rw [← hW1];exact (Ext.refl w0).alloc _
 have hc0:W1.cell? ⟨w0.heap.size,0,none⟩=some (.int .i64 base):=by rw [← hW1];simp (disch:=try exact DI) only [↓PR,QR,simprocAttr]
 have hc1:W1.cell? ⟨w0.heap.size,1,none⟩=some (.slice A ts.length c):=by rw [← hW1];simp (disch:=try exact DI) only [↓PR,QR,simprocAttr]
 have VF:w0.heap.size+1=W1.heap.size:=by rw [← hW1];simp (disch:=try exact DI) only [↓PR,QR,simprocAttr]
 simp only [hW1,VF]
 refine Dl (w1:=W1) (((Ext.refl W1).alloc _).alloc _) ?_
 simp (disch:=try exact DI) only [↓PR,QR,simprocAttr,↓xY,↓xZ,↓qa,hc0,hc1]
 generalize hW:(World.drew _)=W
 have e1:Ext W1 W:=by rw [← hW];exact (((Ext.refl W1).alloc _).alloc _).wdrew
 have hpb:W.cell? ⟨W1.heap.size+1,0,none⟩=some (.map (some W1.heap.size)):=by rw [← hW];simp (disch:=try exact DI) only [↓PR,QR,simprocAttr]
 have hset:Jg W W1.heap.size []:=by
  rw [← hW]
  have h:=(jT.new W1).ext (((Ext.refl _).alloc (Obj.cells (#[Value.map none].setIfInBounds 0 (Value.map (some W1.heap.size))) 162)).wdrew)
  exact ⟨[],0,by simpa using h,λ s=>rfl⟩
 clear hW
 refine zcr (CU _ base) λ w1 e2=>?_
 refine ⟨e1.trans e2,?_⟩
 simp (disch:=try exact DI) only [↓PR,QR,simprocAttr]
 refine ⟨e1.trans (e2.alloc _),?_⟩
 refine zcr (NR rfl _ _ _) λ w2 e3=>?_
 replace e2:=(e2.alloc _).trans e3
 refine ⟨e1.trans e2,?_⟩
 simp (disch:=try exact DI) only [↓PR,QR,simprocAttr,↓xY,↓xZ,↓qa]
 unfold WO
 cases hb:(W4 base&&decide (ts.length≤4)) with
 | false=>
  have hb':(W4 base&&decide ((ts.length:Int)≤4))=false:=by rw [← hb];congr 1;simp;omega
  rw [hb']
  simp (disch:=try exact DI) only [↓PR,QR,simprocAttr,↓xY,↓xZ,↓qa,hc0,hc1]
  exact ⟨by trivial,e0.trans (e1.trans e2)⟩
 | true=>
  have hb':(W4 base&&decide ((ts.length:Int)≤4))=true:=by rw [← hb];congr 1;simp;omega
  rw [hb']
  simp (disch:=try exact DI) only [↓PR,QR,simprocAttr,↓xY,↓xZ,↓qa,hc0,hc1]
  refine Zs (Js W1 w2 _ ts 233 _ (λ k=>match ts[k]? with | some t=>Kq ((ts.take k).map (·.field)) t.field||!VE t | none=>true) (λ k w=>Jg w W1.heap.size ((ts.take k).map (·.field))∧w.cell? ⟨W1.heap.size+1,0,none⟩=some (.map (some W1.heap.size))∧Ext W1 w) (hT.ext e0) ZhL (λ k w h=>h.2.2) ⟨hset.ext e2,e2.cell hpb,e1.trans e2⟩ ?_) ?_
  · rintro k x w u hx ⟨h1,h2,h3⟩ rfl
    simp only [VF]
    refine Ret.mono (Es w x _ _ _ h2 h1) ?_
    rintro v w' ⟨rfl,h4,h5,h6⟩
    refine ⟨by rw [hx],?_,h5,h6 _ h3 (Nat.le_refl _)⟩
    rw [List.take_add_one,hx]
    simpa using h4
  · rintro _ w3 ⟨rfl,k,h1,h2,h3⟩
    refine ⟨h3,?_⟩
    simp (disch:=try exact DI) only [↓PR,QR,simprocAttr,↓xY,↓xZ,↓qa]
    refine ⟨?_,e0.trans h3⟩
    congr 1
    rw [Bool.eq_iff_iff,UX,Bool.not_eq_true',List.any_eq_false]
    simp only [List.mem_range,List.nil_append]
    constructor
    · intro h k x hx
      have:=h k (List.getElem?_eq_some_iff.1 hx).1
      rw [hx] at this
      simpa using this
    · intro h k hk
      rw [List.getElem?_eq_getElem hk]
      have:=h k _ (List.getElem?_eq_getElem hk)
      simpa using this
def GG (b c d:Vl) (a:WPr) (ZT:KV) (R:RT) (w:Wd):Prop:=
 qN Pg a (Xb c) λ e=>
 J0 48 e 11 a λ f=>
 S0 46 f d R w λ w=>
 Xt w λ h w=>
 B0 .add 3 true b (.int .i64 1) R w λ g w=>
 ZT g w
def GH (c b d e:Vl) (a:WPr) (ZT:KV) (R:RT) (w:Wd):Prop:=
 qN Pg a (Xb b) λ f=>
 J0 48 f 7 a λ g=>
 J0 45 g 1 a λ h=>
 S0 43 h d R w λ w=>
 Xt w λ i w=>
 GG c b e i ZT R w
def GI (c b:Vl) (a:WPr) (ZT:KV) (R:RT) (w:Wd):Prop:=
 qN Pg a (Xb b) λ d=>
 J0 48 d 7 a λ e=>
 J0 45 e 1 a λ f=>
 I0 43 f a λ g=>
 qN Pg a (Xb b) λ h=>
 J0 48 h 11 a λ i=>
 I0 46 i a λ j=>
 C0 60 #[g] R w λ k w=>
 a w∧(
 C0 61 #[j] R w λ l w=>
 a w∧(
 GH c b k l a ZT R w))
def GJ (b a:Vl) (ZT:KV) (R:RT) (w:Wd):Prop:=
 opN Pg (Xb b) (Zh R) w λ c w=>
 F0 24 c 1 R w λ d w=>
 L0 22 d R w λ e w=>
 X0 22 e a R w λ f w=>
 Yy w λ g w=>
 GI a f g ZT R w
def GK (b c d a:Vl) (Zo:KV) (ZT:KV) (R:RT) (w:Wd):Prop:=
 B0 .lss 3 false a d R w λ e w=>
 Zq e (
 GJ c a ZT R w) (
 B0 .add 3 true b (.int .i64 1) R w λ f w=>
 Zo f w)
def GL (b a c:Vl) (Zo:KV) (R:RT) (w:Wd):Prop:=
 opN Pg (Xb a) (Zh R) w λ d w=>
 F0 24 d 1 R w λ e w=>
 S0 22 e c R w λ w=>
 opN Pg (Xb a) (Zh R) w λ f w=>
 F0 24 f 1 R w λ g w=>
 L0 22 g R w λ h w=>
 G0 22 3 h R w λ i w=>
 YS (λ j w ZT=>
 GK b a i j Zo ZT R w) (.int .i64 0) w
def GM (c a:Vl) (Zo:KV) (R:RT) (w:Wd):Prop:=
 F0 28 c 1 R w λ d w=>
 L0 26 d R w λ e w=>
 X0 26 e a R w λ b w=>
 opN Pg (Xb b) (Zh R) w λ f w=>
 F0 24 f 1 R w λ g w=>
 L0 22 g R w λ h w=>
 C0 59 #[h] R w λ i w=>
 GL a b i Zo R w
def GN (a b d c:Vl) (Zo:KV) (R:RT) (w:Wd):Prop:=
 B0 .lss 3 false c d R w λ e w=>
 Zq e (
 GM a c Zo R w) (
 L0 28 a R w λ f w=>
 S0 28 b f R w λ w=>
 qW Pg 28 b w λ r0=>
 R (.returned r0) w)
def GO (a b c:Vl) (R:RT) (w:Wd):Prop:=
 F0 28 a 1 R w λ d w=>
 S0 26 d c R w λ w=>
 F0 28 a 1 R w λ e w=>
 L0 26 e R w λ f w=>
 G0 26 3 f R w λ g w=>
 YS (λ h w Zo=>
 GN a b g h Zo R w) (.int .i64 0) w
def n52 (b:Vl) (R:RT) (w:Wd):Prop:=
 opV Pg (Instr.box 28 b) (Zh R) w λ a w=>
 opV Pg (Instr.alloc 28 true (.tuple #[])) (Zh R) w λ c w=>
 F0 28 a 1 R w λ d w=>
 L0 26 d R w λ e w=>
 C0 58 #[e] R w λ f w=>
 GO a c f R w
theorem Zix {t0:Vl} {R:RT} {w:Wd} (h:n52 t0 R w):Calls Pg 28 #[t0] w R:=by
 refine yD func28 ?_
 refine zs<|zr<|yv h λ _ w h=>yv h λ _ w h=>zn<|zk<|zs<|zr<|yv h λ _ w h=>yv h λ _ w h=>yc h c58 λ _ w h=>yv h λ _ w h=>yu h λ w h=>zn<|zk ?_
 refine zs<|zs<|zr<|yv h λ _ w h=>yv h λ _ w h=>yx h λ _ w h=>zm<|zn<|zk<|Zj<|yl1 [3,4,5,6,14,15,16,17,18,19,20,21,22,23,24,25,26,27,28,29,30,31,32,33,34,35,36,37,38,39,40,41,42,43,44,45,46,47,48,49,50,51,52,53,54,55,56,57,58,59,60,61,62] 14 h λ σ w next h=>zs<|zr<|yb h λ _ w h=>zn ?_
 refine zk<|zs<|yC h (λ h=>?_) λ h=>?_
 · refine Zi<|zk<|zs<|Zj<|zs<|zr<|zm<|zm<|zn<|zk<|zs<|zr<|yv h λ _ w h=>yv h λ _ w h=>zm ?_
   refine yv h λ _ w h=>zm<|zn<|zk<|zs<|zr<|zm<|zm<|yN h λ _ w h=>yv h λ _ w h=>yv h λ _ w h=>yc h c59 λ _ w h=>yN h λ _ w h=>yv h λ _ w h=>yu h λ w h=>?_
   refine zn<|zk<|zs<|zr<|zm<|yN h λ _ w h=>yv h λ _ w h=>yv h λ _ w h=>yx h λ _ w h=>zm<|zn<|zk<|Zj<|yl1 [5,6,34,35,36,37,38,39,40,41,42,43,44,45,46,47,48,49,50,51,52,53,54,55,56,57,58,59,60,61] 34 h λ σ w next h=>zs ?_
   refine zr<|yb h λ _ w h=>zn<|zk<|zs<|yC h (λ h=>?_) λ h=>?_
   · refine Zi<|zk<|zs<|Zj<|zs<|zr<|zm<|zm<|zn<|zk<|zs<|zr<|zm<|yN h λ _ w h=>yv h λ _ w h=>?_
     refine yv h λ _ w h=>zm<|yv h λ _ w h=>zm<|zn<|zk<|yh [43,44,45,46,47,48,49,50,51,52,53,54,55,56,57,58,59,60] h λ C hC h=>yw 0 hC ?_
     refine yw 1 hC ?_
     refine yw 2 hC ?_
     refine yn 3 hC h λ _ h=>?_
     refine ye 4 hC h λ _ h=>?_
     refine ye 5 hC h λ _ h=>?_
     refine ye 6 hC h λ _ h=>?_
     refine yw 8 hC ?_
     refine yn 9 hC h λ _ h=>?_
     refine ye 10 hC h λ _ h=>?_
     refine ye 11 hC h λ _ h=>?_
     refine yo 7 ?_
     refine yc h c60 λ _ w h=>zn ?_
     obtain ⟨hC,h⟩:=h
     refine ⟨hC,?_⟩
     refine yo 12 ?_
     refine yc h c61 λ _ w h=>zn ?_
     obtain ⟨hC,h⟩:=h
     refine ⟨hC,?_⟩
     refine yn 13 hC h λ _ h=>?_
     refine ye 14 hC h λ _ h=>?_
     refine ye 15 hC h λ _ h=>?_
     refine yq 16 3 ?_
     refine yu h λ w h=>zn ?_
     obtain ⟨C4,hC,h⟩:=h
     refine ⟨C4,hC,?_⟩
     refine yn 17 hC h λ _ h=>?_
     refine ye 18 hC h λ _ h=>?_
     refine yq 19 2 ?_
     refine yu h λ w h=>zn ?_
     obtain ⟨C5,hC,h⟩:=h
     refine ⟨C5,hC,?_⟩
     exact yz<|Zg<|zk<|zr<|yb h λ _ w h=>zm<|zn<|zk<|⟨rfl,h⟩
   exact ZA<|Zc<|Zc<|Zp<|Zg<|zk<|zr<|yb h λ _ w h=>zm<|zn<|zk<|⟨rfl,h⟩
 exact ZA<|Zc<|Zc<|Zp<|zk<|zs<|zr<|yv h λ _ w h=>yu h λ w h=>zn<|zk<|Ze<|Ya rfl rfl h
def Zbb (a:Vl) (R:RT) (w:Wd):Prop:=
 E0 a 0 R w λ b w=>
 E0 a 1 R w λ c w=>
 opV Pg (Instr.alloc 90 true (.tuple #[])) (Zh R) w λ d w=>
 S0 90 d b R w λ w=>
 N0 c R w λ e w=>
 R (.returned e) w
def n63 (a:Vl) (R:RT) (w:Wd):Prop:=
 opV Pg (Instr.box 28 a) (Zh R) w λ b w=>
 L0 28 b R w λ c w=>
 C0 62 #[c] R w λ d w=>
 Zbb d R w
theorem ZiH {t0:Vl} {R:RT} {w:Wd} (h:n63 t0 R w):Calls Pg 29 #[t0] w R:=by
 refine yD func29 ?_
 refine zs<|zr<|yv h λ _ w h=>zm<|zn<|zk<|zs<|zr<|yv h λ _ w h=>yc h c62 λ _ w h=>zm<|yv h λ _ w h=>yv h λ _ w h=>yv h λ _ w h=>yu h λ w h=>?_
 exact zm<|zn<|zk<|zs<|zr<|zm<|yv h λ _ w h=>zm<|zn<|zk<|Ze<|Zk rfl rfl h
def n56 (b c:Vl) (R:RT) (w:Wd):Prop:=
 opV Pg (Instr.box 28 b) (Zh R) w λ d w=>
 opV Pg (Instr.box 9 c) (Zh R) w λ e w=>
 F0 28 d 1 R w λ f w=>
 L0 26 f R w λ g w=>
 opV Pg (makeFunc (.func 68) #[] #[e]) (Zh R) w λ h w=>
 C0 67 #[g,h] R w λ a w=>
 E0 a 0 R w λ i w=>
 E0 a 1 R w λ j w=>
 R (.returned (.tuple #[i,j])) w
theorem ZiA {t0 t1:Vl} {R:RT} {w:Wd} (h:n56 t0 t1 R w):Calls Pg 31 #[t0,t1] w R:=by
 refine yD func31 ?_
 refine zs<|zr<|yv h λ _ w h=>yv h λ _ w h=>zm<|zm<|zn<|zk<|zs<|zr<|yv h λ _ w h=>yv h λ _ w h=>yF h λ _ w h=>yc h c67 λ _ w h=>yv h λ _ w h=>?_
 exact yv h λ _ w h=>zm<|zm<|zn<|zk<|Ze<|Qe rfl rfl rfl h
def P3 (b c a:Vl) (Zo:KV) (R:RT) (w:Wd):Prop:=
 F0 24 c 1 R w λ d w=>
 L0 22 d R w λ e w=>
 X0 22 e a R w λ f w=>
 F0 48 f 0 R w λ g w=>
 L0 9 g R w λ h w=>
 B0 .eql 9 false h b R w λ i w=>
 Zq i (
 R (.returned a) w) (
 B0 .add 3 true a (.int .i64 1) R w λ j w=>
 Zo j w)
def n23 (b c d:Vl) (R:RT) (w:Wd):Prop:=
 opV Pg (Instr.box 24 b) (Zh R) w λ e w=>
 YS (λ a w Zo=>
 B0 .lss 3 false a d R w λ f w=>
 Zq f (
 P3 c e a Zo R w) (
 R (.returned (.int .i64 (-1))) w)) (.int .i64 0) w
theorem Zh5 {t0 t1 t2:Vl} {R:RT} {w:Wd} (h:n23 t0 t1 t2 R w):Calls Pg 45 #[t0,t1,t2] w R:=by
 refine yD func45 ?_
 refine zs<|zr<|yv h λ _ w h=>zm<|zn<|zk<|zs<|zs<|zr<|zm<|zn<|zk<|Zj<|yl1 [6,7,8,9,10,11,12,13,14,15,16,17,18,19,20,21] 7 h λ σ w next h=>zs ?_
 refine zs<|zr<|zm<|zm<|yb h λ _ w h=>zn<|zk<|yC h (λ h=>?_) λ h=>?_
 · refine Zi<|zk<|zs<|Zj<|zs<|zr<|yv h λ _ w h=>yv h λ _ w h=>zm<|yv h λ _ w h=>yv h λ _ w h=>yv h λ _ w h=>zm<|yb h λ _ w h=>zn ?_
   exact zk<|yC h (λ h=>zs<|zr<|zm<|zm<|zn<|zk<|Ze<|Zf<|Zb<|Zb<|Zf<|Zb<|Zk rfl rfl h) λ h=>Zi<|Zg<|zk<|zr<|zm<|yb h λ _ w h=>zm<|zn<|zk<|⟨rfl,h⟩
 exact ZA<|Zc<|Zc<|Zp<|zk<|zs<|zr<|zm<|zn<|zk<|Ze<|Zk rfl rfl h
def n25 (e:Vl) (R:RT) (w:Wd):Prop:=
 opV Pg (Instr.box 48 e) (Zh R) w λ b w=>
 F0 48 b 1 R w λ f w=>
 L0 42 f R w λ g w=>
 B0 .geq 42 true g (.int .i64 1) R w λ c w=>
 Zr (λ (a:Vl) (w:Wd)=>
 Zw c a (.bool false) λ h=>
 R (.returned h) w) λ d=>
 Zn c true (
 F0 48 b 1 R w λ i w=>
 L0 42 i R w λ j w=>
 B0 .leq 42 true j (.int .i64 3) R w λ a w=>
 d a w) (
 d undef w)
theorem Zh7 {t0:Vl} {R:RT} {w:Wd} (h:n25 t0 R w):Calls Pg 47 #[t0] w R:=by
 refine yD func47 ?_
 refine zs<|zr<|yv h λ _ w h=>zm<|zn<|zk<|zs<|Zu<|yG 4<|yv h λ _ w h=>yv h λ _ w h=>yb h λ _ w h=>zm<|zn<|yg1 3 3 true [7,8,9] 9 h (λ _ T hT h=>?_) λ σ w h=>?_
 · refine yv h λ _ w h=>yv h λ _ w h=>yb h λ _ w h=>zn ?_
   exact zt hT h
 exact yG 2<|yp h λ _ h=>zm<|zn<|ZQ<|zk<|Ze<|Zk rfl rfl h
def Zba (d e f:Vl) (R:RT) (w:Wd):Prop:=
 Zw e (.bool true) f λ b=>
 Zr (λ (a:Vl) (w:Wd)=>
 Zw b (.bool true) a λ g=>
 R (.returned g) w) λ c=>
 Zn b false (
 F0 48 d 1 R w λ h w=>
 L0 42 h R w λ i w=>
 B0 .eql 42 true i (.int .i64 3) R w λ a w=>
 c a w) (
 c undef w)
def n58 (e:Vl) (R:RT) (w:Wd):Prop:=
 opV Pg (Instr.box 48 e) (Zh R) w λ a w=>
 F0 48 a 1 R w λ f w=>
 L0 42 f R w λ g w=>
 B0 .eql 42 true g (.int .i64 1) R w λ c w=>
 Zr (λ (b:Vl) (w:Wd)=>
 Zba a c b R w) λ d=>
 Zn c false (
 F0 48 a 1 R w λ h w=>
 L0 42 h R w λ i w=>
 B0 .eql 42 true i (.int .i64 2) R w λ b w=>
 d b w) (
 d undef w)
theorem ZiC {t0:Vl} {R:RT} {w:Wd} (h:n58 t0 R w):Calls Pg 49 #[t0] w R:=by
 refine yD func49 ?_
 refine zs<|zr<|yv h λ _ w h=>zm<|zn<|zk<|zs<|Zu<|yG 4<|yv h λ _ w h=>yv h λ _ w h=>yb h λ _ w h=>zm<|zn<|yg1 3 3 false [7,8,9] 9 h (λ _ T hT h=>?_) λ σ w h=>?_
 · refine yv h λ _ w h=>yv h λ _ w h=>yb h λ _ w h=>zn ?_
   exact zt hT h
 refine yG 2<|yp h λ _ h=>zm<|zn<|yg1 3 8 false [12,13,14] 14 h (λ _ T hT h=>?_) λ σ w h=>?_
 · refine yv h λ _ w h=>yv h λ _ w h=>yb h λ _ w h=>zn ?_
   exact zt hT h
 exact yG 2<|yp h λ _ h=>zm<|zn<|ZQ<|zk<|Ze<|Zk rfl rfl h
def JM (e f g h:Vl) (a:WPr) (R:RT) (w:Wd):Prop:=
 Zw g h (.bool false) λ c=>
 Zr (λ (b:Vl) (w:Wd)=>
 Zw c b (.bool false) λ i=>
 R (.returned i) w) λ d=>
 Zn c true (
 J0 48 e 11 a λ j=>
 I0 46 j a λ k=>
 J0 48 f 11 a λ l=>
 I0 46 l a λ m=>
 C0 96 #[k,m] R w λ b w=>
 a w∧(
 d b w)) (
 d undef w)
def JN (c d g h:Vl) (a:WPr) (R:RT) (w:Wd):Prop:=
 qV Pg a (ZI .eql 144 false g h) λ e=>
 Zr (λ (b:Vl) (w:Wd)=>
 JM c d e b a R w) λ f=>
 Zn e true (
 J0 48 c 7 a λ i=>
 J0 45 i 1 a λ j=>
 I0 43 j a λ k=>
 J0 48 d 7 a λ l=>
 J0 45 l 1 a λ m=>
 I0 43 m a λ n=>
 C0 95 #[k,n] R w λ b w=>
 a w∧(
 f b w)) (
 f undef w)
def JO (b c:Vl) (a:WPr) (R:RT) (w:Wd):Prop:=
 I0 48 b a λ d=>
 I0 48 c a λ e=>
 C0 94 #[d] R w λ f w=>
 a w∧(
 C0 94 #[e] R w λ g w=>
 a w∧(
 JN b c f g a R w))
def Zdm (a b:Vl) (R:RT) (w:Wd):Prop:=
 opV Pg (Instr.box 48 a) (Zh R) w λ c w=>
 opV Pg (Instr.box 48 b) (Zh R) w λ d w=>
 Yy w λ e w=>
 JO c d e R w
theorem Zdn {t0 t1:Vl} {R:RT} {w:Wd} (h:Zdm t0 t1 R w):Calls Pg 66 #[t0,t1] w R:=by
 refine yD func66 ?_
 refine zs<|zr<|yv h λ _ w h=>yv h λ _ w h=>zm<|zn<|zk<|zs<|yh [4,5,6,7,8,9,10,11,12,13,14,15,16,17,18,19,20,21,22,23,24,25] h λ C hC h=>ye 0 hC h λ _ h=>?_
 refine ye 2 hC h λ _ h=>?_
 refine yo 1 ?_
 refine yc h c94 λ _ w h=>zn ?_
 obtain ⟨hC,h⟩:=h
 refine ⟨hC,?_⟩
 refine yo 3 ?_
 refine yc h c94 λ _ w h=>zn ?_
 obtain ⟨hC,h⟩:=h
 refine ⟨hC,?_⟩
 refine ye 4 hC h λ _ h=>?_
 refine yw 5 hC ?_
 refine yj1 9 [12,11,10,9,8,7,6,5,4,3,1,2,0] [11,12,13,14,15,16,17] 17 h (λ _ hT hb h=>?_) (λ _ hT hb h=>?_) λ σ w hC h=>?_
 · refine ye 6 hC h λ _ h=>?_
   refine ye 7 hC h λ _ h=>?_
   refine ye 8 hC h λ _ h=>?_
   refine ye 9 hC h λ _ h=>?_
   refine ye 10 hC h λ _ h=>?_
   refine ye 11 hC h λ _ h=>?_
   refine yo 12 ?_
   refine yc h c95 λ _ w h=>zn ?_
   obtain ⟨hC,h⟩:=h
   refine ⟨hC,?_⟩
   exact yt hT hC h
 · refine yi 6 hC ?_
   refine yi 7 hC ?_
   refine yi 8 hC ?_
   refine yi 9 hC ?_
   refine yi 10 hC ?_
   refine yi 11 hC ?_
   refine yi 12 hC ?_
   exact yt hT hC h
 refine yP 13 hC h λ _ h=>?_
 refine yw 14 hC ?_
 refine yj1 2 [19,18,17,16,15,14,13,12,11,10,9,8,7,6,5,4,3,1,2,0] [20,21,22,23,24] 24 h (λ _ hT hb h=>?_) (λ _ hT hb h=>?_) λ σ w hC h=>?_
 · refine ye 15 hC h λ _ h=>?_
   refine ye 16 hC h λ _ h=>?_
   refine ye 17 hC h λ _ h=>?_
   refine ye 18 hC h λ _ h=>?_
   refine yo 19 ?_
   refine yc h c96 λ _ w h=>zn ?_
   obtain ⟨hC,h⟩:=h
   refine ⟨hC,?_⟩
   exact yt hT hC h
 · refine yi 15 hC ?_
   refine yi 16 hC ?_
   refine yi 17 hC ?_
   refine yi 18 hC ?_
   refine yi 19 hC ?_
   exact yt hT hC h
 refine yP 20 hC h λ _ h=>?_
 refine yw 21 hC ?_
 exact yz<|zk<|Ze<|Zk rfl rfl h
def Zbx (a:Vl) (R:RT) (w:Wd):Prop:=
 opV Pg (Builtin.max_ #[3,3] 3 #[a,(.int .i64 0)]) (Zh R) w λ b w=>
 B0 .geq 3 true a (.int .i64 0) R w λ c w=>
 R (.returned (.tuple #[b,c])) w
def n77 (a b:Vl) (R:RT) (w:Wd):Prop:=
 C0 97 #[a,b] R w λ c w=>
 Zbx c R w
theorem ZiU {t0 t1:Vl} {R:RT} {w:Wd} (h:n77 t0 t1 R w):Calls Pg 67 #[t0,t1] w R:=by
 refine yD func67 ?_
 refine zs<|zr<|zm<|zm<|zn<|zk<|zs<|zr<|zm<|zm<|yc h c97 λ _ w h=>zm<|zn<|zk<|zs ?_
 exact zr<|zm<|yx h λ _ w h=>zm<|yb h λ _ w h=>zm<|zm<|zn<|zk<|Ze<|Qe rfl rfl rfl h
def n57 (a b:Vl) (R:RT) (w:Wd):Prop:=
 opV Pg (Instr.box 24 a) (Zh R) w λ c w=>
 F0 24 c 0 R w λ d w=>
 L0 9 d R w λ e w=>
 L0 9 b R w λ f w=>
 B0 .eql 9 false e f R w λ g w=>
 R (.returned g) w
theorem ZiB {t0 t1:Vl} {R:RT} {w:Wd} (h:n57 t0 t1 R w):Calls Pg 68 #[t0,t1] w R:=by
 refine yD func68 ?_
 refine zs<|zr<|yv h λ _ w h=>zm<|zn<|zk<|zs<|zr<|yv h λ _ w h=>yv h λ _ w h=>yv h λ _ w h=>yb h λ _ w h=>zm<|zn<|zk ?_
 exact Ze<|Zk rfl rfl h
def AU (d e f g:Vl) (Zo:KV) (R:RT) (w:Wd):Prop:=
 N0 g R w λ b w=>
 Zr (λ (a:Vl) (w:Wd)=>
 Zw b a (.bool false) λ h=>
 Zq h (
 R (.returned (.tuple #[])) w) (
 B0 .add 3 true e (.int .i64 1) R w λ i w=>
 Zo i w)) λ c=>
 Zn b true (
 XB Pg d #[f] (Zh R) w λ j w=>
 N0 j R w λ a w=>
 c a w) (
 c undef w)
def AV (c d e a:Vl) (Zo:KV) (R:RT) (w:Wd):Prop:=
 X0 82 e a R w λ f w=>
 L0 9 f R w λ b w=>
 L0 82 d R w λ g w=>
 opV Pg (Instr.sliceAt 82 g none (some a) none) (Zh R) w λ h w=>
 C0 70 #[h,b] R w λ i w=>
 AU c a b i Zo R w
def n62 (d a:Vl) (R:RT) (w:Wd):Prop:=
 L0 82 a R w λ b w=>
 G0 82 3 b R w λ e w=>
 YS (λ c w Zo=>
 B0 .lss 3 false c e R w λ f w=>
 Zq f (
 AV d a b c Zo R w) (
 R (.returned (.tuple #[])) w)) (.int .i64 0) w
theorem ZiG {t0 t1:Vl} {R:RT} {w:Wd} (h:n62 t0 t1 R w):Calls Pg 69 #[t0,t1] w R:=by
 refine yD func69 ?_
 refine zs<|zr<|yv h λ _ w h=>yx h λ _ w h=>zm<|zn<|zk<|Zj<|yl1 [3,4,7,8,9,10,11,12,13,14,15,16,17,18,19,20,21,22,23,24] 7 h λ σ w next h=>zs<|zr<|yb h λ _ w h=>zn<|zk<|zs ?_
 refine yC h (λ h=>?_) λ h=>?_
 · refine Zi<|zk<|zs<|Zj<|zs<|zr<|zm<|yv h λ _ w h=>yv h λ _ w h=>zm<|zm<|zn<|zk<|zs<|Zu ?_
   refine yG 7<|yv h λ _ w h=>zm<|yv h λ _ w h=>zm<|yc h c70 λ _ w h=>yv h λ _ w h=>zm<|zn<|yg1 4 6 true [19,20,21,22] 22 h (λ _ T hT h=>?_) λ σ w h=>?_
   · refine zm<|zm<|yV h λ _ w h=>yv h λ _ w h=>zn ?_
     exact zt hT h
   refine yG 1<|yp h λ _ h=>zn<|ZQ<|zk<|yC h (λ h=>Ze<|Zf<|Zb<|Zb<|Zf<|Z1 rfl h) λ h=>Zi<|Zg<|zk<|zr<|yb h λ _ w h=>zm<|zn<|zk ?_
   exact ⟨rfl,h⟩
 exact ZA<|Zc<|Zc<|Zp<|ZU<|Z1 rfl h
def Zek (a b:Vl) (R:RT) (w:Wd):Prop:=
 C0 98 #[a,b] R w λ c w=>
 B0 .geq 3 true c (.int .i64 0) R w λ d w=>
 R (.returned d) w
theorem Zel {t0 t1:Vl} {R:RT} {w:Wd} (h:Zek t0 t1 R w):Calls Pg 70 #[t0,t1] w R:=by
 refine yD func70 ?_
 refine zs<|zr<|zm<|zn<|zk<|zs<|zr<|zm<|zm<|yc h c98 λ _ w h=>yb h λ _ w h=>zm<|zn<|zk<|Ze ?_
 exact Zk rfl rfl h
def OY (a b:Vl) (R:RT) (w:Wd):Prop:=
 E0 b 0 R w λ c w=>
 E0 b 1 R w λ d w=>
 S0 74 a c R w λ w=>
 qW Pg 74 a w λ r0=>
 R (.returned (.tuple #[r0,d])) w
def ZeM (a b:Vl) (R:RT) (w:Wd):Prop:=
 opV Pg (Instr.box 28 a) (Zh R) w λ c w=>
 opV Pg (Instr.alloc 74 true (.tuple #[])) (Zh R) w λ d w=>
 L0 28 c R w λ e w=>
 Yt Pg 99 #[e,b,(.int .i64 0),(.func (.func 100) #[] #[])] (Zh R) w λ f w=>
 OY d f R w
theorem ZeN {t0 t1:Vl} {R:RT} {w:Wd} (h:ZeM t0 t1 R w):Calls Pg 71 #[t0,t1] w R:=by
 refine yD func71 ?_
 refine zs<|zr<|yv h λ _ w h=>yv h λ _ w h=>zm<|zn<|zk<|zs<|zr<|yv h λ _ w h=>zm<|yc h c99 λ _ w h=>yv h λ _ w h=>yv h λ _ w h=>yu h λ w h=>?_
 exact zm<|zn<|zk<|Ze<|Yw rfl rfl rfl h
def n9 (R:RT) (w:Wd):Prop:=
 opV Pg (Instr.alloc 28 true (.tuple #[])) (Zh R) w λ a w=>
 opV Pg (Instr.build 62 #[(0,(.string { data := #[110] })),(1,(.int .i64 1))]) (Zh R) w λ d w=>
 opV Pg (buildSlice 43 1 #[(0,d)]) (Zh R) w λ e w=>
 opV Pg (Instr.build 45 #[(1,e)]) (Zh R) w λ f w=>
 opV Pg (Instr.alloc 45 true (.tuple #[])) (Zh R) w λ b w=>
 S0 45 b f R w λ w=>
 opV Pg (Instr.build 62 #[(0,(.string { data := #[116] })),(1,(.int .i64 1))]) (Zh R) w λ g w=>
 opV Pg (buildSlice 43 1 #[(0,g)]) (Zh R) w λ h w=>
 opV Pg (Instr.build 45 #[(0,(.int .i64 1)),(1,h)]) (Zh R) w λ i w=>
 opV Pg (Instr.alloc 45 true (.tuple #[])) (Zh R) w λ c w=>
 S0 45 c i R w λ w=>
 opV Pg (Instr.build 48 #[(0,(.string { data := #[110] })),(1,(.int .i64 1)),(2,(.int .i64 8)),(6,(.int .i64 3))]) (Zh R) w λ j w=>
 L0 45 b R w λ k w=>
 opV Pg (Instr.build 48 #[(0,(.string { data := #[98] })),(1,(.int .i64 4)),(7,k)]) (Zh R) w λ l w=>
 opV Pg (buildSlice 22 2 #[(0,j),(1,l)]) (Zh R) w λ m w=>
 opV Pg (Instr.build 24 #[(0,(.string { data := #[97] })),(1,m)]) (Zh R) w λ n w=>
 opV Pg (Instr.build 48 #[(0,(.string { data := #[116] })),(1,(.int .i64 1)),(2,(.int .i64 3)),(6,(.int .i64 2))]) (Zh R) w λ o w=>
 opV Pg (Instr.build 48 #[(0,(.string { data := #[112] })),(1,(.int .i64 10)),(2,(.int .i64 8))]) (Zh R) w λ p w=>
 opV Pg (Instr.build 48 #[(0,(.string { data := #[118] })),(1,(.int .i64 3)),(6,(.int .i64 300))]) (Zh R) w λ q w=>
 L0 45 c R w λ r w=>
 opV Pg (Instr.build 48 #[(0,(.string { data := #[108] })),(1,(.int .i64 7)),(8,(.string { data := #[97] })),(7,r)]) (Zh R) w λ s w=>
 opV Pg (Instr.build 48 #[(0,(.string { data := #[107] })),(1,(.int .i64 11)),(12,(.int .i64 3)),(10,(.string { data := #[116] }))]) (Zh R) w λ t w=>
 opV Pg (buildSlice 22 5 #[(0,o),(1,p),(2,q),(3,s),(4,t)]) (Zh R) w λ u w=>
 opV Pg (Instr.build 24 #[(0,(.string { data := #[109] })),(1,u)]) (Zh R) w λ v w=>
 opV Pg (buildSlice 26 2 #[(0,n),(1,v)]) (Zh R) w λ x w=>
 opV Pg (Instr.build 28 #[(0,(.string { data := #[100] })),(2,(.string { data := #[109] })),(1,x)]) (Zh R) w λ y w=>
 S0 28 a y R w λ w=>
 qW Pg 28 a w λ r0=>
 R (.returned r0) w
theorem n9s {R:RT} {w:Wd} (h:n9 R w):Calls Pg 72 #[] w R:=by
 refine yD func72 ?_
 refine zs<|zr<|yv h λ _ w h=>zn<|zk<|zs<|zr<|yB h λ _ w h=>yS h λ _ w h=>yB h λ _ w h=>yv h λ _ w h=>yu h λ w h=>zn<|zk<|zs ?_
 refine zr<|yB h λ _ w h=>yS h λ _ w h=>yB h λ _ w h=>yv h λ _ w h=>yu h λ w h=>zn<|zk<|zs<|zr<|yB h λ _ w h=>yv h λ _ w h=>yB h λ _ w h=>yS h λ _ w h=>yB h λ _ w h=>?_
 exact yB h λ _ w h=>yB h λ _ w h=>yB h λ _ w h=>yv h λ _ w h=>yB h λ _ w h=>yB h λ _ w h=>yS h λ _ w h=>yB h λ _ w h=>yS h λ _ w h=>yB h λ _ w h=>yu h λ w h=>zn<|zk<|Ze<|Ya rfl rfl h
def OW (a b c d:Vl) (e:WPr) (R:RT) (w:Wd):Prop:=
 Yt Pg 101 #[c,d,(.func (.func 103) #[] #[])] (Zh R) w λ f w=>
 e w∧(
 S0 74 a f R w λ w=>
 Xt w λ g w=>
 qW Pg 74 a w λ r0=>
 R (.returned (.tuple #[r0,b])) w)
def OX (d b:Vl) (R:RT) (w:Wd):Prop:=
 E0 b 0 R w λ e w=>
 E0 b 1 R w λ f w=>
 opV Pg (Instr.alloc 74 true (.tuple #[])) (Zh R) w λ c w=>
 S0 74 c e R w λ w=>
 Yy w λ a w=>
 I0 74 c a λ g=>
 C0 102 #[(.int .i64 8)] R w λ h w=>
 a w∧(
 OW d f g h a R w)
def ZeI (a b:Vl) (R:RT) (w:Wd):Prop:=
 opV Pg (Instr.box 28 a) (Zh R) w λ c w=>
 opV Pg (Instr.alloc 74 true (.tuple #[])) (Zh R) w λ d w=>
 L0 28 c R w λ e w=>
 C0 71 #[e,b] R w λ f w=>
 OX d f R w
theorem ZeJ {t0 t1:Vl} {R:RT} {w:Wd} (h:ZeI t0 t1 R w):Calls Pg 73 #[t0,t1] w R:=by
 refine yD func73 ?_
 refine zs<|zr<|yv h λ _ w h=>yv h λ _ w h=>zm<|zn<|zk<|zs<|zr<|yv h λ _ w h=>zm<|yc h c71 λ _ w h=>zm<|yv h λ _ w h=>yv h λ _ w h=>?_
 refine yv h λ _ w h=>yu h λ w h=>zm<|zn<|zk<|zs<|yh [5,14,15,16,17] h λ C hC h=>ye 0 hC h λ _ h=>?_
 refine yw 3 hC ?_
 refine yo 1 ?_
 refine yc h Ex λ _ w h=>zn ?_
 obtain ⟨hC,h⟩:=h
 refine ⟨hC,?_⟩
 refine yo 2 ?_
 refine yc h Ew λ _ w h=>zn ?_
 obtain ⟨hC,h⟩:=h
 refine ⟨hC,?_⟩
 refine yq 4 1 ?_
 refine yu h λ w h=>zn ?_
 obtain ⟨C2,hC,h⟩:=h
 refine ⟨C2,hC,?_⟩
 refine yw 5 hC ?_
 exact yz<|zk<|Ze<|Yw rfl rfl rfl h
def OV (c:Vl) (R:RT) (w:Wd):Prop:=
 E0 c 0 R w λ g w=>
 E0 c 1 R w λ d w=>
 opV Pg (Instr.alloc 74 true (.tuple #[])) (Zh R) w λ a w=>
 S0 74 a g R w λ w=>
 B0 .eql 31 true d (.int .i64 0) R w λ e w=>
 Zr (λ (b:Vl) (w:Wd)=>
 Zw e b (.bool false) λ h=>
 R (.returned (.tuple #[h,d])) w) λ f=>
 Zn e true (
 F0 74 a 0 R w λ i w=>
 L0 3 i R w λ j w=>
 F0 74 a 1 R w λ k w=>
 L0 3 k R w λ l w=>
 B0 .eql 3 false j l R w λ b w=>
 f b w) (
 f undef w)
def ZeG (a b:Vl) (R:RT) (w:Wd):Prop:=
 opV Pg (Instr.box 28 a) (Zh R) w λ c w=>
 L0 28 c R w λ d w=>
 C0 71 #[d,b] R w λ e w=>
 OV e R w
theorem ZeH {t0 t1:Vl} {R:RT} {w:Wd} (h:ZeG t0 t1 R w):Calls Pg 74 #[t0,t1] w R:=by
 refine yD func74 ?_
 refine zs<|zr<|yv h λ _ w h=>zm<|zm<|zn<|zk<|zs<|zr<|yv h λ _ w h=>zm<|yc h c71 λ _ w h=>zm<|yv h λ _ w h=>yv h λ _ w h=>?_
 refine yv h λ _ w h=>yu h λ w h=>zm<|zn<|zk<|zs<|Zu<|yG 3<|zm<|yb h λ _ w h=>zm<|zn<|yg1 5 2 true [17,18,19,20,21] 21 h (λ _ T hT h=>?_) λ σ w h=>?_
 · refine yv h λ _ w h=>yv h λ _ w h=>yv h λ _ w h=>yv h λ _ w h=>yb h λ _ w h=>zn ?_
   exact zt hT h
 exact yG 4<|yp h λ _ h=>zm<|zm<|zm<|zn<|ZQ<|zk<|Ze<|Qe rfl rfl rfl h
def ZfQ (c d a:Vl) (R:RT) (w:Wd):Prop:=
 E0 a 0 R w λ e w=>
 E0 a 1 R w λ f w=>
 opV Pg (Instr.alloc 74 true (.tuple #[])) (Zh R) w λ b w=>
 S0 74 b e R w λ w=>
 L0 74 b R w λ g w=>
 C0 76 #[g,f,c,d] R w λ h w=>
 R (.returned h) w
def n7 (a b c d:Vl) (R:RT) (w:Wd):Prop:=
 C0 72 #[] R w λ e w=>
 C0 104 #[e,a,b] R w λ f w=>
 ZfQ c d f R w
theorem n7s {t0 t1 t2 t3:Vl} {R:RT} {w:Wd} (h:n7 t0 t1 t2 t3 R w):Calls Pg 75 #[t0,t1,t2,t3] w R:=by
 refine yD func75 ?_
 refine zs<|zr<|zm<|zn<|zk<|zs<|zr<|yc h c72 λ _ w h=>zm<|zm<|yc h ZgD λ _ w h=>zm<|yv h λ _ w h=>yv h λ _ w h=>yv h λ _ w h=>?_
 refine yu h λ w h=>zm<|zn<|zk<|zs<|zr<|yv h λ _ w h=>zm<|zm<|zm<|yc h c76 λ _ w h=>zm<|zn<|zk<|Ze ?_
 exact Zk rfl rfl h
def n10 (d e f g:Vl) (R:RT) (w:Wd):Prop:=
 opV Pg (Instr.box 74 d) (Zh R) w λ h w=>
 L0 74 h R w λ i w=>
 opV Pg (Instr.build 74 #[(0,f),(1,g)]) (Zh R) w λ j w=>
 B0 .eql 74 false i j R w λ b w=>
 Zr (λ (a:Vl) (w:Wd)=>
 Zw b a (.bool false) λ k=>
 R (.returned k) w) λ c=>
 Zn b true (
 B0 .eql 31 true e (.int .i64 0) R w λ a w=>
 c a w) (
 c undef w)
theorem ZhT {t0 t1 t2 t3:Vl} {R:RT} {w:Wd} (h:n10 t0 t1 t2 t3 R w):Calls Pg 76 #[t0,t1,t2,t3] w R:=by
 refine yD func76 ?_
 refine zs<|zr<|yv h λ _ w h=>zm<|zn<|zk<|zs<|Zu<|yG 6<|yv h λ _ w h=>zm<|zm<|yB h λ _ w h=>yb h λ _ w h=>zm ?_
 refine zn<|yg1 2 5 true [15,16] 16 h (λ _ T hT h=>?_) λ σ w h=>?_
 · refine zm<|yb h λ _ w h=>zn ?_
   exact zt hT h
 exact yG 2<|yp h λ _ h=>zm<|zn<|ZQ<|zk<|Ze<|Zk rfl rfl h
def Zab (c d a:Vl) (R:RT) (w:Wd):Prop:=
 E0 a 0 R w λ e w=>
 E0 a 1 R w λ f w=>
 opV Pg (Instr.alloc 74 true (.tuple #[])) (Zh R) w λ b w=>
 S0 74 b e R w λ w=>
 L0 74 b R w λ g w=>
 C0 76 #[g,f,c,d] R w λ h w=>
 R (.returned h) w
def n12 (a b c d:Vl) (R:RT) (w:Wd):Prop:=
 C0 72 #[] R w λ e w=>
 C0 105 #[e,a,b] R w λ f w=>
 Zab c d f R w
theorem ZhV {t0 t1 t2 t3:Vl} {R:RT} {w:Wd} (h:n12 t0 t1 t2 t3 R w):Calls Pg 77 #[t0,t1,t2,t3] w R:=by
 refine yD func77 ?_
 refine zs<|zr<|zm<|zn<|zk<|zs<|zr<|yc h c72 λ _ w h=>zm<|zm<|yc h ZgE λ _ w h=>zm<|yv h λ _ w h=>yv h λ _ w h=>yv h λ _ w h=>?_
 refine yu h λ w h=>zm<|zn<|zk<|zs<|zr<|yv h λ _ w h=>zm<|zm<|zm<|yc h c76 λ _ w h=>zm<|zn<|zk<|Ze ?_
 exact Zk rfl rfl h
def PK (a b c:Vl) (Zo:KW) (R:RT) (w:Wd):Prop:=
 L0 124 b R w λ d w=>
 opV Pg (buildSlice 119 1 #[(0,d)]) (Zh R) w λ e w=>
 opV Pg (Builtin.append_ #[119,119] 119 #[a,e]) (Zh R) w λ f w=>
 B0 .add 3 true c (.int .i64 1) R w λ g w=>
 Zo f g w
def PL (d b c e f:Vl) (a:WPr) (Zo:KW) (R:RT) (w:Wd):Prop:=
 J0 24 b 0 a λ g=>
 I0 9 g a λ h=>
 I0 124 c a λ i=>
 J0 24 b 1 a λ j=>
 I0 22 j a λ k=>
 qV Pg a (Builtin.len_ #[22] 3 #[k]) λ l=>
 C0 106 #[i,l] R w λ m w=>
 a w∧(
 opU Pg (mapUpdate 122 e h m) (Zh R) w λ w=>
 Xt w λ n w=>
 PK d c f Zo R w)
def PM (e b f c:Vl) (Zo:KW) (R:RT) (w:Wd):Prop:=
 X0 26 f c R w λ g w=>
 L0 24 g R w λ h w=>
 opV Pg (Instr.alloc 24 true (.tuple #[])) (Zh R) w λ a w=>
 S0 24 a h R w λ w=>
 L0 24 a R w λ i w=>
 opV Pg (Instr.build 124 #[(0,i),(1,b)]) (Zh R) w λ j w=>
 opV Pg (Instr.alloc 124 true (.tuple #[])) (Zh R) w λ d w=>
 S0 124 d j R w λ w=>
 Yy w λ k w=>
 PL e a d b c k Zo R w
def ZfA (d:Vl) (R:RT) (w:Wd):Prop:=
 opV Pg (Instr.box 28 d) (Zh R) w λ e w=>
 opV Pg (Instr.makeMap 122 none) (Zh R) w λ f w=>
 F0 28 e 1 R w λ g w=>
 L0 26 g R w λ a w=>
 G0 26 3 a R w λ h w=>
 Qi (λ b c w Zo=>
 B0 .lss 3 false c h R w λ i w=>
 Zq i (
 PM b f a c Zo R w) (
 R (.returned b) w)) (Value.slice none 0 0) (.int .i64 0) w
theorem ZfB {t0:Vl} {R:RT} {w:Wd} (h:ZfA t0 R w):Calls Pg 78 #[t0] w R:=by
 refine yD func78 ?_
 refine zs<|zr<|yv h λ _ w h=>zm<|zn<|zk<|zs<|zr<|yv h λ _ w h=>zm<|zn<|zk<|zs<|zr<|zm ?_
 refine zn<|zk<|zs<|zs<|zr<|yv h λ _ w h=>yv h λ _ w h=>yx h λ _ w h=>zm<|zn<|zk<|Zj<|yl2 [4,6,7,12,13,14,15,16,17,18,19,20,21,22,23,24,25,26,27,28,29,30,31] 4 12 h λ σ w next h=>zs<|zr ?_
 refine yb h λ _ w h=>zn<|zk<|zs<|yC h (λ h=>?_) λ h=>?_
 · refine Zi<|zk<|zs<|Zj<|zs<|zr<|yv h λ _ w h=>yv h λ _ w h=>yv h λ _ w h=>yu h λ w h=>zn<|zk<|zs<|zr<|yv h λ _ w h=>?_
   refine zm<|yB h λ _ w h=>yv h λ _ w h=>yu h λ w h=>zn<|zk<|zs<|yh [19,20,21,22,23,24,25,26] h λ C hC h=>yw 0 hC ?_
   refine ye 1 hC h λ _ h=>?_
   refine ye 2 hC h λ _ h=>?_
   refine ye 3 hC h λ _ h=>?_
   refine ye 4 hC h λ _ h=>?_
   refine ye 5 hC h λ _ h=>?_
   refine ye 6 hC h λ _ h=>?_
   refine yo 7 ?_
   refine yc h ZcN λ _ w h=>zn ?_
   obtain ⟨hC,h⟩:=h
   refine ⟨hC,?_⟩
   refine yq 8 1 ?_
   refine yu h λ w h=>zn ?_
   obtain ⟨C3,hC,h⟩:=h
   refine ⟨C3,hC,?_⟩
   refine yz<|zk<|zr<|zm<|yv h λ _ w h=>yS h λ _ w h=>yx h λ _ w h=>zm<|zn<|Zg<|zk<|zr<|yb h λ _ w h=>zm<|zn ?_
   exact zk<|⟨rfl,h⟩
 exact ZA<|Zc<|Zc<|Zp<|zk<|zs<|zr<|zm<|zm<|zn<|zk<|Ze<|Zk rfl rfl h
def HY (b c:Vl) (a:WPr) (Zo:KV) (R:RT) (w:Wd):Prop:=
 a w∧(
 qV Pg a (Op.unary .not c) λ d=>
 Zq d (
 R (.returned (.tuple #[])) w) (
 B0 .add 3 true b (.int .i64 1) R w λ e w=>
 Zo e w))
def O2 (d c e b:Vl) (a:WPr) (Zo:KV) (R:RT) (w:Wd):Prop:=
 I0 119 c a λ f=>
 M0 119 f b a λ g=>
 J0 124 g 1 a λ h=>
 I0 122 h a λ i=>
 I0 119 c a λ j=>
 M0 119 j b a λ k=>
 J0 124 k 0 a λ l=>
 J0 24 l 0 a λ m=>
 I0 9 m a λ n=>
 qV Pg a (Instr.lookup 122 i n false) λ o=>
 XB Pg d #[b,o] (Zh R) w λ p w=>
 HY e p a Zo R w
def O3 (b c d e a:Vl) (Zo:KV) (R:RT) (w:Wd):Prop:=
 B0 .lss 3 false a e R w λ f w=>
 Zq f (
 X0 30 d a R w λ g w=>
 L0 3 g R w λ h w=>
 Yy w λ i w=>
 O2 b c a h i Zo R w) (
 R (.returned (.tuple #[])) w)
def ZeW (b c d:Vl) (R:RT) (w:Wd):Prop:=
 L0 30 c R w λ a w=>
 G0 30 3 a R w λ e w=>
 YS (λ f w Zo=>
 O3 b d a e f Zo R w) (.int .i64 0) w
theorem ZeX {t0 t1 t2:Vl} {R:RT} {w:Wd} (h:ZeW t0 t1 t2 R w):Calls Pg 79 #[t0,t1,t2] w R:=by
 refine yD func79 ?_
 refine zs<|zr<|yv h λ _ w h=>yx h λ _ w h=>zm<|zn<|zk<|Zj<|yl1 [5,8,9,10,11,12,13,14,15,16,17,18,19,20,21,22,23,24,25,26,27,28] 8 h λ σ w next h=>zs<|zr<|yb h λ _ w h=>zn<|zk<|zs ?_
 refine yC h (λ h=>?_) λ h=>?_
 · refine Zi<|zk<|zs<|Zj<|zs<|zr<|yv h λ _ w h=>yv h λ _ w h=>zm<|zn<|zk<|zs<|yh [12,13,14,15,16,17,18,19,20,21,22,23,24,25,26,27] h λ C hC h=>yw 0 hC ?_
   refine yw 1 hC ?_
   refine ye 2 hC h λ _ h=>?_
   refine yw 3 hC ?_
   refine ye 4 hC h λ _ h=>?_
   refine ye 5 hC h λ _ h=>?_
   refine ye 6 hC h λ _ h=>?_
   refine ye 7 hC h λ _ h=>?_
   refine yw 8 hC ?_
   refine ye 9 hC h λ _ h=>?_
   refine ye 10 hC h λ _ h=>?_
   refine ye 11 hC h λ _ h=>?_
   refine ye 12 hC h λ _ h=>?_
   refine ye 13 hC h λ _ h=>?_
   refine yo 14 ?_
   refine yV h λ _ w h=>zn ?_
   obtain ⟨hC,h⟩:=h
   refine ⟨hC,?_⟩
   refine ye 15 hC h λ _ h=>?_
   exact yz<|zk<|yC h (λ h=>Ze<|Zf<|Zb<|Zb<|Zf<|Z1 rfl h) λ h=>Zi<|Zg<|zk<|zr<|yb h λ _ w h=>zm<|zn<|zk<|⟨rfl,h⟩
 exact ZA<|Zc<|Zc<|Zp<|ZU<|Z1 rfl h
def Rb (b c d e:Vl) (a:WPr) (f:WPr) (R:RT) (w:Wd):Prop:=
 C0 108 #[d,e] R w λ g w=>
 a w∧(
 qV Pg a (Instr.build 76 #[(0,c),(1,g)]) λ h=>
 S0 76 b h R w λ w=>
 Xt w λ i w=>
 f w)
def ZaW (b c:Vl) (a:WPr) (d:WPr) (R:RT) (w:Wd):Prop:=
 J0 76 b 0 a λ e=>
 I0 3 e a λ f=>
 J0 48 c 2 a λ g=>
 I0 3 g a λ h=>
 J0 76 b 1 a λ i=>
 I0 3 i a λ j=>
 J0 48 c 2 a λ k=>
 I0 3 k a λ l=>
 C0 108 #[f,h] R w λ m w=>
 a w∧(
 Rb b m j l a d R w)
def Rc (b c d e:Vl) (a:WPr) (f:WPr) (R:RT) (w:Wd):Prop:=
 C0 109 #[d,e] R w λ g w=>
 a w∧(
 qV Pg a (Instr.build 76 #[(0,c),(1,g)]) λ h=>
 S0 76 b h R w λ w=>
 Xt w λ i w=>
 f w)
def ZaX (b c:Vl) (a:WPr) (d:WPr) (R:RT) (w:Wd):Prop:=
 J0 76 b 0 a λ e=>
 I0 3 e a λ f=>
 J0 76 c 0 a λ g=>
 I0 3 g a λ h=>
 J0 76 b 1 a λ i=>
 I0 3 i a λ j=>
 J0 76 c 1 a λ k=>
 I0 3 k a λ l=>
 C0 109 #[f,h] R w λ m w=>
 a w∧(
 Rc b m j l a d R w)
def ZaY (a e b f g:Vl) (Zo:KW) (R:RT) (w:Wd):Prop:=
 opV Pg (Instr.alloc 76 true (.tuple #[])) (Zh R) w λ c w=>
 S0 76 c g R w λ w=>
 F0 48 b 1 R w λ h w=>
 L0 42 h R w λ i w=>
 B0 .eql 42 true i (.int .i64 10) R w λ j w=>
 Zr (λ (w:Wd)=>
 B0 .add 3 true e (.int .i64 1) R w λ k w=>
 Zo f k w) λ d=>
 Zq j (
 Yy w λ l w=>
 ZaW a b l d R w) (
 Yy w λ m w=>
 ZaX a c m d R w)
def ZaZ (a b c:Vl) (d:WPr) (R:RT) (w:Wd):Prop:=
 I0 76 c d λ e=>
 S0 76 a e R w λ w=>
 Xt w λ f w=>
 qW Pg 76 a w λ r1=>
 R (.returned (.tuple #[b,r1])) w
def Za0 (e f b g c a:Vl) (Zo:KW) (R:RT) (w:Wd):Prop:=
 L0 76 c R w λ h w=>
 opV Pg (buildSlice 71 1 #[(0,h)]) (Zh R) w λ i w=>
 opV Pg (Builtin.append_ #[71,71] 71 #[g,i]) (Zh R) w λ j w=>
 F0 24 b 1 R w λ k w=>
 L0 22 k R w λ l w=>
 X0 22 l a R w λ m w=>
 L0 48 m R w λ n w=>
 opV Pg (Instr.alloc 48 true (.tuple #[])) (Zh R) w λ d w=>
 S0 48 d n R w λ w=>
 L0 28 f R w λ o w=>
 L0 24 b R w λ p w=>
 C0 107 #[o,p,a,e] R w λ q w=>
 ZaY c a d j q Zo R w
def Za1 (e f a g b c d:Vl) (Zo:KW) (R:RT) (w:Wd):Prop:=
 F0 24 a 1 R w λ h w=>
 L0 22 h R w λ i w=>
 G0 22 3 i R w λ j w=>
 B0 .lss 3 false d j R w λ k w=>
 Zq k (
 Za0 e f a b c d Zo R w) (
 Yy w λ l w=>
 ZaZ g b c l R w)
def n44 (a b c:Vl) (R:RT) (w:Wd):Prop:=
 opV Pg (Instr.box 28 a) (Zh R) w λ d w=>
 opV Pg (Instr.box 24 b) (Zh R) w λ e w=>
 opV Pg (Instr.alloc 76 true (.tuple #[])) (Zh R) w λ f w=>
 opV Pg (Instr.alloc 76 true (.tuple #[])) (Zh R) w λ g w=>
 Qi (λ h i w Zo=>
 Za1 c d e f h g i Zo R w) (Value.slice none 0 0) (.int .i64 0) w
theorem Ziq {t0 t1 t2:Vl} {R:RT} {w:Wd} (h:n44 t0 t1 t2 R w):Calls Pg 80 #[t0,t1,t2] w R:=by
 refine yD func80 ?_
 refine zs<|zr<|yv h λ _ w h=>yv h λ _ w h=>zm<|yv h λ _ w h=>zn<|zk<|zs<|zr<|zm<|zn<|zk<|zs<|zr ?_
 refine yv h λ _ w h=>zn<|zk<|zs<|zs<|zr<|zm<|zn<|zk<|Zj<|yl2 [8,10,11,12,13,14,15,16,17,18,19,20,21,22,23,24,25,26,27,28,29,30,31,32,33,34,35,36,37,38,39,40,41,42,43,44,45,46,47,48,49,50,51,52,53,54,55,56,57,58] 8 10 h λ σ w next h=>zs<|zs<|zr<|zm ?_
 refine yv h λ _ w h=>yv h λ _ w h=>yx h λ _ w h=>yb h λ _ w h=>zn<|zk<|yC h (λ h=>?_) λ h=>?_
 · refine Zi<|zk<|zs<|Zj<|zs<|zr<|zm<|yv h λ _ w h=>yS h λ _ w h=>yx h λ _ w h=>zm<|zn<|zk<|zs<|zr ?_
   refine yv h λ _ w h=>yv h λ _ w h=>zm<|yv h λ _ w h=>yv h λ _ w h=>yv h λ _ w h=>yu h λ w h=>zn<|zk<|zs<|zr<|yv h λ _ w h=>yv h λ _ w h=>zm<|zm ?_
   refine yc h ZgF λ _ w h=>yv h λ _ w h=>yu h λ w h=>zn<|zk<|zs<|zr<|yv h λ _ w h=>yv h λ _ w h=>yb h λ _ w h=>zn<|zk<|yJ0 [37,38,39,40,41,42,43,44,45,46,47,48,49,50,51,52,53,54,55,56,57,58] h (λ _ _ hkK2 h=>?_) λ σ w h=>?_
   · refine yC h (λ h=>?_) λ h=>?_
     · refine yh [37,38,39,40,41,42,43,44,45,46,47] h λ C hC h=>ye 0 hC h λ _ h=>?_
       refine ye 1 hC h λ _ h=>?_
       refine ye 2 hC h λ _ h=>?_
       refine ye 3 hC h λ _ h=>?_
       refine ye 5 hC h λ _ h=>?_
       refine ye 6 hC h λ _ h=>?_
       refine ye 7 hC h λ _ h=>?_
       refine ye 8 hC h λ _ h=>?_
       refine yo 4 ?_
       refine yc h ZcO λ _ w h=>zn ?_
       obtain ⟨hC,h⟩:=h
       refine ⟨hC,?_⟩
       refine yo 9 ?_
       refine yc h ZcO λ _ w h=>zn ?_
       obtain ⟨hC,h⟩:=h
       refine ⟨hC,?_⟩
       refine ye 10 hC h λ _ h=>?_
       refine yq 11 1 ?_
       refine yu h λ w h=>zn ?_
       obtain ⟨C4,hC,h⟩:=h
       refine ⟨C4,hC,?_⟩
       refine yz<|zk ?_
       exact zt hkK2 h
     refine yh [48,49,50,51,52,53,54,55,56,57,58] h λ C hC h=>ye 0 hC h λ _ h=>?_
     refine ye 1 hC h λ _ h=>?_
     refine ye 2 hC h λ _ h=>?_
     refine ye 3 hC h λ _ h=>?_
     refine ye 5 hC h λ _ h=>?_
     refine ye 6 hC h λ _ h=>?_
     refine ye 7 hC h λ _ h=>?_
     refine ye 8 hC h λ _ h=>?_
     refine yo 4 ?_
     refine yc h ZcP λ _ w h=>zn ?_
     obtain ⟨hC,h⟩:=h
     refine ⟨hC,?_⟩
     refine yo 9 ?_
     refine yc h ZcP λ _ w h=>zn ?_
     obtain ⟨hC,h⟩:=h
     refine ⟨hC,?_⟩
     refine ye 10 hC h λ _ h=>?_
     refine yq 11 1 ?_
     refine yu h λ w h=>zn ?_
     obtain ⟨C6,hC,h⟩:=h
     refine ⟨C6,hC,?_⟩
     refine yz<|zk ?_
     exact zt hkK2 h
   exact Zg<|zk<|zr<|zm<|yb h λ _ w h=>zm<|zn<|zk<|⟨rfl,h⟩
 refine ZA<|Zc<|Zc<|Zp<|zk<|zs<|yh [6,59,60] h λ C hC h=>yw 0 hC ?_
 refine ye 1 hC h λ _ h=>?_
 refine yw 2 hC ?_
 refine yq 3 1 ?_
 refine yu h λ w h=>zn ?_
 obtain ⟨C8,hC,h⟩:=h
 refine ⟨C8,hC,?_⟩
 exact yz<|zk<|Ze<|Hy rfl rfl rfl h
def n53 (b c:Vl) (R:RT) (w:Wd):Prop:=
 opV Pg (Instr.box 24 b) (Zh R) w λ d w=>
 opV Pg (Instr.box 9 c) (Zh R) w λ e w=>
 F0 24 d 1 R w λ f w=>
 L0 22 f R w λ g w=>
 opV Pg (makeFunc (.func 114) #[] #[e]) (Zh R) w λ h w=>
 C0 113 #[g,h] R w λ a w=>
 E0 a 0 R w λ i w=>
 E0 a 1 R w λ j w=>
 R (.returned (.tuple #[i,j])) w
theorem Ziy {t0 t1:Vl} {R:RT} {w:Wd} (h:n53 t0 t1 R w):Calls Pg 82 #[t0,t1] w R:=by
 refine yD func82 ?_
 refine zs<|zr<|yv h λ _ w h=>yv h λ _ w h=>zm<|zm<|zn<|zk<|zs<|zr<|yv h λ _ w h=>yv h λ _ w h=>yF h λ _ w h=>yc h ZgG λ _ w h=>yv h λ _ w h=>?_
 exact yv h λ _ w h=>zm<|zm<|zn<|zk<|Ze<|Qe rfl rfl rfl h
def HS (a b d:Vl) (Zo:KW) (R:RT) (w:Wd):Prop:=
 Zr (λ (a:Vl) (w:Wd)=>
 B0 .add 3 true b (.int .i64 1) R w λ e w=>
 Zo a e w) λ c=>
 Zq d (
 opV Pg (buildSlice 30 1 #[(0,b)]) (Zh R) w λ f w=>
 opV Pg (Builtin.append_ #[30,30] 30 #[a,f]) (Zh R) w λ g w=>
 c g w) (
 c a w)
def OK (b c d a:Vl) (Zo:KW) (R:RT) (w:Wd):Prop:=
 X0 93 b a R w λ e w=>
 L0 4 e R w λ f w=>
 XB Pg c #[a,f] (Zh R) w λ g w=>
 HS d a g Zo R w
def Zdx (a d:Vl) (R:RT) (w:Wd):Prop:=
 G0 93 3 a R w λ e w=>
 Qi (λ b c w Zo=>
 B0 .lss 3 false c e R w λ f w=>
 Zq f (
 OK a d b c Zo R w) (
 R (.returned b) w)) (Value.slice none 0 0) (.int .i64 0) w
theorem Zdy {t0 t1:Vl} {R:RT} {w:Wd} (h:Zdx t0 t1 R w):Calls Pg 87 #[t0,t1] w R:=by
 refine yD func87 ?_
 refine zs<|zr<|zm<|zn<|zk<|zs<|zs<|zr<|zm<|yx h λ _ w h=>zm<|zn<|zk<|Zj<|yl2 [4,5,6,9,10,11,12,13,14,15,16,17,18,19,20,21,22] 4 9 h λ σ w next h=>?_
 refine zs<|zr<|yb h λ _ w h=>zn<|zk<|zs<|yC h (λ h=>?_) λ h=>?_
 · refine Zi<|zk<|zs<|Zj<|zs<|zr<|zm<|yv h λ _ w h=>yv h λ _ w h=>zm<|zm<|zn<|zk<|zs<|zr ?_
   refine zm<|zm<|zm<|yV h λ _ w h=>zn<|zk<|yJ1 [4,18,19,20,21] 4 h (λ _ _ hkK2 h=>?_) λ σ w h=>?_
   · refine yC h (λ h=>?_) λ h=>?_
     · refine zr<|zm<|zm<|yS h λ _ w h=>yx h λ _ w h=>zm<|zn<|zk ?_
       exact zt hkK2 h
     refine Zi<|zk ?_
     exact zt hkK2 h
   exact Zg<|zk<|zr<|yb h λ _ w h=>zm<|zn<|zk<|⟨rfl,h⟩
 exact ZA<|Zc<|Zc<|Zp<|zk<|zs<|zr<|zm<|zm<|zn<|zk<|Ze<|Zk rfl rfl h
def Zds (e a b:Vl) (R:RT) (w:Wd):Prop:=
 L0 4 b R w λ c w=>
 B0 .eql 4 false a c R w λ d w=>
 R (.returned d) w
theorem Zdt {t0 t1 t2:Vl} {R:RT} {w:Wd} (h:Zds t0 t1 t2 R w):Calls Pg 88 #[t0,t1,t2] w R:=by
 refine yD func88 ?_
 exact zs<|zr<|zm<|zn<|zk<|zs<|zr<|zm<|yv h λ _ w h=>yb h λ _ w h=>zm<|zn<|zk<|Ze<|Zk rfl rfl h
def PO (e b f g:Vl) (Vw:KV) (R:RT) (w:Wd):Prop:=
 Zw f g (.bool false) λ c=>
 Zr (λ (a:Vl) (w:Wd)=>
 Zw c a (.bool false) λ h=>
 Zq h (
 R (.returned (.bool false)) w) (
 B0 .add 3 true b (.int .i64 1) R w λ i w=>
 Vw i w)) λ d=>
 Zn c true (
 opV Pg (Instr.index 9 e b) (Zh R) w λ j w=>
 opV Pg (ZI .neq 5 true j (.int .u8 95)) (Zh R) w λ a w=>
 d a w) (
 d undef w)
def Zag (b c f:Vl) (Vw:KV) (R:RT) (w:Wd):Prop:=
 N0 f R w λ d w=>
 Zr (λ (a:Vl) (w:Wd)=>
 PO b c d a Vw R w) λ e=>
 Zn d true (
 opV Pg (Instr.index 9 b c) (Zh R) w λ g w=>
 C0 118 #[g] R w λ h w=>
 N0 h R w λ a w=>
 e a w) (
 e undef w)
def PP (a b:Vl) (Vw:KV) (R:RT) (w:Wd):Prop:=
 G0 9 3 a R w λ c w=>
 B0 .lss 3 false b c R w λ d w=>
 Zq d (
 opV Pg (Instr.index 9 a b) (Zh R) w λ e w=>
 C0 117 #[e] R w λ f w=>
 Zag a b f Vw R w) (
 R (.returned (.bool true)) w)
def Lq (b e f:Vl) (R:RT) (w:Wd):Prop:=
 Zw e (.bool true) f λ c=>
 Zr (λ (a:Vl) (w:Wd)=>
 Zw c (.bool true) a λ g=>
 Zq g (
 R (.returned (.bool false)) w) (
 YS (λ h w Vw=>
 PP b h Vw R w) (.int .i64 0) w)) λ d=>
 Zn c false (
 opV Pg (Instr.index 9 b (.int .i64 0)) (Zh R) w λ i w=>
 C0 117 #[i] R w λ j w=>
 N0 j R w λ a w=>
 d a w) (
 d undef w)
def n17 (a:Vl) (R:RT) (w:Wd):Prop:=
 G0 9 3 a R w λ e w=>
 B0 .lss 3 true e (.int .i64 1) R w λ c w=>
 Zr (λ (b:Vl) (w:Wd)=>
 Lq a c b R w) λ d=>
 Zn c false (
 G0 9 3 a R w λ f w=>
 B0 .gtr 3 true f (.int .i64 32) R w λ b w=>
 d b w) (
 d undef w)
theorem ZhZ {t0:Vl} {R:RT} {w:Wd} (h:n17 t0 R w):Calls Pg 89 #[t0] w R:=by
 refine yD func89 ?_
 refine zs<|zr<|zm<|zn<|zk<|zs<|zs<|Zu<|yG 4<|zm<|yx h λ _ w h=>yb h λ _ w h=>zm<|zn<|yg1 3 3 false [8,9,10] 10 h (λ _ T hT h=>?_) λ σ w h=>?_
 · refine zm<|yx h λ _ w h=>yb h λ _ w h=>zn ?_
   exact zt hT h
 refine yG 2<|yp h λ _ h=>zm<|zn<|yg1 4 8 false [13,14,15,16] 16 h (λ _ T hT h=>?_) λ σ w h=>?_
 · refine zm<|yv h λ _ w h=>yc h ZcQ λ _ w h=>yv h λ _ w h=>zn ?_
   exact zt hT h
 refine yG 1<|yp h λ _ h=>zn<|ZQ<|zk<|yC h (λ h=>zs<|zr<|zm<|zn<|zk<|Ze<|Zb<|Zk rfl rfl h) λ h=>Zi<|zk<|zs<|zs<|zr<|zm<|zn<|zk ?_
 refine Zj<|yl1 [2,3,18,19,20,21,22,23,24,25,26,27,28,29,30,31,32,33,34,35,36,37,38,39,40,41] 3 h λ σ w next h=>zs<|zs<|zr<|zm<|zm<|yx h λ _ w h=>yb h λ _ w h=>zn<|zk<|yC h (λ h=>?_) λ h=>?_
 · refine Zi<|zk<|zs<|Zj<|zs<|Zu<|yG 6<|zm<|zm<|yv h λ _ w h=>yc h ZcQ λ _ w h=>yv h λ _ w h=>zm<|zn<|yg1 5 5 true [30,31,32,33,34] 34 h (λ _ T hT h=>?_) λ σ w h=>?_
   · refine zm<|zm<|yv h λ _ w h=>yc h ZgI λ _ w h=>yv h λ _ w h=>zn ?_
     exact zt hT h
   refine yG 2<|yp h λ _ h=>zm<|zn<|yg1 4 12 true [37,38,39,40] 40 h (λ _ T hT h=>?_) λ σ w h=>?_
   · refine zm<|zm<|yv h λ _ w h=>yb h λ _ w h=>zn ?_
     exact zt hT h
   refine yG 1<|yp h λ _ h=>zn<|ZQ<|zk<|yC h (λ h=>zs<|zr<|zm<|zn<|zk<|Ze<|Zf<|Zb<|Zb<|Zf<|Zb<|Zk rfl rfl h) λ h=>Zi<|Zg<|zk<|zr<|zm<|yb h λ _ w h=>zm<|zn ?_
   exact zk<|⟨rfl,h⟩
 exact ZA<|Zc<|Zc<|Zp<|zk<|zs<|zr<|zm<|zn<|zk<|Ze<|Zk rfl rfl h
def Cq (a b c d:Vl) (R:RT) (w:Wd):Prop:=
 N0 d R w λ e w=>
 Zq e (
 R (.returned (.int .i64 5)) w) (
 L0 28 c R w λ f w=>
 C0 120 #[f,a,b] R w λ g w=>
 R (.returned g) w)
def Cr (a b c d e f:Vl) (R:RT) (w:Wd):Prop:=
 Zw e (.bool true) f λ g=>
 Zq g (
 R (.returned (.int .i64 4)) w) (
 L0 48 d R w λ h w=>
 C0 119 #[h] R w λ i w=>
 Cq a b c i R w)
def Ct (e f g a:Vl) (R:RT) (w:Wd):Prop:=
 F0 48 a 1 R w λ h w=>
 L0 42 h R w λ i w=>
 B0 .lss 42 true i (.int .i64 1) R w λ c w=>
 Zr (λ (b:Vl) (w:Wd)=>
 Cr e f g a c b R w) λ d=>
 Zn c false (
 F0 48 a 1 R w λ j w=>
 L0 42 j R w λ k w=>
 B0 .gtr 42 true k (.int .i64 12) R w λ b w=>
 d b w) (
 d undef w)
def Cu (b c d e:Vl) (a:WPr) (R:RT) (w:Wd):Prop:=
 J0 28 d 1 a λ f=>
 I0 26 f a λ g=>
 M0 26 g b a λ h=>
 I0 24 h a λ i=>
 J0 48 e 0 a λ j=>
 I0 9 j a λ k=>
 C0 45 #[i,k,c] R w λ l w=>
 a w∧(
 qV Pg a (ZI .geq 3 true l (.int .i64 0)) λ m=>
 Zq m (
 R (.returned (.int .i64 2)) w) (
 Ct b c d e R w))
def n31 (e b c:Vl) (R:RT) (w:Wd):Prop:=
 opV Pg (Instr.box 28 e) (Zh R) w λ d w=>
 F0 28 d 1 R w λ f w=>
 L0 26 f R w λ g w=>
 X0 26 g b R w λ h w=>
 F0 24 h 1 R w λ i w=>
 L0 22 i R w λ j w=>
 X0 22 j c R w λ k w=>
 L0 48 k R w λ l w=>
 opV Pg (Instr.alloc 48 true (.tuple #[])) (Zh R) w λ a w=>
 S0 48 a l R w λ w=>
 F0 48 a 0 R w λ m w=>
 L0 9 m R w λ n w=>
 C0 89 #[n] R w λ o w=>
 N0 o R w λ p w=>
 Zq p (
 R (.returned (.int .i64 1)) w) (
 Yy w λ q w=>
 Cu b c d a q R w)
theorem Zid {t0 t1 t2:Vl} {R:RT} {w:Wd} (h:n31 t0 t1 t2 R w):Calls Pg 90 #[t0,t1,t2] w R:=by
 refine yD func90 ?_
 refine zs<|zr<|yv h λ _ w h=>zm<|zn<|zk<|zs<|zr<|yv h λ _ w h=>yv h λ _ w h=>zm<|yv h λ _ w h=>yv h λ _ w h=>yv h λ _ w h=>zm ?_
 refine yv h λ _ w h=>yv h λ _ w h=>yv h λ _ w h=>yu h λ w h=>zn<|zk<|zs<|zs<|zr<|yv h λ _ w h=>yv h λ _ w h=>yc h c89 λ _ w h=>yv h λ _ w h=>zn<|zk ?_
 refine yC h (λ h=>zs<|zr<|zm<|zn<|zk<|Ze<|Zb<|Zk rfl rfl h) λ h=>Zi<|zk<|zs<|zs<|yh [21,22,23,24,25,26,27,28,29,30] h λ C hC h=>ye 0 hC h λ _ h=>?_
 refine ye 1 hC h λ _ h=>?_
 refine yw 2 hC ?_
 refine ye 3 hC h λ _ h=>?_
 refine ye 4 hC h λ _ h=>?_
 refine ye 5 hC h λ _ h=>?_
 refine ye 6 hC h λ _ h=>?_
 refine yw 7 hC ?_
 refine yo 8 ?_
 refine yc h c45 λ _ w h=>zn ?_
 obtain ⟨hC,h⟩:=h
 refine ⟨hC,?_⟩
 refine ye 9 hC h λ _ h=>?_
 refine yz<|zk<|yC h (λ h=>zs<|zr<|zm<|zn<|zk<|Ze<|Zb<|Zk rfl rfl h) λ h=>Zi<|zk<|zs<|zs<|Zu<|yG 4<|yv h λ _ w h=>yv h λ _ w h=>yb h λ _ w h=>zm<|zn ?_
 refine yg1 3 3 false [35,36,37] 37 h (λ _ T hT h=>?_) λ σ w h=>?_
 · refine yv h λ _ w h=>yv h λ _ w h=>yb h λ _ w h=>zn ?_
   exact zt hT h
 refine yG 1<|yp h λ _ h=>zn<|ZQ<|zk<|yC h (λ h=>zs<|zr<|zm<|zn<|zk<|Ze<|Zb<|Zk rfl rfl h) λ h=>Zi<|zk<|zs<|zs<|zr<|yv h λ _ w h=>yc h ZgJ λ _ w h=>yv h λ _ w h=>?_
 refine zn<|zk<|yC h (λ h=>zs<|zr<|zm<|zn<|zk<|Ze<|Zb<|Zk rfl rfl h) λ h=>Zi<|zk<|zs<|zr<|yv h λ _ w h=>zm<|zm<|yc h ZgK λ _ w h=>zm<|zn<|zk ?_
 exact Ze<|Zk rfl rfl h
def Y7 (f:Zl):Bool:=f.kind == 1||f.kind == 2||f.kind == 3
def Xk (f:Zl):Int:=if f.kind == 2 then f.low else f.high
abbrev Zv (lo hi:Int):Vl := .agg #[.int .i64 lo,.int .i64 hi]
theorem Ht (w0:Wd) (v:Vl) (f:Zl) (hf:Yh w0 v f):Ret Pg 49 #[v] w0 λ r w'=>r = .bool (Y7 f)∧Ext w0 w':=by
 obtain ⟨tv,cv,rfl,hT,hC⟩:=hf
 refine ZiC (R:=ZO _) ?_;unfold n58
 simp (disch:=try exact DI) only [↓PR,QR,simprocAttr,↓Zba]
 exact ⟨by first | trivial | rfl,ee⟩
theorem J7 (w0:Wd) (v:Vl) (f:Zl) (hf:Yh w0 v f):Ret Pg 47 #[v] w0 λ r w'=>r = .bool (Y7 f)∧Ext w0 w':=by
 obtain ⟨tv,cv,rfl,hT,hC⟩:=hf
 refine Zh7 (R:=ZO _) ?_;unfold n25
 simp (disch:=try exact DI) only [↓PR,QR,simprocAttr,Sw.joinK_eq]
 refine ⟨?_,(Ext.refl _).alloc _⟩
 congr 1
 unfold Y7
 rw [Bool.eq_iff_iff]
 simp
 omega
theorem zG (w0:Wd) (v:Vl) (f:Zl) (hf:Yh w0 v f):Ret Pg 152 #[v] w0 λ r w'=>r = .tuple #[.int .i64 f.low,.int .i64 (Xk f)]∧Ext w0 w':=by
 obtain ⟨tv,cv,rfl,hT,hC⟩:=hf
 refine Zh8 (R:=ZO _) ?_;unfold n26
 simp (disch:=try exact DI) only [↓PR,QR,simprocAttr,↓Lv,↓Lw]
 unfold Xk
 cases f.kind == 2
 · simp (disch:=try exact DI) only [↓PR,QR,simprocAttr]
   refine Zy ?_
   simp (disch:=try exact DI) only [↓PR,QR,simprocAttr,↓Lv,↓Lw]
   exact ⟨by first | trivial | rfl,ee⟩
 · simp (disch:=try exact DI) only [↓PR,QR,simprocAttr]
   refine Zy ?_
   simp (disch:=try exact DI) only [↓PR,QR,simprocAttr,↓Lv,↓Lw]
   exact ⟨by first | trivial | rfl,ee⟩
theorem Mr (w0:Wd) (v:Vl) (f:Zl) (hf:Yh w0 v f):Ret Pg 236 #[v] w0 λ r w'=>r = .tuple #[if Y7 f then Zv f.low (Xk f) else Zv 0 0,.int .i64 (if Y7 f then 0 else 2)]∧Ext w0 w':=by
 obtain ⟨tv,cv,rfl,hT,hC⟩:=hf
 refine ZiD (R:=ZO _) ?_;unfold n59
 simp (disch:=try exact DI) only [↓PR,QR,simprocAttr,↓Cv,↓Cw,↓Cx,↓Cy]
 refine zcr (Ht _ _ f ⟨tv,cv,rfl,ZV.ext hT ee,Yc.ext hC ee⟩) λ w1 e1=>?_
 have s1:=e1.size
 try simp only [World.size_alloc,World.size_setCell,World.size_drew,World.putObj_size,Sw.putW_size] at s1
 cases hn:Y7 f with
 | false=>
  simp (disch:=try exact DI) only [↓PR,QR,simprocAttr,↓Cv,↓Cw,↓Cx,↓Cy,e1.cellQ,e1.frozenQ]
  exact ⟨by first | trivial | rfl,ee⟩
 | true=>
  simp (disch:=try exact DI) only [↓PR,QR,simprocAttr,↓Cv,↓Cw,↓Cx,↓Cy,e1.cellQ,e1.frozenQ]
  unfold Xk
  cases f.kind == 2
  · simp (disch:=try exact DI) only [↓PR,QR,simprocAttr,↓Cv,↓Cw,↓Cx,↓Cy,e1.cellQ,e1.frozenQ]
    exact ⟨by first | trivial | rfl,ee⟩
  · simp (disch:=try exact DI) only [↓PR,QR,simprocAttr,↓Cv,↓Cw,↓Cx,↓Cy,e1.cellQ,e1.frozenQ]
    exact ⟨by first | trivial | rfl,ee⟩
theorem yl (w0:Wd) (v:Vl) (l:List ZC) (g:FuncId) (caps:AVl) (p:ZC→Bool) (hs:Vi w0 v l) (hg:Callable Pg g) (hc:jW w0 Qr g caps p l) :
 Ret Pg 67 #[v,.func (.func g) #[] caps] w0 λ r w'=>r = .tuple #[.int .i64 (if idx p l < 0 then 0 else idx p l),.bool (l.any p)]∧Ext w0 w':=by
 refine ZiU (R:=ZO _) ?_;unfold n77
 refine zcr (Jo _ _ l g caps p hs hg hc) λ w1 e1=>?_
 have s1:=e1.size
 try simp only [World.size_alloc,World.size_setCell,World.size_drew,World.putObj_size,Sw.putW_size] at s1
 simp (disch:=try exact DI) only [↓PR,QR,simprocAttr,↓Zbx]
 exact ⟨by rw [Qq],e1⟩
theorem jz (w0:Wd) (v:Vl) (l:List Zl) (g:FuncId) (caps:AVl) (p:Zl→Bool) (hs:Yq w0 v l) (hg:Callable Pg g) (hc:jW w0 Yh g caps p l) :
 Ret Pg 113 #[v,.func (.func g) #[] caps] w0 λ r w'=>r = .tuple #[.int .i64 (if idx p l < 0 then 0 else idx p l),.bool (l.any p)]∧Ext w0 w':=by
 refine ZiT (R:=ZO _) ?_;unfold n76
 refine zcr (Uu _ _ l g caps p hs hg hc) λ w1 e1=>?_
 have s1:=e1.size
 try simp only [World.size_alloc,World.size_setCell,World.size_drew,World.putObj_size,Sw.putW_size] at s1
 simp (disch:=try exact DI) only [↓PR,QR,simprocAttr,↓Zbw]
 exact ⟨by rw [Qq],e1⟩
def MW {α:Type} (p:α→Bool) (l:List α):Int:=if idx p l < 0 then 0 else idx p l
theorem Eo (w0:Wd) (v:Vl) (f:Zl) (pb:Nat) (s:BAr) (hf:Yh w0 v f) (hp:w0.cell? ⟨pb,0,none⟩=some (.string s)):Ret Pg 114 #[v,.pointer (some ⟨pb,0,none⟩)] w0 λ r w'=>r = .bool (decide (f.name=s))∧Ext w0 w':=by
 obtain ⟨tv,cv,rfl,hT,hC⟩:=hf
 have hb:=World.block_lt_of_cell? w0 _ hp
 simp only at hb
 refine Ziz (R:=ZO _) ?_;unfold n55
 simp (disch:=try exact DI) only [↓PR,QR,simprocAttr,Sw.joinK_eq,hp]
 exact ⟨by first | trivial | rfl,ee⟩
theorem Hq (w0:Wd) (v:Vl) (m:ZC) (pb:Nat) (s:BAr) (hf:Qr w0 v m) (hp:w0.cell? ⟨pb,0,none⟩=some (.string s)):Ret Pg 68 #[v,.pointer (some ⟨pb,0,none⟩)] w0 λ r w'=>r = .bool (decide (m.name=s))∧Ext w0 w':=by
 obtain ⟨fv,rfl,hF⟩:=hf
 have hb:=World.block_lt_of_cell? w0 _ hp
 simp only at hb
 refine ZiB (R:=ZO _) ?_;unfold n57
 simp (disch:=try exact DI) only [↓PR,QR,simprocAttr,Sw.joinK_eq,hp]
 exact ⟨by first | trivial | rfl,ee⟩
theorem B6 (w0:Wd) (v:Vl) (m:ZC) (s:BAr) (hm:Qr w0 v m):Ret Pg 82 #[v,.string s] w0 λ r w'=>r = .tuple #[.int .i64 (MW (λ f=>decide (f.name=s)) m.fields),.bool (m.fields.any λ f=>decide (f.name=s))]∧Ext w0 w':=by
 obtain ⟨fv,rfl,hF⟩:=hm
 refine Ziy (R:=ZO _) ?_;unfold n53
 simp (disch:=try exact DI) only [↓PR,QR,simprocAttr,Sw.joinK_eq]
 refine Zs (jz _ _ m.fields _ _ (λ f=>decide (f.name=s)) (hF.ext ee) ZgH ?_) ?_
 · intro w v f hf e hv
   exact Eo w v f _ s hv (e.cell (by simp (disch:=try exact DI) only [↓PR,QR,simprocAttr]))
 rintro _ w1 ⟨rfl,e1⟩
 simp (disch:=try exact DI) only [↓PR,QR,simprocAttr,Sw.joinK_eq]
 exact ⟨by first | trivial | rfl,ee⟩
theorem Ep (w0:Wd) (v:Vl) (d:YQ) (s:BAr) (hd:YT w0 v d):Ret Pg 31 #[v,.string s] w0 λ r w'=>r = .tuple #[.int .i64 (MW (λ m=>decide (m.name=s)) d.msgs),.bool (d.msgs.any λ m=>decide (m.name=s))]∧Ext w0 w':=by
 obtain ⟨fv,rfl,hF⟩:=hd
 refine ZiA (R:=ZO _) ?_;unfold n56
 simp (disch:=try exact DI) only [↓PR,QR,simprocAttr,Sw.joinK_eq]
 refine Zs (yl _ _ d.msgs _ _ (λ m=>decide (m.name=s)) (hF.ext ee) c68 ?_) ?_
 · intro w v f hf e hv
   exact Hq w v f _ s hv (e.cell (by simp (disch:=try exact DI) only [↓PR,QR,simprocAttr]))
 rintro _ w1 ⟨rfl,e1⟩
 simp (disch:=try exact DI) only [↓PR,QR,simprocAttr,Sw.joinK_eq]
 exact ⟨by first | trivial | rfl,ee⟩
def Zd8 (a:Vl) (R:RT) (w:Wd):Prop:=
 opV Pg (ZI .eql 26 true a (Value.slice none 0 0)) (Zh R) w λ b w=>
 Zq b (
 R (.returned (Value.slice none 0 0)) w) (
 opV Pg (buildSlice 26 0 #[]) (Zh R) w λ c w=>
 opV Pg (Builtin.append_ #[26,26] 26 #[c,a]) (Zh R) w λ d w=>
 R (.returned d) w)
theorem Zd9 {t0:Vl} {R:RT} {w:Wd} (h:Zd8 t0 R w):Calls Pg 58 #[t0] w R:=by
 refine yD func58 ?_
 refine zs<|zr<|zm<|zn<|zk<|zs<|zs<|zr<|zm<|yb h λ _ w h=>zn<|zk<|yC h (λ h=>zs<|zr<|zm<|zn<|zk<|Ze<|Zb<|Zk rfl rfl h) λ h=>Zi ?_
 exact zk<|zs<|zr<|yS h λ _ w h=>zm<|yx h λ _ w h=>zm<|zn<|zk<|Ze<|Zk rfl rfl h
def Zd6 (a:Vl) (R:RT) (w:Wd):Prop:=
 opV Pg (ZI .eql 22 true a (Value.slice none 0 0)) (Zh R) w λ b w=>
 Zq b (
 R (.returned (Value.slice none 0 0)) w) (
 opV Pg (buildSlice 22 0 #[]) (Zh R) w λ c w=>
 opV Pg (Builtin.append_ #[22,22] 22 #[c,a]) (Zh R) w λ d w=>
 R (.returned d) w)
theorem Zd7 {t0:Vl} {R:RT} {w:Wd} (h:Zd6 t0 R w):Calls Pg 59 #[t0] w R:=by
 refine yD func59 ?_
 refine zs<|zr<|zm<|zn<|zk<|zs<|zs<|zr<|zm<|yb h λ _ w h=>zn<|zk<|yC h (λ h=>zs<|zr<|zm<|zn<|zk<|Ze<|Zb<|Zk rfl rfl h) λ h=>Zi ?_
 exact zk<|zs<|zr<|yS h λ _ w h=>zm<|yx h λ _ w h=>zm<|zn<|zk<|Ze<|Zk rfl rfl h
def Zea (a:Vl) (R:RT) (w:Wd):Prop:=
 opV Pg (ZI .eql 43 true a (Value.slice none 0 0)) (Zh R) w λ b w=>
 Zq b (
 R (.returned (Value.slice none 0 0)) w) (
 opV Pg (buildSlice 43 0 #[]) (Zh R) w λ c w=>
 opV Pg (Builtin.append_ #[43,43] 43 #[c,a]) (Zh R) w λ d w=>
 R (.returned d) w)
theorem Zeb {t0:Vl} {R:RT} {w:Wd} (h:Zea t0 R w):Calls Pg 60 #[t0] w R:=by
 refine yD func60 ?_
 refine zs<|zr<|zm<|zn<|zk<|zs<|zs<|zr<|zm<|yb h λ _ w h=>zn<|zk<|yC h (λ h=>zs<|zr<|zm<|zn<|zk<|Ze<|Zb<|Zk rfl rfl h) λ h=>Zi ?_
 exact zk<|zs<|zr<|yS h λ _ w h=>zm<|yx h λ _ w h=>zm<|zn<|zk<|Ze<|Zk rfl rfl h
def Zd4 (a:Vl) (R:RT) (w:Wd):Prop:=
 opV Pg (ZI .eql 46 true a (Value.slice none 0 0)) (Zh R) w λ b w=>
 Zq b (
 R (.returned (Value.slice none 0 0)) w) (
 opV Pg (buildSlice 46 0 #[]) (Zh R) w λ c w=>
 opV Pg (Builtin.append_ #[46,46] 46 #[c,a]) (Zh R) w λ d w=>
 R (.returned d) w)
theorem Zd5 {t0:Vl} {R:RT} {w:Wd} (h:Zd4 t0 R w):Calls Pg 61 #[t0] w R:=by
 refine yD func61 ?_
 refine zs<|zr<|zm<|zn<|zk<|zs<|zs<|zr<|zm<|yb h λ _ w h=>zn<|zk<|yC h (λ h=>zs<|zr<|zm<|zn<|zk<|Ze<|Zb<|Zk rfl rfl h) λ h=>Zi ?_
 exact zk<|zs<|zr<|yS h λ _ w h=>zm<|yx h λ _ w h=>zm<|zn<|zk<|Ze<|Zk rfl rfl h
def Za9 (b a:Vl) (R:RT) (w:Wd):Prop:=
 E0 a 0 R w λ g w=>
 E0 a 1 R w λ d w=>
 E0 a 2 R w λ e w=>
 opV Pg (Instr.alloc 90 true (.tuple #[])) (Zh R) w λ c w=>
 S0 90 c d R w λ w=>
 L0 90 c R w λ f w=>
 S0 90 b f R w λ w=>
 qW Pg 90 b w λ r0=>
 R (.returned (.tuple #[r0,e])) w
def n51 (a:Vl) (R:RT) (w:Wd):Prop:=
 opV Pg (Instr.box 28 a) (Zh R) w λ b w=>
 opV Pg (Instr.alloc 90 true (.tuple #[])) (Zh R) w λ c w=>
 L0 28 b R w λ d w=>
 C0 93 #[d] R w λ e w=>
 Za9 c e R w
theorem Ziw {t0:Vl} {R:RT} {w:Wd} (h:n51 t0 R w):Calls Pg 62 #[t0] w R:=by
 refine yD func62 ?_
 refine zs<|zr<|yv h λ _ w h=>yv h λ _ w h=>zm<|zn<|zk<|zs<|zr<|yv h λ _ w h=>yc h c93 λ _ w h=>zm<|yv h λ _ w h=>yv h λ _ w h=>yv h λ _ w h=>?_
 refine yv h λ _ w h=>zm<|yu h λ w h=>zm<|zn<|zk<|zs<|zr<|yv h λ _ w h=>zm<|yu h λ w h=>zm<|zn<|zk<|Ze ?_
 exact Yw rfl rfl rfl h
open Go.RowKit (intOf Below)
theorem Jr (w0:Wd) (v:Vl) (css:List (Cs 2)) (hs:Zd w0 2 (λ _ cs x=>cs=x.1) v css) (h1:∀ x∈css,∀ u∈x.1,u.oneCell'=true) (hb:css.length≤1048576) :
 Ret Pg 60 #[v] w0 λ r w'=>Yk w' w0.heap.size 62 2 Subtype.val r css∧Ext w0 w':=by
 obtain ⟨A,c,rfl,hlc,hcm,hlm,Y3⟩:=Zd.open hs
 refine Zeb (R:=ZO _) ?_;unfold Zea
 simp (disch:=try exact DI) only [↓PR,QR,simprocAttr]
 cases A with
 | none=>
  have:css=[]:=by
   cases css with
   | nil=>rfl
   | cons x l=>obtain ⟨_,_,_,h,_⟩:=Y3 0 x rfl;cases h
  subst this
  simp only [Option.isNone_none]
  simp (disch:=try exact DI) only [↓PR,QR,simprocAttr]
  exact ⟨Yk.nil _ _ _ _ _,ee⟩
 | some a=>
  simp only [Option.isNone_some]
  simp (disch:=try exact DI) only [↓PR,QR,simprocAttr]
  have hO:=Yk.new w0 62 2 (Subtype.val:Cs 2→List Vl) [] (λ x=>x.2) (by simp)
  simp only [List.flatMap_nil,List.length_nil] at hO
  have eW:Ext w0 (w0.alloc (.cells #[] 62)):=ee
  have VF:w0.heap.size≤(w0.alloc (.cells #[] 62)).heap.size:=eW.size
  generalize w0.alloc (.cells #[] 62)=W at hO eW VF ⊢
  cases hcs:css with
  | nil=>
   subst hcs
   simp only [List.length_nil]
   rw [KZ underlying43 B5 _ _ _ _ _ (Nat.le_refl 0)]
   simp (disch:=try exact DI) only [↓PR,QR,simprocAttr]
   exact ⟨hO,eW⟩
  | cons x0 l0=>
   obtain ⟨b,o,_,hA,_⟩:=Y3 0 x0 (by rw [hcs];rfl)
   injection hA with hA
   subst hA
   rw [← hcs]
   refine QT underlying43 B5 rfl (by decide) (λ x=>x.2) h1 hO (λ j x hx=>?_) VF ?_ (by simp;omega) ?_
   · obtain ⟨b',o',cs,hA',hl',hE,rfl⟩:=Y3 j x hx
     injection hA' with hA'
     injection hA' with h3 h4
     subst h3 h4
     exact hE.ext eW
   · have:=ZgA
     rw [List.length_nil,Nat.zero_add]
     exact Nat.le_trans (Nat.mul_le_mul hb this) (by decide)
   · intro v' w' ho hg
     simp (disch:=try exact DI) only [↓PR,QR,simprocAttr]
     refine ⟨ho,eW.grown hg ?_⟩
     intro k hk
     have h:=hO.lt k hk
     exact h.1
theorem jN (w0:Wd) (v:Vl) (css:List (Cs 3)) (hs:Zd w0 3 (λ _ cs x=>cs=x.1) v css) (h1:∀ x∈css,∀ u∈x.1,u.oneCell'=true) (hb:css.length≤1048576) :
 Ret Pg 61 #[v] w0 λ r w'=>Yk w' w0.heap.size 60 3 Subtype.val r css∧Ext w0 w':=by
 obtain ⟨A,c,rfl,hlc,hcm,hlm,Y3⟩:=Zd.open hs
 refine Zd5 (R:=ZO _) ?_;unfold Zd4
 simp (disch:=try exact DI) only [↓PR,QR,simprocAttr]
 cases A with
 | none=>
  have:css=[]:=by
   cases css with
   | nil=>rfl
   | cons x l=>obtain ⟨_,_,_,h,_⟩:=Y3 0 x rfl;cases h
  subst this
  simp only [Option.isNone_none]
  simp (disch:=try exact DI) only [↓PR,QR,simprocAttr]
  exact ⟨Yk.nil _ _ _ _ _,ee⟩
 | some a=>
  simp only [Option.isNone_some]
  simp (disch:=try exact DI) only [↓PR,QR,simprocAttr]
  have hO:=Yk.new w0 60 3 (Subtype.val:Cs 3→List Vl) [] (λ x=>x.2) (by simp)
  simp only [List.flatMap_nil,List.length_nil] at hO
  have eW:Ext w0 (w0.alloc (.cells #[] 60)):=ee
  have VF:w0.heap.size≤(w0.alloc (.cells #[] 60)).heap.size:=eW.size
  generalize w0.alloc (.cells #[] 60)=W at hO eW VF ⊢
  cases hcs:css with
  | nil=>
   subst hcs
   simp only [List.length_nil]
   rw [KZ underlying46 jC _ _ _ _ _ (Nat.le_refl 0)]
   simp (disch:=try exact DI) only [↓PR,QR,simprocAttr]
   exact ⟨hO,eW⟩
  | cons x0 l0=>
   obtain ⟨b,o,_,hA,_⟩:=Y3 0 x0 (by rw [hcs];rfl)
   injection hA with hA
   subst hA
   rw [← hcs]
   refine QT underlying46 jC rfl (by decide) (λ x=>x.2) h1 hO (λ j x hx=>?_) VF ?_ (by simp;omega) ?_
   · obtain ⟨b',o',cs,hA',hl',hE,rfl⟩:=Y3 j x hx
     injection hA' with hA'
     injection hA' with h3 h4
     subst h3 h4
     exact hE.ext eW
   · have:=Zgz
     rw [List.length_nil,Nat.zero_add]
     exact Nat.le_trans (Nat.mul_le_mul hb this) (by decide)
   · intro v' w' ho hg
     simp (disch:=try exact DI) only [↓PR,QR,simprocAttr]
     refine ⟨ho,eW.grown hg ?_⟩
     intro k hk
     have h:=hO.lt k hk
     exact h.1
theorem jv (w0:Wd) (v:Vl) (css:List (Cs 15)) (hs:Zd w0 15 (λ _ cs x=>cs=x.1) v css) (h1:∀ x∈css,∀ u∈x.1,u.oneCell'=true) (hb:css.length≤1048576) :
 Ret Pg 59 #[v] w0 λ r w'=>Yk w' w0.heap.size 48 15 Subtype.val r css∧Ext w0 w':=by
 obtain ⟨A,c,rfl,hlc,hcm,hlm,Y3⟩:=Zd.open hs
 refine Zd7 (R:=ZO _) ?_;unfold Zd6
 simp (disch:=try exact DI) only [↓PR,QR,simprocAttr]
 cases A with
 | none=>
  have:css=[]:=by
   cases css with
   | nil=>rfl
   | cons x l=>obtain ⟨_,_,_,h,_⟩:=Y3 0 x rfl;cases h
  subst this
  simp only [Option.isNone_none]
  simp (disch:=try exact DI) only [↓PR,QR,simprocAttr]
  exact ⟨Yk.nil _ _ _ _ _,ee⟩
 | some a=>
  simp only [Option.isNone_some]
  simp (disch:=try exact DI) only [↓PR,QR,simprocAttr]
  have hO:=Yk.new w0 48 15 (Subtype.val:Cs 15→List Vl) [] (λ x=>x.2) (by simp)
  simp only [List.flatMap_nil,List.length_nil] at hO
  have eW:Ext w0 (w0.alloc (.cells #[] 48)):=ee
  have VF:w0.heap.size≤(w0.alloc (.cells #[] 48)).heap.size:=eW.size
  generalize w0.alloc (.cells #[] 48)=W at hO eW VF ⊢
  cases hcs:css with
  | nil=>
   subst hcs
   simp only [List.length_nil]
   rw [KZ underlying22 V2 _ _ _ _ _ (Nat.le_refl 0)]
   simp (disch:=try exact DI) only [↓PR,QR,simprocAttr]
   exact ⟨hO,eW⟩
  | cons x0 l0=>
   obtain ⟨b,o,_,hA,_⟩:=Y3 0 x0 (by rw [hcs];rfl)
   injection hA with hA
   subst hA
   rw [← hcs]
   refine QT underlying22 V2 rfl (by decide) (λ x=>x.2) h1 hO (λ j x hx=>?_) VF ?_ (by simp;omega) ?_
   · obtain ⟨b',o',cs,hA',hl',hE,rfl⟩:=Y3 j x hx
     injection hA' with hA'
     injection hA' with h3 h4
     subst h3 h4
     exact hE.ext eW
   · have:=Zgy
     rw [List.length_nil,Nat.zero_add]
     exact Nat.le_trans (Nat.mul_le_mul hb this) (by decide)
   · intro v' w' ho hg
     simp (disch:=try exact DI) only [↓PR,QR,simprocAttr]
     refine ⟨ho,eW.grown hg ?_⟩
     intro k hk
     have h:=hO.lt k hk
     exact h.1
theorem zK (w0:Wd) (v:Vl) (css:List (Cs 2)) (hs:Zd w0 2 (λ _ cs x=>cs=x.1) v css) (h1:∀ x∈css,∀ u∈x.1,u.oneCell'=true) (hb:css.length≤1048576) :
 Ret Pg 58 #[v] w0 λ r w'=>Yk w' w0.heap.size 24 2 Subtype.val r css∧Ext w0 w':=by
 obtain ⟨A,c,rfl,hlc,hcm,hlm,Y3⟩:=Zd.open hs
 refine Zd9 (R:=ZO _) ?_;unfold Zd8
 simp (disch:=try exact DI) only [↓PR,QR,simprocAttr]
 cases A with
 | none=>
  have:css=[]:=by
   cases css with
   | nil=>rfl
   | cons x l=>obtain ⟨_,_,_,h,_⟩:=Y3 0 x rfl;cases h
  subst this
  simp only [Option.isNone_none]
  simp (disch:=try exact DI) only [↓PR,QR,simprocAttr]
  exact ⟨Yk.nil _ _ _ _ _,ee⟩
 | some a=>
  simp only [Option.isNone_some]
  simp (disch:=try exact DI) only [↓PR,QR,simprocAttr]
  have hO:=Yk.new w0 24 2 (Subtype.val:Cs 2→List Vl) [] (λ x=>x.2) (by simp)
  simp only [List.flatMap_nil,List.length_nil] at hO
  have eW:Ext w0 (w0.alloc (.cells #[] 24)):=ee
  have VF:w0.heap.size≤(w0.alloc (.cells #[] 24)).heap.size:=eW.size
  generalize w0.alloc (.cells #[] 24)=W at hO eW VF ⊢
  cases hcs:css with
  | nil=>
   subst hcs
   simp only [List.length_nil]
   rw [KZ underlying26 Ki _ _ _ _ _ (Nat.le_refl 0)]
   simp (disch:=try exact DI) only [↓PR,QR,simprocAttr]
   exact ⟨hO,eW⟩
  | cons x0 l0=>
   obtain ⟨b,o,_,hA,_⟩:=Y3 0 x0 (by rw [hcs];rfl)
   injection hA with hA
   subst hA
   rw [← hcs]
   refine QT underlying26 Ki rfl (by decide) (λ x=>x.2) h1 hO (λ j x hx=>?_) VF ?_ (by simp;omega) ?_
   · obtain ⟨b',o',cs,hA',hl',hE,rfl⟩:=Y3 j x hx
     injection hA' with hA'
     injection hA' with h3 h4
     subst h3 h4
     exact hE.ext eW
   · have:=Zgx
     rw [List.length_nil,Nat.zero_add]
     exact Nat.le_trans (Nat.mul_le_mul hb this) (by decide)
   · intro v' w' ho hg
     simp (disch:=try exact DI) only [↓PR,QR,simprocAttr]
     refine ⟨ho,eW.grown hg ?_⟩
     intro k hk
     have h:=hO.lt k hk
     exact h.1
abbrev TT:TypeId:=62
abbrev TC:TypeId:=60
abbrev TF:TypeId:=48
abbrev TM:TypeId:=24
def QD (w:Wd) (lo hi:Nat) (cs:List Vl) (f:Zl):Prop:=∃ tv cv,cs=Zm f tv cv∧UH w lo hi TT 2 (λ t:Z3=>Ve t) tv f.terms∧UH w lo hi TC 3 (λ c:W6=>W8 c) cv f.cases
def We (w:Wd) (lo hi:Nat) (v:Vl) (l:List Zl):Prop:=∃ css:List (Cs 15),UH w lo hi TF 15 Subtype.val v css∧Kk 15 (QD w lo hi) css l
def VH (w:Wd) (lo hi:Nat) (cs:List Vl) (m:ZC):Prop:=∃ fv,cs=Z8 m fv∧We w lo hi fv m.fields
def zR (w:Wd) (lo hi:Nat) (v:Vl) (l:List ZC):Prop:=∃ css:List (Cs 2),UH w lo hi TM 2 Subtype.val v css∧Kk 2 (VH w lo hi) css l
def Zgn (w:Wd) (lo hi:Nat) (v:Vl) (d:YQ):Prop:=∃ mv,v = .agg (Zz d mv).toArray∧zR w lo hi mv d.msgs
section
variable {w w':Wd} {lo hi lo' hi':Nat}
theorem QD.ext {cs:List Vl} {f:Zl} (h:QD w lo hi cs f) (e:Ext w w'):QD w' lo hi cs f:=by obtain ⟨tv,cv,h1,h2,h3⟩:=h;exact ⟨tv,cv,h1,h2.ext e,h3.ext e⟩
theorem We.ext {v:Vl} {l:List Zl} (h:We w lo hi v l) (e:Ext w w'):We w' lo hi v l:=by obtain ⟨css,h1,h2⟩:=h;exact ⟨css,h1.ext e,h2.imp λ _ _ h=>h.ext e⟩
theorem VH.ext {cs:List Vl} {m:ZC} (h:VH w lo hi cs m) (e:Ext w w'):VH w' lo hi cs m:=by obtain ⟨fv,h1,h2⟩:=h;exact ⟨fv,h1,h2.ext e⟩
theorem zR.ext {v:Vl} {l:List ZC} (h:zR w lo hi v l) (e:Ext w w'):zR w' lo hi v l:=by obtain ⟨css,h1,h2⟩:=h;exact ⟨css,h1.ext e,h2.imp λ _ _ h=>h.ext e⟩
theorem QD.mono {cs:List Vl} {f:Zl} (h:QD w lo hi cs f) (h1:lo'≤lo) (h2:hi≤hi'):QD w lo' hi' cs f:=by obtain ⟨tv,cv,a,b,c⟩:=h;exact ⟨tv,cv,a,b.mono h1 h2,c.mono h1 h2⟩
theorem We.mono {v:Vl} {l:List Zl} (h:We w lo hi v l) (h1:lo'≤lo) (h2:hi≤hi'):We w lo' hi' v l:=by obtain ⟨css,a,b⟩:=h;exact ⟨css,a.mono h1 h2,b.imp λ _ _ h=>h.mono h1 h2⟩
theorem VH.mono {cs:List Vl} {m:ZC} (h:VH w lo hi cs m) (h1:lo'≤lo) (h2:hi≤hi'):VH w lo' hi' cs m:=by obtain ⟨fv,a,b⟩:=h;exact ⟨fv,a,b.mono h1 h2⟩
def Vh (w:Wd) (lo hi b:Nat) (Ts:List TypeId):Prop:=hi≤b∨b < lo∨∃ T',WR w b T'∧∀ T∈Ts,T'≠T
theorem Vh.one {b:Nat} {Ts:List TypeId} (h:Vh w lo hi b Ts) {T:TypeId} (hT:T∈Ts):hi≤b∨b < lo∨∃ T',WR w b T'∧T'≠T:=by
 rcases h with h | h | ⟨T',h1,h2⟩
 · exact .inl h
 · exact .inr (.inl h)
 · exact .inr (.inr ⟨T',h1,h2 T hT⟩)
theorem Vh.sub {b:Nat} {Ts Ts':List TypeId} (h:Vh w lo hi b Ts) (hs:∀ T∈Ts',T∈Ts):Vh w lo hi b Ts':=by
 rcases h with h | h | ⟨T',h1,h2⟩
 · exact .inl h
 · exact .inr (.inl h)
 · exact .inr (.inr ⟨T',h1,λ T hT=>h2 T (hs T hT)⟩)
theorem QD.only {b:Nat} {cs:List Vl} {f:Zl} (h:QD w lo hi cs f) (ho:YY b w w') (hb:Vh w lo hi b [TT,TC]):QD w' lo hi cs f:=by
 obtain ⟨tv,cv,h1,h2,h3⟩:=h
 exact ⟨tv,cv,h1,h2.only ho (hb.one (by simp)),h3.only ho (hb.one (by simp))⟩
theorem We.only {b:Nat} {v:Vl} {l:List Zl} (h:We w lo hi v l) (ho:YY b w w') (hb:Vh w lo hi b [TT,TC,TF]):We w' lo hi v l:=by
 obtain ⟨css,h1,h2⟩:=h
 exact ⟨css,h1.only ho (hb.one (by simp)),h2.imp λ _ _ h=>h.only ho (hb.sub (by simp))⟩
theorem VH.only {b:Nat} {cs:List Vl} {m:ZC} (h:VH w lo hi cs m) (ho:YY b w w') (hb:Vh w lo hi b [TT,TC,TF]):VH w' lo hi cs m:=by
 obtain ⟨fv,h1,h2⟩:=h;exact ⟨fv,h1,h2.only ho hb⟩
theorem QD.plain {cs:List Vl} {f:Zl} (h:QD w lo hi cs f):Up w cs f:=by
 obtain ⟨tv,cv,h1,h2,h3⟩:=h
 exact ⟨tv,cv,h1,h2.1.slice (λ _=>rfl) (λ _ _=>rfl),h3.1.slice (λ _=>rfl) (λ _ _=>rfl)⟩
theorem We.plain {v:Vl} {l:List Zl} (h:We w lo hi v l):Yq w v l:=by
 obtain ⟨css,h1,h2⟩:=h;exact h1.1.reads (h2.imp λ _ _ h=>h.plain)
theorem VH.plain {cs:List Vl} {m:ZC} (h:VH w lo hi cs m):GW w cs m:=by
 obtain ⟨fv,h1,h2⟩:=h;exact ⟨fv,h1,h2.plain⟩
theorem zR.plain {v:Vl} {l:List ZC} (h:zR w lo hi v l):Vi w v l:=by
 obtain ⟨css,h1,h2⟩:=h;exact h1.1.reads (h2.imp λ _ _ h=>h.plain)
end
def Zgg (f:Zl):Prop:=f.terms.length≤1048576∧f.cases.length≤1048576
def Zgh (m:ZC):Prop:=m.fields.length≤1048576∧∀ f∈m.fields,Zgg f
def Zcq (d:YQ):Prop:=d.msgs.length≤1048576∧∀ m∈d.msgs,Zgh m
theorem GW.one {w:Wd} {cs:List Vl} {m:ZC} (h:GW w cs m):∀ u∈cs,u.oneCell'=true:=by
 obtain ⟨fv,rfl,h1⟩:=h
 have:=h1.oneCell
 intro u hu
 simp only [List.mem_cons,List.not_mem_nil,or_false] at hu
 rcases hu with rfl | rfl
 · rfl
 · exact this
theorem Up.one {w:Wd} {cs:List Vl} {f:Zl} (h:Up w cs f):∀ u∈cs,u.oneCell'=true:=by
 obtain ⟨tv,cv,rfl,h1,h2⟩:=h
 have h1:=h1.oneCell
 have h2:=h2.oneCell
 intro u hu
 simp only [List.mem_cons,List.not_mem_nil,or_false] at hu
 rcases hu with rfl | rfl | rfl | rfl | rfl | rfl | rfl | rfl | rfl | rfl | rfl | rfl | rfl | rfl | rfl<;>first | rfl | assumption
theorem zN.one {w:Wd} {cs:List Vl} {t:Z3} (h:zN w cs t):∀ u∈cs,u.oneCell'=true:=by
 obtain rfl:=h
 intro u hu
 simp only [List.mem_cons,List.not_mem_nil,or_false] at hu
 rcases hu with rfl | rfl<;>rfl
theorem jO.one {w:Wd} {cs:List Vl} {t:W6} (h:jO w cs t):∀ u∈cs,u.oneCell'=true:=by
 obtain rfl:=h
 intro u hu
 simp only [List.mem_cons,List.not_mem_nil,or_false] at hu
 rcases hu with rfl | rfl | rfl<;>rfl
def Ty (cs:List Vl):Option Nat:=(cs[1]?).bind Value.ownBlock
def Ho (css:List (Cs 2)) (k:Nat):Prop:=∀ (i j:Nat) (ci cj:Cs 2) (a b:Nat),i < j→j < k→css[i]?=some ci→css[j]?=some cj→Ty ci.1=some a→Ty cj.1=some b→a < b
def Jf (w:Wd) (lo hi:Nat) (v:Vl) (l:List ZC):Prop:=∃ css:List (Cs 2),UH w lo hi TM 2 Subtype.val v css∧Kk 2 (VH w lo hi) css l∧Ho css css.length
theorem Jf.toN {w:Wd} {lo hi:Nat} {v:Vl} {l:List ZC} (h:Jf w lo hi v l):zR w lo hi v l:=by obtain ⟨css,h1,h2,_⟩:=h;exact ⟨css,h1,h2⟩
theorem Jf.mono {w:Wd} {lo hi lo' hi':Nat} {v:Vl} {l:List ZC} (h:Jf w lo hi v l) (h1:lo'≤lo) (h2:hi≤hi'):Jf w lo' hi' v l:=by obtain ⟨css,a,b,c⟩:=h;exact ⟨css,a.mono h1 h2,b.imp λ _ _ h=>h.mono h1 h2,c⟩
theorem Jf.only {w w':Wd} {lo hi b:Nat} {v:Vl} {l:List ZC} (h:Jf w lo hi v l) (ho:YY b w w') (hb:Vh w lo hi b [TT,TC,TF,TM]):Jf w' lo hi v l:=by
 obtain ⟨css,h1,h2,h3⟩:=h
 exact ⟨css,h1.only ho (hb.one (by simp)),h2.imp λ _ _ h=>h.only ho (hb.sub (by simp)),h3⟩
theorem Mo (w0:Wd) (v:Vl) (d:YQ) (hd:YT w0 v d) (ht:Zcq d) :
 Ret Pg 28 #[v] w0 λ r w'=>(∃ mv,r = .agg (Zz d mv).toArray∧Jf w' w0.heap.size w'.heap.size mv d.msgs)∧Ext w0 w':=by
 obtain ⟨mv,rfl,hM⟩:=hd
 refine Zix (R:=ZO _) ?_;unfold n52
 simp (disch:=try exact DI) only [↓PR,QR,simprocAttr]
 obtain ⟨cssM,hraw,hmates⟩:=Zd.raw hM
 generalize hW:(World.alloc (World.alloc w0 _) _)=W
 have eW:Ext w0 W:=by rw [← hW];exact ee
 have VF:W.heap.size=w0.heap.size+1+1:=by rw [← hW];simp only [World.size_alloc]
 have hX:W.heap[w0.heap.size]?=some (.cells #[.string d.name,mv,.string d.start] 28 (0,0)):=by
  rw [← hW];exact ((Ext.refl _).alloc _).obj (ZG w0 _ _)
 have hR:W.heap[w0.heap.size+1]?=some (.cells #[.string ByteArray.empty,.slice none 0 0,.string ByteArray.empty] 28 (0,0)):=by
  rw [← hW]
  have:=ZG (w0.alloc (Obj.cells (Zz d mv).toArray 28)) #[.string ByteArray.empty,.slice none 0 0,.string ByteArray.empty] 28
  rw [World.size_alloc] at this
  exact this
 clear hW
 refine Zs (zK W mv cssM (hraw.ext KK eW) (λ x hx=>by obtain ⟨m,_,hm⟩:=hmates.mem hx;exact hm.one) (by rw [hmates.1];exact ht.1)) ?_
 rintro t9 w1 ⟨hO,e1⟩
 obtain ⟨A,c,rfl,hlc,hcm,hlm,Y3⟩:=Zd.open (hO.slice (E:=λ _ cs x=>cs=x.1) (λ x=>x.2) (λ _ _=>rfl))
 clear Y3
 have s1:=e1.size
 have hX1:=e1.obj hX
 have hX2:(w1.setCell ⟨w0.heap.size,1,none⟩ (.slice A cssM.length c)).heap[w0.heap.size]?=some (.cells #[.string d.name,.slice A cssM.length c,.string d.start] 28 (0,0)):=by
  have:=ZE (o:=1) hX1 (.slice A cssM.length c)
  simpa using this
 have hR2:(w1.setCell ⟨w0.heap.size,1,none⟩ (.slice A cssM.length c)).heap[w0.heap.size+1]?=some (.cells #[.string ByteArray.empty,.slice none 0 0,.string ByteArray.empty] 28 (0,0)):=by
  rw [YY.setCell w1 w0.heap.size 1 _ _ (by omega)];exact e1.obj hR
 have hO2:Yk (w1.setCell ⟨w0.heap.size,1,none⟩ (.slice A cssM.length c)) W.heap.size TM 2 Subtype.val (.slice A cssM.length c) cssM:=(hO.range.only (YY.setCell w1 w0.heap.size 1 _) (.inr (.inl (by omega)))).1
 have e02:Ext w0 (w1.setCell ⟨w0.heap.size,1,none⟩ (.slice A cssM.length c)):=(eW.trans e1).setCell (Nat.le_refl _) _
 simp (disch:=try exact DI) only [↓PR,QR,simprocAttr,↓GG,↓GH,↓GI,↓GJ,↓GK,↓GL,↓GM,↓GN,↓GO,(Za hX1).1,(Za hX1).2]
 generalize (World.setCell w1 ⟨w0.heap.size,1,none⟩ (.slice A cssM.length c))=w2 at hX2 hR2 hO2 e02 ⊢
 simp only [hmates.1] at *
 refine ZF (λ a0 w=>∃ (k:Nat) , a0 = .int .i64 (k:Int)∧k≤d.msgs.length∧Ext w0 w∧(∃ css:List (Cs 2),Yk w W.heap.size TM 2 Subtype.val (.slice A d.msgs.length c) css∧css.length=d.msgs.length∧(∀ (i:Nat) (m:ZC) (cs:Cs 2),d.msgs[i]?=some m→css[i]?=some cs→if i < k then VH w W.heap.size w.heap.size cs.1 m else GW w0 cs.1 m)∧Below W.heap.size w2 w∧Ho css k)) (λ a0 _=>d.msgs.length - (intOf a0).toNat) ⟨0,rfl,Nat.zero_le _,ee,⟨cssM,hO2,hmates.1,λ i m cs hm hcs=>hmates.2 i m cs hm hcs,Below.refl _ _,λ _ _ _ _ _ _ _ hj=>absurd hj (Nat.not_lt_zero _)⟩⟩ ?_
 rintro _ w ⟨k,rfl,hk,e,hI⟩
 have se:=e.size
 rcases ZD hk with ⟨x,hx,hd,Yv,ZJ⟩ | ⟨hk,hd,ZJ⟩
 · obtain ⟨css,hOc,Xl,hE,hBel,hAp⟩:=hI
   obtain ⟨cs,hcs⟩:=getElem?_lt (l:=css) (k:=k) (by omega)
   have hEk:=hE k x cs hx hcs
   rw [if_neg (by omega)] at hEk
   obtain ⟨fv,hfv,hF⟩:=hEk
   obtain ⟨g,cap,hv,hglo,hglt,hTy,hfrz,hEl⟩:=hOc.row (λ x=>x.2) (by omega)
   injection hv with hv hv' hv''
   subst hv hv''
   have hEk:=hEl k cs hcs
   rw [hfv] at hEk
   have er:=Ext.refl w
   have hXw:w.heap[w0.heap.size]?=some (.cells #[.string d.name,.slice (some ⟨g,0,none⟩) d.msgs.length c,.string d.start] 28 (0,0)):=(hBel.block _ (by omega)).trans hX2
   simp (disch:=try exact DI) only [↓PR,QR,simprocAttr,↓GG,↓GH,↓GI,↓GJ,↓GK,↓GL,↓GM,↓GN,↓GO,(Za hXw).1,ZJ,hEk.c2]
   obtain ⟨cssF,hrawF,hmatesF⟩:=Zd.raw hF
   have htx:=ht.2 x (List.mem_of_getElem? hx)
   refine Zs (jv w fv cssF (hrawF.ext KK e) (λ y hy=>by obtain ⟨m,_,hm⟩:=hmatesF.mem hy;exact hm.one) (by rw [hmatesF.1];exact htx.1)) ?_
   rintro t26 w3 ⟨hOF,e3⟩
   obtain ⟨AF,cF,rfl,hlcF,hcmF,hlmF,helF⟩:=Zd.open (hOF.slice (E:=λ _ cs x=>cs=x.1) (λ x=>x.2) (λ _ _=>rfl))
   clear helF
   have s3:=e3.size
   have hO3:=hOc.ext e3
   have hcsl:k < css.length:=(List.getElem?_eq_some_iff.1 hcs).1
   simp only [hv'] at hO3
   have hO4:=hO3.set hcs (show 1 < 2 by decide) (.slice AF cssF.length cF)
   simp only [← hv'] at hO4
   have oG:=YY.setCell w3 g (k*2+1) (.slice AF cssF.length cF)
   have hF4:=(hOF.range.only oG (.inr (.inr ⟨TM,hTy.ext e3,by decide⟩))).1
   have e4:Ext w0 (w3.setCell ⟨g,k*2+1,none⟩ (.slice AF cssF.length cF)):=(e.trans e3).setCell (show w0.heap.size≤g by omega) _
   have hBel4:Below W.heap.size w2 (w3.setCell ⟨g,k*2+1,none⟩ (.slice AF cssF.length cF)):=(hBel.trans (e3.below.mono (by omega))).setCell hglo _
   have hTy4:WR (w3.setCell ⟨g,k*2+1,none⟩ (.slice AF cssF.length cF)) g TM:=by
    obtain ⟨cur,fr,h⟩:=hTy.ext e3
    exact ⟨_,fr,ZE h _⟩
   have hprev:∀ (i:Nat) (m:ZC) (cs:Cs 2),i≠k→d.msgs[i]?=some m→css[i]?=some cs→if i < k then VH (w3.setCell ⟨g,k*2+1,none⟩ (.slice AF cssF.length cF)) W.heap.size w.heap.size cs.1 m else GW w0 cs.1 m:=by
    intro i m cs' hik hm hcs'
    have h:=hE i m cs' hm hcs'
    by_cases hlt':i < k
    · rw [if_pos hlt'] at h ⊢
      exact (h.ext e3).only oG (.inr (.inr ⟨TM,hTy.ext e3,by decide⟩))
    · rw [if_neg hlt'] at h ⊢;exact h
   have hfrz3:∀ o,w3.frozen? ⟨g,o,none⟩=false:=λ o=>by rw [e3.frozenQ hglt];exact hfrz o
   simp (disch:=try exact DI) only [↓PR,QR,simprocAttr,↓GG,↓GH,↓GI,↓GJ,↓GK,↓GL,↓GM,↓GN,↓GO,hEk.c2,hfrz3]
   have hsz4:w.heap.size≤(w3.setCell ⟨g,k*2+1,none⟩ (.slice AF cssF.length cF)).heap.size:=by simpa using s3
   generalize (World.setCell w3 ⟨g,k*2+1,none⟩ (.slice AF cssF.length cF))=w4 at hO4 hF4 e4 hBel4 hTy4 hprev hsz4 ⊢
   simp only [hmatesF.1] at *
   refine ZF (λ a0 wa=>∃ (ka:Nat) , a0 = .int .i64 (ka:Int)∧ka≤x.fields.length∧Ext w0 wa∧(∃ cF':List (Cs 15),Yk wa w.heap.size TF 15 Subtype.val (.slice AF x.fields.length cF) cF'∧cF'.length=x.fields.length∧(∀ (i:Nat) (f:Zl) (cs:Cs 15),x.fields[i]?=some f→cF'[i]?=some cs→if i < ka then QD wa W.heap.size wa.heap.size cs.1 f else Up w0 cs.1 f)∧Yk wa W.heap.size TM 2 Subtype.val (.slice (some ⟨g,0,none⟩) d.msgs.length c) (css.set k ⟨cs.1.set 1 (.slice AF x.fields.length cF),by simp [cs.2]⟩)∧(∀ (i:Nat) (m:ZC) (cs:Cs 2),i≠k→d.msgs[i]?=some m→css[i]?=some cs→if i < k then VH wa W.heap.size w.heap.size cs.1 m else GW w0 cs.1 m)∧Below W.heap.size w2 wa∧WR wa g TM∧w.heap.size≤wa.heap.size)) (λ a0 _=>x.fields.length - (intOf a0).toNat) ⟨0,rfl,Nat.zero_le _,ee,⟨cssF,hF4,hmatesF.1,λ i m cs hm hcs=>hmatesF.2 i m cs hm hcs,hO4,hprev,hBel4,hTy4,hsz4⟩⟩ ?_
   rintro _ wa ⟨ka,rfl,hka,ea,hIa⟩
   have sea:=ea.size
   rcases ZD hka with ⟨xa,hxa,hda,hlta,Ao⟩ | ⟨hka,hda,Ao⟩
   · obtain ⟨cF',h1,h2,h3,h4,h5,h6,h7,h8⟩:=hIa
     obtain ⟨cf,hcf⟩:=getElem?_lt (l:=cF') (k:=ka) (by omega)
     have hEf:=h3 ka xa cf hxa hcf
     rw [if_neg (by omega)] at hEf
     obtain ⟨tv,cv,hcfv,hT,hC⟩:=hEf
     obtain ⟨gF,capF,hvF,hgFlo,hgFlt,hTyF,hfrzF,hElF⟩:=h1.row (λ x=>x.2) (by omega)
     injection hvF with hvF hvF' hvF''
     subst hvF hvF''
     have hEfk:=hElF ka cf hcf
     rw [hcfv] at hEfk
     have era:=Ext.refl wa
     obtain ⟨g',cap',hv2,_,hgltA,_,_,hElM⟩:=h4.row (λ x=>x.2) (by simp;omega)
     injection hv2 with hv2 hv2' hv2''
     injection hv2 with hv2
     injection hv2 with hv2
     subst hv2
     have hEm:=hElM k _ (List.getElem?_set_self hcsl)
     simp only [hfv,List.set_cons_succ,List.set_cons_zero] at hEm
     simp (disch:=try exact DI) only [↓PR,QR,simprocAttr,↓GG,↓GH,↓GI,↓GJ,↓GK,↓GL,↓GM,↓GN,↓GO,Ao,hEm.c2,hEfk.c15]
     refine Zy ?_
     simp (disch:=try exact DI) only [↓PR,QR,simprocAttr,↓GG,↓GH,↓GI,↓GJ,↓GK,↓GL,↓GM,↓GN,↓GO,hEfk.c15]
     obtain ⟨cssT,hrawT,hmatesT⟩:=Zd.raw hT
     obtain ⟨cssC,hrawC,hmatesC⟩:=Zd.raw hC
     have htf:=htx.2 xa (List.mem_of_getElem? hxa)
     refine Zs (Jr wa.drew tv cssT (hrawT.ext KK ea.wdrew) (λ y hy=>by obtain ⟨m,_,hm⟩:=hmatesT.mem hy;exact hm.one) (by rw [hmatesT.1];exact htf.1)) ?_
     rintro t50 w5 ⟨hOT,e5⟩
     refine ⟨e5,?_⟩
     refine Zs (jN w5 cv cssC (hrawC.ext KK (ea.wdrew.trans e5)) (λ y hy=>by obtain ⟨m,_,hm⟩:=hmatesC.mem hy;exact hm.one) (by rw [hmatesC.1];exact htf.2)) ?_
     rintro t55 w6 ⟨hOC,e6⟩
     refine ⟨e5.trans e6,?_⟩
     have s5:=e5.size
     have s6:=e6.size
     simp only [World.size_drew] at s5
     have eA6:Ext wa w6:=era.wdrew.trans (e5.trans e6)
     have hTy6:=hTyF.ext eA6
     have hfrz6:∀ o,w6.frozen? ⟨gF,o,none⟩=false:=λ o=>by rw [eA6.frozenQ hgFlt];exact hfrzF o
     obtain ⟨AT,cT,rfl,_⟩:=Zd.open (hOT.slice (E:=λ _ cs x=>cs=x.1) (λ x=>x.2) (λ _ _=>rfl))
     obtain ⟨AC,cC,rfl,_⟩:=Zd.open (hOC.slice (E:=λ _ cs x=>cs=x.1) (λ x=>x.2) (λ _ _=>rfl))
     simp (disch:=try exact DI) only [↓PR,QR,simprocAttr,↓GG,↓GH,↓GI,↓GJ,↓GK,↓GL,↓GM,↓GN,↓GO,hEfk.c15,hfrz6]
     obtain ⟨w7,hw7⟩:∃ w7,w6.setCell ⟨gF,ka*15+8,none⟩ (.slice AT cssT.length cT)=w7:=⟨_,rfl⟩
     have o7:YY gF w6 w7:=by rw [← hw7];exact YY.setCell _ _ _ _
     have hE7:∀ j,w7.frozen? ⟨gF,j,none⟩=false:=λ j=>by rw [← hw7,G6];exact hfrz6 j
     have hc7:w7.cell? ⟨gF,ka*15+12,none⟩=some cv:=by
      rw [← hw7,Qs (by omega)];exact eA6.cell (hEfk.c15 era).2.2.2.2.2.2.2.2.2.2.2.2.1
     have hTy7:WR w7 gF TF:=by
      obtain ⟨cur,fr,h⟩:=hTy6
      exact ⟨_,fr,by rw [← hw7];exact ZE h _⟩
     have s7:w7.heap.size=w6.heap.size:=by rw [← hw7];simp
     have h16:=h1.ext eA6
     have hcfl:ka < cF'.length:=(List.getElem?_eq_some_iff.1 hcf).1
     simp only [hvF'] at h16
     have hF7:=h16.set hcf (show 8 < 15 by decide) (.slice AT cssT.length cT)
     rw [hw7] at hF7
     have e07:Ext w0 w7:=by rw [← hw7];exact (ea.trans eA6).setCell (show w0.heap.size≤gF by omega) _
     have hB7:Below W.heap.size w2 w7:=by rw [← hw7];exact (h6.trans (eA6.below.mono (by omega))).setCell (show W.heap.size≤gF by omega) _
     rw [hw7]
     refine Yb ?_
     simp (disch:=try exact DI) only [↓PR,QR,simprocAttr,↓GG,↓GH,↓GI,↓GJ,↓GK,↓GL,↓GM,↓GN,↓GO,hc7,hE7]
     obtain ⟨w8,hw8⟩:∃ w8,w7.setCell ⟨gF,ka*15+12,none⟩ (.slice AC cssC.length cC)=w8:=⟨_,rfl⟩
     have o8:YY gF w7 w8:=by rw [← hw8];exact YY.setCell _ _ _ _
     have hF8:=hF7.set (List.getElem?_set_self hcfl) (show 12 < 15 by decide) (.slice AC cssC.length cC)
     rw [hw8] at hF8
     have s8:w8.heap.size=w7.heap.size:=by rw [← hw8];simp
     have hTy8:WR w8 g TM:=((h7.ext eA6).only o7 (by rintro rfl;obtain ⟨_,_,a⟩:=h7;obtain ⟨_,_,b⟩:=hTyF;rw [a] at b;injection b with b;injection b with _ b _;exact absurd b (by decide))).only o8 (by rintro rfl;obtain ⟨_,_,a⟩:=h7;obtain ⟨_,_,b⟩:=hTyF;rw [a] at b;injection b with b;injection b with _ b _;exact absurd b (by decide))
     have e08:Ext w0 w8:=by rw [← hw8];exact e07.setCell (show w0.heap.size≤gF by omega) _
     have hB8:Below W.heap.size w2 w8:=by rw [← hw8];exact hB7.setCell (show W.heap.size≤gF by omega) _
     have hM8:=((((h4.ext eA6).range.only o7 (.inr (.inr ⟨TF,hTy6,by decide⟩))).1).range.only o8 (.inr (.inr ⟨TF,hTy7,by decide⟩))).1
     have hT8:UH w8 W.heap.size w8.heap.size TT 2 (λ t:Z3=>Ve t) (.slice AT cssT.length cT) xa.terms:=by
      have h:=(((hOT.ext e6).range.only o7 (.inr (.inr ⟨TF,hTy6,by decide⟩))).only o8 (.inr (.inr ⟨TF,hTy7,by decide⟩)))
      refine ⟨(Yk.mates h.1 (hmatesT.imp λ _ _ h=>h)).base (by simp only [World.size_drew];omega),λ b hb=>?_⟩
      have:=h.2 b hb
      omega
     have hC8:UH w8 W.heap.size w8.heap.size TC 3 (λ c:W6=>W8 c) (.slice AC cssC.length cC) xa.cases:=by
      have h:=((hOC.range.only o7 (.inr (.inr ⟨TF,hTy6,by decide⟩))).only o8 (.inr (.inr ⟨TF,hTy7,by decide⟩)))
      refine ⟨(Yk.mates h.1 (hmatesC.imp λ _ _ h=>h)).base (by omega),λ b hb=>?_⟩
      have:=h.2 b hb
      omega
     rw [hw8]
     refine Yb ?_
     simp (disch:=try exact DI) only [↓PR,QR,simprocAttr]
     have hf8:∀ (i:Nat) (f:Zl) (cs'':Cs 15),xa.name=xa.name→x.fields[i]?=some f→((cF'.set ka ⟨cf.1.set 8 (.slice AT cssT.length cT),by simp [cf.2]⟩).set ka ⟨(cf.1.set 8 (.slice AT cssT.length cT)).set 12 (.slice AC cssC.length cC),by simp [cf.2]⟩)[i]?=some cs''→if i < ka+1 then QD w8 W.heap.size w8.heap.size cs''.1 f else Up w0 cs''.1 f:=by
      intro i f cs'' _ hf hcs''
      by_cases hik:i=ka
      · subst hik
        rw [if_pos (by omega)]
        rw [List.getElem?_set_self (by simp;omega)] at hcs''
        injection hcs'' with hcs''
        subst hcs''
        rw [hxa] at hf
        injection hf with hf
        subst hf
        exact ⟨_,_,by show (cf.1.set 8 _).set 12 _=_;rw [hcfv];rfl,hT8,hC8⟩
      · rw [List.getElem?_set_ne (Ne.symm hik),List.getElem?_set_ne (Ne.symm hik)] at hcs''
        have h:=h3 i f cs'' hf hcs''
        by_cases hlt':i < ka
        · rw [if_pos hlt'] at h
          rw [if_pos (by omega)]
          exact (((h.ext eA6).only o7 (.inr (.inr ⟨TF,hTy6,by decide⟩))).only o8 (.inr (.inr ⟨TF,hTy7,by decide⟩))).mono (Nat.le_refl _) (by omega)
        · rw [if_neg hlt'] at h
          rw [if_neg (by omega)]
          exact h
     have hm8:∀ (i:Nat) (m:ZC) (cs:Cs 2),i≠k→d.msgs[i]?=some m→css[i]?=some cs→if i < k then VH w8 W.heap.size w.heap.size cs.1 m else GW w0 cs.1 m:=by
      intro i m cs' hik hm hcs'
      have h:=h5 i m cs' hik hm hcs'
      by_cases hlt':i < k
      · rw [if_pos hlt'] at h ⊢
        exact (((h.ext eA6).only o7 (.inl hgFlo)).only o8 (.inl hgFlo))
      · rw [if_neg hlt'] at h ⊢;exact h
     simp only [← hvF'] at hF8
     exact ⟨⟨ka+1,rfl,by omega,ee,⟨_,hF8,by simp [h2],λ i f cs'' hf hc=>hf8 i f cs'' rfl hf hc,hM8,hm8,hB8,hTy8,by omega⟩⟩,ZM (kd := .i64) hlta⟩
   · subst hka
     obtain ⟨cF',h1,h2,h3,h4,h5,h6,h7,h8⟩:=hIa
     simp (disch:=try exact DI) only [↓PR,QR,simprocAttr,↓GG,↓GH,↓GI,↓GJ,↓GK,↓GL,↓GM,↓GN,↓GO,Ao]
     have hfin:∀ (i:Nat) (m:ZC) (cs':Cs 2),d.msgs[i]?=some m→(css.set k ⟨cs.1.set 1 (.slice AF x.fields.length cF),by simp [cs.2]⟩)[i]?=some cs'→if i < k+1 then VH wa W.heap.size wa.heap.size cs'.1 m else GW w0 cs'.1 m:=by
      intro i m cs' hm hcs'
      by_cases hik:i=k
      · subst hik
        rw [if_pos (by omega)]
        rw [List.getElem?_set_self (by omega)] at hcs'
        injection hcs' with hcs'
        subst hcs'
        rw [hx] at hm
        injection hm with hm
        subst hm
        refine ⟨.slice AF x.fields.length cF,by show cs.1.set 1 _=_;rw [hfv];rfl,cF',⟨h1.base (by omega),h1.range.2⟩,h2,λ j f cs'' hf hcs''=>?_⟩
        have:=h3 j f cs'' hf hcs''
        rw [if_pos (List.getElem?_eq_some_iff.1 hf).1] at this
        exact this
      · rw [List.getElem?_set_ne (Ne.symm hik)] at hcs'
        have h:=h5 i m cs' hik hm hcs'
        by_cases hlt':i < k
        · rw [if_pos hlt'] at h
          rw [if_pos (by omega)]
          exact h.mono (Nat.le_refl _) h8
        · rw [if_neg hlt'] at h
          rw [if_neg (by omega)]
          exact h
     have hap:Ho (css.set k ⟨cs.1.set 1 (.slice AF x.fields.length cF),by simp [cs.2]⟩) (k+1):=by
      intro i j ci cj a b hij hjk hci hcj ha hb
      have hik:i≠k:=by omega
      rw [List.getElem?_set_ne (Ne.symm hik)] at hci
      by_cases hjk':j=k
      · subst hjk'
        rw [List.getElem?_set_self (by omega)] at hcj
        injection hcj with hcj
        subst hcj
        have hb':(Value.slice AF x.fields.length cF).ownBlock=some b:=by
         unfold Ty at hb
         simp only [hfv,List.set_cons_succ,List.set_cons_zero] at hb
         exact hb
        have h1b:=(h1.lt b hb').1
        obtain ⟨mi,hmi⟩:=getElem?_lt (l:=d.msgs) (k:=i) (by omega)
        have h:=h5 i mi ci hik hmi hci
        rw [if_pos hij] at h
        obtain ⟨fvi,hcs,_,hOi,_⟩:=h
        have:=hOi.2 a (by unfold Ty at ha;rw [hcs] at ha;exact ha)
        omega
      · rw [List.getElem?_set_ne (Ne.symm hjk')] at hcj
        exact hAp i j ci cj a b hij (by omega) hci hcj ha hb
     exact ⟨⟨k+1,rfl,by omega,ee,⟨_,h4,by simp [Xl],hfin,h6,hap⟩⟩,ZM (kd := .i64) Yv⟩
 · subst hk
   obtain ⟨css,hOc,Xl,hE,hBel,hAp⟩:=hI
   have hXw:w.heap[w0.heap.size]?=some (.cells #[.string d.name,.slice A d.msgs.length c,.string d.start] 28 (0,0)):=(hBel.block _ (by omega)).trans hX2
   have hRw:w.heap[w0.heap.size+1]?=some (.cells #[.string ByteArray.empty,.slice none 0 0,.string ByteArray.empty] 28 (0,0)):=(hBel.block _ (by omega)).trans hR2
   have hN:Jf w W.heap.size w.heap.size (.slice A d.msgs.length c) d.msgs:=by
    refine ⟨css,hOc.range,⟨Xl,λ i m cs hm hcs=>?_⟩,by rw [Xl];exact hAp⟩
    have:=hE i m cs hm hcs
    rw [if_pos (List.getElem?_eq_some_iff.1 hm).1] at this
    exact this
   have ho:∀ (w':Wd) o v,Jf w' W.heap.size w.heap.size (.slice A d.msgs.length c) d.msgs→Jf (w'.setCell ⟨w0.heap.size+1,o,none⟩ v) W.heap.size w.heap.size (.slice A d.msgs.length c) d.msgs:=λ w' o v h=>h.only (YY.setCell w' _ o v) (.inr (.inl (by omega)))
   simp (disch:=try exact DI) only [↓PR,QR,simprocAttr,↓GG,↓GH,↓GI,↓GJ,↓GK,↓GL,↓GM,↓GN,↓GO,ZJ,(Za hXw).1,(Za hRw).1,(Za hRw).2]
   refine ⟨⟨_,rfl,(ho _ _ _ (ho _ _ _ (ho _ _ _ hN))).mono (by omega) (by simp)⟩,ee⟩
theorem NI (w0:Wd) (v:Vl) (d:YQ) (hd:YT w0 v d) (ht:Zcq d) :
 Ret Pg 28 #[v] w0 λ r w'=>Zgn w' w0.heap.size w'.heap.size r d∧Ext w0 w':=
 (Mo w0 v d hd ht).mono λ _ _ ⟨⟨mv,h1,h2⟩,e⟩=>⟨⟨mv,h1,h2.toN⟩,e⟩
def XJ (l:List Zl):List (BAr×Vl):=(l.filter Y7).map λ f=>(f.name,Zv f.low (Xk f))
theorem GQ (l:List Zl) (f:Zl):XJ (l++[f])=XJ l++(if Y7 f then [(f.name,Zv f.low (Xk f))] else []):=by
 unfold XJ
 rw [List.filter_append,List.map_append]
 cases h:Y7 f<;>simp [List.filter_cons,h]
theorem Z4 {α:Type} {l:List α} {k:Nat} {x:α} (hx:l[k]?=some x):l.take (k+1)=l.take k++[x]:=by
 rw [List.take_add_one,hx];rfl
theorem UV (w0:Wd) (v:Vl) (l:List Zl) (hs:Yq w0 v l) :
 Ret Pg 224 #[v] w0 λ r w'=>∃ m,r = .map (some m)∧w0.heap.size≤m∧Yr w' m (XJ l)∧Ext w0 w':=by
 obtain ⟨A,c,rfl,hlc,hcm,hlm,Y3⟩:=Zd.open hs
 refine Zdl (R:=ZO _) ?_;unfold Zdk
 simp (disch:=try exact DI) only [↓PR,QR,simprocAttr]
 have hM0:=Yr.new w0
 have e0:Ext w0 (w0.alloc (.map #[] 0)):=ee
 refine ZF (λ a0 w=>∃ (k:Nat) , a0 = .int .i64 (k:Int)∧k≤l.length∧Ext w0 w∧Yr w w0.heap.size (XJ (l.take k))) (λ a0 _=>l.length - (intOf a0).toNat) ⟨0,rfl,Nat.zero_le _,ee,hM0⟩ ?_
 rintro _ w ⟨k,rfl,hk,e,hI⟩
 have se:=e.size
 rcases ZD hk with ⟨x,hx,hd,Yv,ZJ⟩ | ⟨hk,hd,ZJ⟩
 · obtain ⟨b,o,cs,rfl,hl,hA,hE⟩:=Y3 k x hx
   obtain ⟨tv,cv,rfl,hT,hC,ht1,hc1⟩:=hE.op
   have hlt2:=hI.lt
   simp (disch:=try exact DI) only [↓PR,QR,simprocAttr,↓xQ,↓xR,↓xS,ZJ,hA.c15]
   refine zcr (Mr _ _ x ⟨tv,cv,rfl,ZV.ext hT ee,Yc.ext hC ee⟩) λ w1 e1=>?_
   have s1:=e1.size
   try simp only [World.size_alloc,World.size_setCell,World.size_drew,World.putObj_size,Sw.putW_size] at s1
   have hI1:=(hI.ext ((Ext.refl w).alloc _)).ext e1
   have hI2:∀ o,Yr (w1.alloc o) w0.heap.size (XJ (l.take k)):=λ o=>hI1.ext ((Ext.refl w1).alloc _)
   cases hn:Y7 x with
   | false=>
    simp (disch:=try exact DI) only [↓PR,QR,simprocAttr,↓xQ,↓xR,↓xS,e1.cellQ,e1.frozenQ,Zv]
    have hf:=hI2 (.cells #[.int .i64 0,.int .i64 0] 74)
    rw [show XJ (l.take k)=XJ (l.take (k+1)) by rw [Z4 hx,GQ,hn];simp] at hf
    exact ⟨⟨k+1,rfl,by omega,ee,hf⟩,ZM (kd := .i64) Yv⟩
   | true=>
    simp (disch:=try exact DI) only [↓PR,QR,simprocAttr,↓xQ,↓xR,↓xS,e1.cellQ,e1.frozenQ,Zv]
    have hf:=hI2 (.cells #[.int .i64 x.low,.int .i64 (Xk x)] 74)
    rw [Bj underlying122 underlying9 hf]
    have hg:=hf.put x.name (Zv x.low (Xk x))
    have eg:Ext w0 (putW (w1.alloc (.cells #[.int .i64 x.low,.int .i64 (Xk x)] 74)) w0.heap.size (XJ (l.take k)) x.name (Zv x.low (Xk x))):=Ext.putW ee (Nat.le_refl _) _ _
    rw [show XJ (l.take k)++[(x.name,Zv x.low (Xk x))]=XJ (l.take (k+1)) by rw [Z4 hx,GQ,hn];simp] at hg
    simp (disch:=try exact DI) only [↓PR,QR,simprocAttr,↓xQ,↓xR,↓xS]
    exact ⟨⟨k+1,rfl,by omega,ee,hg⟩,ZM (kd := .i64) Yv⟩
 · subst hk
   simp (disch:=try exact DI) only [↓PR,QR,simprocAttr,↓xQ,↓xR,↓xS,ZJ]
   rw [List.take_length] at hI
   exact ⟨_,rfl,Nat.le_refl _,hI,e⟩
theorem Hu (w0:Wd) (v:Vl) (m:ZC) (hm:Qr w0 v m) :
 Ret Pg 221 #[v] w0 λ r w'=>∃ b,r = .map (some b)∧w0.heap.size≤b∧Yr w' b (XJ m.fields)∧Ext w0 w':=by
 obtain ⟨fv,rfl,hF⟩:=hm
 refine ZiE (R:=ZO _) ?_;unfold n60
 simp (disch:=try exact DI) only [↓PR,QR,simprocAttr,Sw.joinK_eq]
 refine Zs (UV _ _ m.fields (hF.ext ee)) ?_
 rintro _ w1 ⟨b,rfl,hb,hM,e1⟩
 simp (disch:=try exact DI) only [↓PR,QR,simprocAttr,Sw.joinK_eq]
 refine ⟨_,rfl,?_,hM,ee⟩
 simp at hb
 omega
def Wf (w:Wd) (pb:Nat) (tv:Vl) (ts:List Z3):Prop:=w.cell? ⟨pb,0,none⟩=some tv∧ZV w tv ts∧∀ A m c,tv = .slice (some A) m c→pb < A.block
theorem Wf.ext {w w':Wd} {pb:Nat} {tv:Vl} {ts:List Z3} (h:Wf w pb tv ts) (e:Ext w w'):Wf w' pb tv ts:=⟨e.cell h.1,ZV.ext h.2.1 e,h.2.2⟩
theorem Wf.set {w:Wd} {pb:Nat} {tv:Vl} {ts:List Z3} (h:Wf w pb tv ts) {b o:Nat} (hb:b < pb) (u:Vl):Wf (w.setCell ⟨b,o,none⟩ u) pb tv ts:=
 ⟨by rw [Qs (by omega)];exact h.1,Zd.setOther h.2.1 u (λ A m c e=>by have:=h.2.2 A m c e;omega) (λ _ _ h=>h),h.2.2⟩
theorem B7 (w0:Wd) (v:Vl) (base:Int) (ts:List Z3) (hs:KD w0 v base ts) (hb:ts.length≤1048576) :
 Ret Pg 225 #[v] w0 λ r w'=>∃ pb tv,r = .func (.func 237) #[] #[.pointer (some ⟨pb,0,none⟩)]∧Wf w' pb tv (if WO base ts then ts else [])∧w0.heap.size≤pb∧Ext w0 w':=by
 obtain ⟨tv,rfl,hT⟩:=hs
 have ht1:=Zd.oneCell hT
 refine ZdM (R:=ZO _) ?_;unfold ZdL
 simp (disch:=try exact DI) only [↓PR,QR,simprocAttr,↓AI]
 refine zcr (xx _ _ base ts ⟨tv,rfl,ZV.ext hT ee⟩) λ w1 e1=>?_
 have s1:=e1.size
 try simp only [World.size_alloc,World.size_setCell,World.size_drew,World.putObj_size,Sw.putW_size] at s1
 cases hv:WO base ts with
 | false=>
  simp (disch:=try exact DI) only [↓PR,QR,simprocAttr,↓AI]
  refine ⟨_,_,rfl,⟨e1.cell (by simp (disch:=try exact DI) only [↓PR,QR,simprocAttr]),Zd.nil _ _ _,λ A m c e=>by cases e⟩,by omega,ee⟩
 | true=>
  simp (disch:=try exact DI) only [↓PR,QR,simprocAttr,↓AI,e1.cellQ,e1.frozenQ]
  obtain ⟨cssT,hrawT,hmatesT⟩:=Zd.raw hT
  refine Zs (Jr _ tv cssT (hrawT.ext KK ee) (λ y hy=>by obtain ⟨m,_,hm⟩:=hmatesT.mem hy;exact hm.one) (by rw [hmatesT.1];exact hb)) ?_
  rintro t8 w2 ⟨hO,e2⟩
  have s2:=e2.size
  have hO':=Yk.mates hO (hmatesT.imp λ _ _ h=>h)
  have hS:=hO'.slice (E:=zN) (λ _=>rfl) (λ _ _=>rfl)
  have h8:=Zd.oneCell hS
  have hTy:WR w2 (w0.heap.size+1) 43:=(WR.ext (w:=(w0.alloc _).alloc (.cells #[.slice none 0 0] 43)) ⟨_,_,by have:=ZG (w0.alloc (.cells #[.int .i64 base,tv] 45)) #[.slice none 0 0] 43;rw [World.size_alloc] at this;exact this⟩ (e1.trans e2))
  simp (disch:=try exact DI) only [↓PR,QR,simprocAttr,↓AI,e1.cellQ,e1.frozenQ,e2.cellQ,e2.frozenQ]
  have hS2:=((hO'.range.only (YY.setCell w2 (w0.heap.size+1) 0 t8) (.inr (.inl (by omega)))).1).slice (E:=zN) (λ _=>rfl) (λ _ _=>rfl)
  refine ⟨_,t8,rfl,⟨?_,hS2,λ A m c e=>by subst e;have:=hO'.lt A.block rfl;omega⟩,by omega,ee⟩
  simp (disch:=try exact DI) only [↓PR,QR,simprocAttr,e1.cellQ,e1.frozenQ,e2.cellQ,e2.frozenQ]
def KX (ts:List Z3) (k:Nat):Vl:=match ts[k]? with
 | some t => .string t.field
 | none=>undef
theorem B8 (pb:Nat) (tv:Vl) (ts:List Z3):NL Pg 237 #[.pointer (some ⟨pb,0,none⟩)] ts.length (KX ts) (λ w=>Wf w pb tv ts):=by
 intro yv J Jx Jp w hFP hJe hJx QZ h0
 obtain ⟨hc,hT,_⟩:=hFP 0 w h0
 obtain ⟨A,c,rfl,hlc,hcm,hlm,Y3⟩:=Zd.open hT
 refine ZdO (t0:=yv) (t1 := .pointer (some ⟨pb,0,none⟩)) ?_
 unfold ZdN
 simp (disch:=try exact DI) only [↓PR,QR,simprocAttr,hc]
 refine ZF (λ i w=>∃ k:Nat,i = .int .i64 k∧k≤ts.length∧J k w) (λ i _=>ts.length - (intOf i).toNat) ⟨0,rfl,by omega,h0⟩ ?_
 rintro i w' ⟨k,rfl,hk,hJ⟩
 rcases ZD hk with ⟨x,hx,hd,Yv,ZJ⟩ | ⟨hk,hd,ZJ⟩
 · obtain ⟨_,hT',_⟩:=hFP k w' hJ
   obtain ⟨A',c',hv,_,_,_,hel'⟩:=Zd.open hT'
   injection hv with hv _ hv'
   subst hv hv'
   obtain ⟨b,o,cs,rfl,hl,hA,rfl⟩:=hel' k x hx
   have er:=Ext.refl w'
   simp (disch:=try exact DI) only [↓PR,QR,simprocAttr,↓AJ,↓AK,ZJ,hA.c2]
   have hs:=QZ k Yv _ (hJe k w' _ hJ ((Ext.refl w').alloc (.cells #[.string x.field,.int .i64 x.factor] 62)))
   rw [show KX ts k = .string x.field by unfold KX;rw [hx]] at hs
   refine UI hs (λ ch w h=>h) ?_
   rintro v w2 (⟨rfl,h2⟩ | ⟨rfl,h2⟩)
   · simp (disch:=try exact DI) only [↓PR,QR,simprocAttr,↓AJ,↓AK]
     exact ⟨⟨k+1,rfl,by omega,h2⟩,ZM (kd := .i64) Yv⟩
   · simp (disch:=try exact DI) only [↓PR,QR,simprocAttr,↓AJ,↓AK]
     exact .inr h2
 · subst hk
   simp (disch:=try exact DI) only [↓PR,QR,simprocAttr,↓AJ,↓AK,ZJ]
   exact .inl hJ
theorem Wf.lasts (B pb:Nat) (tv:Vl) (ts:List Z3):Yd B (λ w=>Wf w pb tv ts):=
 Yd.and (Yd.cell B) (Yd.and ⟨λ _ _ h e=>ZV.ext h e,λ _ _ _ _ _ h hl=>Zd.putLoop (λ _ _ h=>h) hl h⟩ (Yd.const _ _))
def Xp (but:BAr) (ps:List (BAr×Vl)) (p:Vl→Bool):List Z3→Bool→Int
 | [],no=>if no then 9 else 0
 | t::ts,no=>if t.field=but then Xp but ps p ts no else match Yz ps t.field with
  | none=>Xp but ps p ts true
  | some v=>if p v then Xp but ps p ts no else 2
theorem z7 (w0:Wd) (v:Vl) (base:Int) (ts:List Z3) (but:BAr) (m:Nat) (ps:List (BAr×Vl)) (g:FuncId) (caps:AVl) (p:Vl→Bool) (hs:KD w0 v base ts) (hb:ts.length≤1048576)
 (hm:Yr w0 m ps) (hr:∀ k v,Yz ps k=some v→∃ lo hi,v=Zv lo hi) (hg:Callable Pg g) (hc:∀ w lo hi,Ext w0 w→Ret Pg g (#[Zv lo hi]++caps) w λ r w'=>r = .bool (p (Zv lo hi))∧Ext w w') :
 Ret Pg 229 #[v,.string but,.map (some m),.func (.func g) #[] caps] w0 λ r w'=>r = .int .i64 (if WO base ts then Xp but ps p ts false else 2)∧Ext w0 w':=by
 obtain ⟨tv,rfl,hT⟩:=hs
 have ht1:=Zd.oneCell hT
 have hmlt:=hm.lt
 refine ZdV (R:=ZO _) ?_;unfold Zb0
 simp (disch:=try exact DI) only [↓PR,QR,simprocAttr,↓VU,↓VV,↓VW,↓Vs,↓VX,↓VY]
 refine zcr (xx _ _ base ts ⟨tv,rfl,ZV.ext hT ee⟩) λ w1 e1=>?_
 have s1:=e1.size
 try simp only [World.size_alloc,World.size_setCell,World.size_drew,World.putObj_size,Sw.putW_size] at s1
 cases hv:WO base ts with
 | false=>
  simp (disch:=try exact DI) only [↓PR,QR,simprocAttr,↓VU,↓VV,↓VW,↓Vs,↓VX,↓VY,e1.cellQ,e1.frozenQ,WW,qp,Qo]
  exact ⟨by first | trivial | rfl,ee⟩
 | true=>
  simp (disch:=try exact DI) only [↓PR,QR,simprocAttr,↓VU,↓VV,↓VW,↓Vs,↓VX,↓VY,e1.cellQ,e1.frozenQ]
  refine Zs (B7 _ _ base ts ⟨tv,rfl,ZV.ext hT ee⟩ hb) ?_
  rintro _ w2 ⟨pb,tv2,rfl,hTA,hpb,e2⟩
  rw [hv] at hTA
  simp only [if_true] at hTA
  have s2:=e2.size
  simp only [World.size_alloc] at s2 hpb
  have o5:w2.heap[w0.heap.size+1]?=some (.cells #[.string but] 9 (0,0)):=by simp (disch:=try exact DI) only [↓PR,QR,simprocAttr,e1.heapQ,e2.heapQ]
  have o6:w2.heap[w0.heap.size+1+1]?=some (.cells #[.map (some m)] 122 (0,0)):=by simp (disch:=try exact DI) only [↓PR,QR,simprocAttr,e1.heapQ,e2.heapQ]
  have o7:w2.heap[w0.heap.size+1+1+1]?=some (.cells #[.func (.func g) #[] caps] 236 (0,0)):=by simp (disch:=try exact DI) only [↓PR,QR,simprocAttr,e1.heapQ,e2.heapQ]
  have o8:w2.heap[w0.heap.size+1+1+1+1]?=some (.cells #[.int .i64 0] 31 (0,0)):=by simp (disch:=try exact DI) only [↓PR,QR,simprocAttr,e1.heapQ,e2.heapQ]
  have o9:w2.heap[w1.heap.size]?=some (.cells #[.bool false] 4 (0,0)):=by simp (disch:=try exact DI) only [↓PR,QR,simprocAttr,e1.heapQ,e2.heapQ]
  have eW:Ext w0 w2:=ee
  simp only [World.size_alloc]
  unfold Vs
  let I:Nat→Wd→Prop:=λ k w=>Ext w0 w∧w.heap[w0.heap.size+1]?=some (.cells #[.string but] 9 (0,0))∧w.heap[w0.heap.size+1+1]?=some (.cells #[.map (some m)] 122 (0,0)) ∧
   w.heap[w0.heap.size+1+1+1]?=some (.cells #[.func (.func g) #[] caps] 236 (0,0))∧Wf w pb tv2 ts ∧
   ∃ nb x,w.heap[w0.heap.size+1+1+1+1]?=some (.cells #[.int .i64 x] 31 (0,0))∧w.heap[w1.heap.size]?=some (.cells #[.bool nb] 4 (0,0))∧Xp but ps p (ts.drop k) nb=Xp but ps p ts false
  let Ix:Nat→Wd→Prop:=λ c w=>c=0∧Ext w0 w∧w.heap[w0.heap.size+1+1+1+1]?=some (.cells #[.int .i64 2] 31 (0,0))∧Xp but ps p ts false=2
  have hLI:∀ k,Yd w2.heap.size (I k):=λ k=>Yd.and (Yd.from (by omega)) (Yd.and (Yd.has _ (by simp)) (Yd.and (Yd.has _ (by simp)) (Yd.and (Yd.has _ (by simp)) (Yd.and (Wf.lasts _ _ _ _)
   (Yd.ex λ nb=>Yd.ex λ x=>Yd.and (Yd.has _ (by simp)) (Yd.and (Yd.has _ (by simp)) (Yd.const _ _)))))))
  have hLX:∀ k,Yd w2.heap.size (Ix k):=λ k=>Yd.and (Yd.const _ _)<|Yd.and (Yd.from (by omega)) (Yd.and (Yd.has _ (by simp)) (Yd.const _ _))
  refine ⟨_,_,ts.length,KX ts,λ w=>Wf w pb tv2 ts,I,Ix,λ _ _=>False,rfl,Zda,B8 pb tv2 ts,⟨eW,o5,o6,o7,hTA,false,0,o8,o9,rfl⟩,λ k w h=>h.2.2.2.2.1,hLI,hLX,?_,?_,?_,?_⟩
  · intro rec j w3 hj hI3 hrec hready
    refine ⟨hready,λ w4 hbz=>?_⟩
    have hrec4:=hrec.busied hbz
    have hI4:=(hLI j).busied hbz (Nat.le_succ _) hI3
    clear hI3 hrec hready hbz
    obtain ⟨e4,o5,o6,o7,hTA4,nb,x,o8,o9,hF⟩:=hI4
    obtain ⟨t,hx⟩:=getElem?_lt hj
    rw [show KX ts j = .string t.field by unfold KX;rw [hx]]
    have hd:ts.drop j=t::ts.drop (j+1):=by
     rw [List.drop_eq_getElem_cons hj]
     congr 1
     exact (List.getElem?_eq_some_iff.1 hx).2
    rw [hd] at hF
    simp only [Xp] at hF
    have hm4:=hm.ext e4
    have s4:=e4.size
    have l9:w1.heap.size < w4.heap.size:=(Array.getElem?_eq_some_iff.1 o9).1
    have l8:w0.heap.size+1+1+1+1 < w4.heap.size:=(Array.getElem?_eq_some_iff.1 o8).1
    simp (disch:=try exact DI) only [↓PR,QR,simprocAttr,↓VU,↓VV,↓VW,↓Vs,↓VX,↓VY,(Za o5).1,(Za o6).1]
    rw [UT underlying122 underlying9 UY hm4]
    have next:∀ nb' w5,Ext w4 w5→Xp but ps p (ts.drop (j+1)) nb'=Xp but ps p ts false→nb'=nb→I (j+1) w5:=λ nb' w5 e5 h hn=>(hLI (j+1)).ext _ _ ⟨e4,o5,o6,o7,hTA4,nb,x,o8,o9,hn ▸ h⟩ e5
    cases hl:Yz ps t.field with
    | none=>
     rw [hl] at hF
     simp (disch:=try exact DI) only [↓PR,QR,simprocAttr,↓VU,↓VV,↓VW,↓Vs,↓VX,↓VY,(Za o5).1]
     by_cases hbut:t.field=but
     · rw [if_pos hbut] at hF
       simp only [hbut,decide_true]
       simp (disch:=try exact DI) only [↓PR,QR,simprocAttr]
       exact ⟨hrec4.alloc _,next nb _ ee hF rfl⟩
     · rw [if_neg hbut] at hF
       simp only [hbut,decide_false]
       simp (disch:=try exact DI) only [↓PR,QR,simprocAttr,↓VU,↓VV,↓VW,↓Vs,↓VX,↓VY,(Za o9).1,(Za o9).2]
       refine ⟨(hrec4.setCell _ _).alloc _,ee,by simp (disch:=try exact DI) only [↓PR,QR,simprocAttr,o5],by simp (disch:=try exact DI) only [↓PR,QR,simprocAttr,o6],by simp (disch:=try exact DI) only [↓PR,QR,simprocAttr,o7],(hTA4.set (by omega) _).ext ((Ext.refl _).alloc _),true,x,by simp (disch:=try exact DI) only [↓PR,QR,simprocAttr,o8],?_,hF⟩
       have:=((Ext.refl _).alloc (.cells #[.int .i64 0,.int .i64 0] 74)).obj (ZE (o:=0) o9 (.bool true))
       simpa using this
    | some v=>
     obtain ⟨lo,hi,rfl⟩:=hr _ _ hl
     rw [hl] at hF
     simp (disch:=try exact DI) only [↓PR,QR,simprocAttr,↓VU,↓VV,↓VW,↓Vs,↓VX,↓VY,(Za o5).1,Zv]
     by_cases hbut:t.field=but
     · rw [if_pos hbut] at hF
       simp only [hbut,decide_true]
       simp (disch:=try exact DI) only [↓PR,QR,simprocAttr]
       exact ⟨hrec4.alloc _,next nb _ ee hF rfl⟩
     · rw [if_neg hbut] at hF
       simp only [hbut,decide_false]
       simp (disch:=try exact DI) only [↓PR,QR,simprocAttr,↓VU,↓VV,↓VW,↓Vs,↓VX,↓VY,(Za o7).1]
       rw [YZ hg]
       refine zcr (hc _ lo hi ee) λ w6 e6=>?_
       have s6:=e6.size
       simp only [World.size_alloc] at s6
       cases hp:p (Zv lo hi) with
       | true=>
        simp only [hp,if_true] at hF
        simp (disch:=try exact DI) only [↓PR,QR,simprocAttr,↓VU,↓VV,↓VW,↓Vs,↓VX,↓VY]
        exact ⟨(hrec4.alloc _).ext e6,next nb _ ee hF rfl⟩
       | false=>
        simp only [hp,Bool.false_eq_true,if_false] at hF
        simp (disch:=try exact DI) only [↓PR,QR,simprocAttr,↓VU,↓VV,↓VW,↓Vs,↓VX,↓VY,e6.cellQ,e6.frozenQ,(Za o8).1,(Za o8).2]
        refine ⟨((hrec4.alloc _).ext e6).setCell _ _,rfl,ee,?_,hF.symm⟩
        have:=ZE (o:=0) ((((Ext.refl w4).alloc (.cells #[.int .i64 lo,.int .i64 hi] 74)).trans e6).obj o8) (.int .i64 2)
        simpa using this
  · rintro w3 ⟨e3,o5,o6,o7,hTA3,nb,x,o8,o9,hF⟩ hmk
    rw [List.drop_length] at hF
    simp only [Xp] at hF
    have l2:w2.heap.size < w3.heap.size:=(Array.getElem?_eq_some_iff.1 hmk).1
    cases nb with
    | true=>
     simp (disch:=try exact DI) only [↓PR,QR,simprocAttr,↓VU,↓VV,↓VW,↓Vs,↓VX,↓VY,(Za o8).1,(Za o8).2,(Za o9).1]
     refine V0 (hmk.setCell _ _) ?_
     simp (disch:=try exact DI) only [↓PR,QR,simprocAttr,WW,qp,Qo,KF (hmk.setCell _ _),(Za o8).1]
     exact ⟨by rw [← hF];rfl,ee⟩
    | false=>
     simp (disch:=try exact DI) only [↓PR,QR,simprocAttr,↓VU,↓VV,↓VW,↓Vs,↓VX,↓VY,(Za o8).1,(Za o8).2,(Za o9).1]
     refine V0 (hmk.setCell _ _) ?_
     simp (disch:=try exact DI) only [↓PR,QR,simprocAttr,WW,qp,Qo,KF (hmk.setCell _ _),(Za o8).1]
     exact ⟨by rw [← hF];rfl,ee⟩
  · rintro c w3 ⟨rfl,e3,o8,hF⟩ hmk
    have l2:w2.heap.size < w3.heap.size:=(Array.getElem?_eq_some_iff.1 hmk).1
    show Us _ _ _ _ _
    refine V0 hmk ?_
    simp (disch:=try exact DI) only [↓PR,QR,simprocAttr,WW,qp,Qo,KF hmk,(Za o8).1]
    exact ⟨by rw [hF],ee⟩
  · rintro _ _ h
    exact h.elim
def yQ (base:Int) (vf:Z3→Int) (ts:List Z3):Int:=ts.foldl (λ n t=>IntKind.i64.wrap (n+IntKind.i64.wrap (t.factor*vf t))) base
theorem Io (w0:Wd) (v:Vl) (base:Int) (ts:List Z3) (g:FuncId) (caps:AVl) (vf:Z3→Int) (hs:KD w0 v base ts) (hg:Callable Pg g)
 (hc:∀ w t,Ext w0 w→Ret Pg g (#[Kc t]++caps) w λ r w'=>r = .int .i64 (vf t)∧Ext w w') :
 Ret Pg 231 #[v,.func (.func g) #[] caps] w0 λ r w'=>r = .int .i64 (yQ base vf ts)∧Ext w0 w':=by
 obtain ⟨tv,rfl,hT⟩:=hs
 obtain ⟨A,c,rfl,hlc,hcm,hlm,Y3⟩:=Zd.open hT
 refine Zd1 (R:=ZO _) ?_;unfold Zd0
 simp (disch:=try exact DI) only [↓PR,QR,simprocAttr,↓qb,↓qc,↓qd]
 refine Yn (λ a0 a1 w=>∃ (k:Nat) (n:Int),a0 = .int .i64 n∧a1 = .int .i64 (k:Int)∧k≤ts.length∧Ext w0 w∧yQ n vf (ts.drop k)=yQ base vf ts) (λ a0 a1 _=>ts.length - (intOf a1).toNat) ⟨0,base,rfl,rfl,Nat.zero_le _,ee,rfl⟩ ?_
 rintro _ _ w ⟨k,n,rfl,rfl,hk,e,hI⟩
 have se:=e.size
 rcases ZD hk with ⟨x,hx,hd,Yv,ZJ⟩ | ⟨hk,hd,ZJ⟩
 · obtain ⟨b,o,cs,rfl,hl,hA,rfl⟩:=Y3 k x hx
   rw [hd] at hI
   simp (disch:=try exact DI) only [↓PR,QR,simprocAttr,↓qb,↓qc,↓qd,ZJ,hA.c2]
   refine Zy ?_
   simp (disch:=try exact DI) only [↓PR,QR,simprocAttr,↓qb,↓qc,↓qd]
   rw [YZ hg]
   refine zcr (hc _ x ee) λ w1 e1=>?_
   refine ⟨e1,?_⟩
   simp (disch:=try exact DI) only [↓PR,QR,simprocAttr,↓qb,↓qc,↓qd]
   exact ⟨⟨k+1,_,rfl,rfl,by omega,ee,hI⟩,ZM (kd := .i64) Yv⟩
 · subst hk
   simp (disch:=try exact DI) only [↓PR,QR,simprocAttr,↓qb,↓qc,↓qd,ZJ]
   rw [hd] at hI
   exact ⟨by rw [← hI];rfl,e⟩
def RP (rp:List (BAr×Int×Int)):List (BAr×Vl):=rp.map λ p=>(p.1,Zv p.2.1 p.2.2)
def Ym (rp:List (BAr×Int×Int)) (s:BAr):Option (Int×Int):=(rp.reverse.find? (λ p=>decide (p.1=s))).map (·.2)
theorem Qg (rp:List (BAr×Int×Int)) (s:BAr):Yz (RP rp) s=(Ym rp s).map λ q=>Zv q.1 q.2:=by
 unfold Yz RP Ym
 rw [← List.map_reverse,List.find?_map]
 simp only [Option.map_map]
 rfl
def YD (l:List Zl):List (BAr×Int×Int):=(l.filter Y7).map λ f=>(f.name,f.low,Xk f)
theorem Uh (l:List Zl):XJ l=RP (YD l):=by
 unfold XJ RP YD
 rw [List.map_map]
 rfl
def Wk (rp:List (BAr×Int×Int)) (least:Bool) (t:Z3):Int:=match Ym rp t.field with
 | some (lo,hi)=>if least == decide (t.factor > 0) then lo else hi
 | none=>0
theorem S8 (w0:Wd) (t:Z3) (pm pl m:Nat) (rp:List (BAr×Int×Int)) (least:Bool) (h1:w0.cell? ⟨pm,0,none⟩=some (.map (some m))) (h2:w0.cell? ⟨pl,0,none⟩=some (.bool least)) (hm:Yr w0 m (RP rp)) :
 Ret Pg 232 #[Kc t,.pointer (some ⟨pm,0,none⟩),.pointer (some ⟨pl,0,none⟩)] w0 λ r w'=>r = .int .i64 (Wk rp least t)∧Ext w0 w':=by
 have hb1:=World.block_lt_of_cell? w0 _ h1
 have hb2:=World.block_lt_of_cell? w0 _ h2
 simp only at hb1 hb2
 unfold Kc
 refine ZdG (R:=ZO _) ?_;unfold ZdF
 simp (disch:=try exact DI) only [↓PR,QR,simprocAttr,h1,h2]
 rw [QC underlying122 underlying9 UY (hm.ext ee),Qg]
 unfold Wk
 cases hl:Ym rp t.field with
 | none=>
  simp (disch:=try exact DI) only [↓PR,QR,simprocAttr,↓KT,h1,h2,Option.map_none]
  cases (least == decide (0 < t.factor)) with
  | true=>simp (disch:=try exact DI) only [↓PR,QR,simprocAttr,↓KT,h1,h2];exact ⟨by first | trivial | rfl,ee⟩
  | false=>
   simp (disch:=try exact DI) only [↓PR,QR,simprocAttr,↓KT,h1,h2]
   rw [QC underlying122 underlying9 UY (hm.ext ee),Qg,hl]
   simp (disch:=try exact DI) only [↓PR,QR,simprocAttr,↓KT,Option.map_none]
   exact ⟨by first | trivial | rfl,ee⟩
 | some q=>
  obtain ⟨lo,hi⟩:=q
  simp (disch:=try exact DI) only [↓PR,QR,simprocAttr,↓KT,h1,h2,Zv]
  cases (least == decide (0 < t.factor)) with
  | true=>simp (disch:=try exact DI) only [↓PR,QR,simprocAttr,↓KT,h1,h2];exact ⟨by first | trivial | rfl,ee⟩
  | false=>
   simp (disch:=try exact DI) only [↓PR,QR,simprocAttr,↓KT,h1,h2]
   rw [QC underlying122 underlying9 UY (hm.ext ee),Qg,hl]
   simp (disch:=try exact DI) only [↓PR,QR,simprocAttr,↓KT,Zv]
   exact ⟨by first | trivial | rfl,ee⟩
def WX (lo hi:Int):Bool:=decide (0≤lo)&&decide (lo≤hi)&&decide (hi < 34359738368)
def Hk:Vl→Bool
 | .agg a=>match a.toList with
  | [.int _ lo,.int _ hi]=>WX lo hi
  | _=>false
 | _=>false
theorem Oa (w0:Wd) (lo hi:Int):Ret Pg 228 #[Zv lo hi] w0 λ r w'=>r = .bool (Hk (Zv lo hi))∧Ext w0 w':=by
 unfold Zv
 refine ZdC (R:=ZO _) ?_;unfold ZdB
 simp (disch:=try exact DI) only [↓PR,QR,simprocAttr,Sw.joinK_eq]
 refine zcr (Et (by simp only [World.size_alloc]) _ _ _ _) λ w1 e1=>?_
 have s1:=e1.size
 try simp only [World.size_alloc,World.size_setCell,World.size_drew,World.putObj_size,Sw.putW_size] at s1
 simp (disch:=try exact DI) only [↓PR,QR,simprocAttr,Sw.joinK_eq]
 exact ⟨rfl,ee⟩
theorem EI (w0:Wd) (pm ps m:Nat) (rp:List (BAr×Int×Int)) (least:Bool) (base:Int) (tv:Vl) (ts:List Z3) (h0:w0.cell? ⟨ps,0,none⟩=some (.int .i64 base)) (h0':w0.cell? ⟨ps,1,none⟩=some tv) (hT:ZV w0 tv ts)
 (h1:w0.cell? ⟨pm,0,none⟩=some (.map (some m))) (hm:Yr w0 m (RP rp)) :
 Ret Pg 230 #[.bool least,.pointer (some ⟨ps,0,none⟩),.pointer (some ⟨pm,0,none⟩)] w0 λ r w'=>r = .int .i64 (yQ base (Wk rp least) ts)∧Ext w0 w':=by
 have hb1:=World.block_lt_of_cell? w0 _ h0
 have hb2:=World.block_lt_of_cell? w0 _ h1
 simp only at hb1 hb2
 refine ZdE (R:=ZO _) ?_;unfold ZdD
 simp (disch:=try exact DI) only [↓PR,QR,simprocAttr,h0,h0']
 refine Zs (Io _ _ base ts _ _ (Wk rp least) ⟨tv,rfl,ZV.ext hT ee⟩ ZhK ?_) ?_
 · intro w t e
   exact S8 w t pm w0.heap.size m rp least (((Ext.refl w0).alloc _).trans e |>.cell h1) (e.cell (by simp (disch:=try exact DI) only [↓PR,QR,simprocAttr])) (hm.ext (((Ext.refl w0).alloc _).trans e))
 rintro _ w1 ⟨rfl,e1⟩
 simp (disch:=try exact DI) only [↓PR,QR,simprocAttr,Sw.joinK_eq]
 exact ⟨by first | trivial | rfl,ee⟩
def YR (base:Int) (ts:List Z3) (rp:List (BAr×Int×Int)):Int:=if WO base ts then Xp ByteArray.empty (RP rp) Hk ts false else 2
def Y5 (base:Int) (ts:List Z3) (rp:List (BAr×Int×Int)):Int:=if YR base ts rp=0 then yQ base (Wk rp true) ts else 0
def Y4 (base:Int) (ts:List Z3) (rp:List (BAr×Int×Int)):Int:=if YR base ts rp=0 then yQ base (Wk rp false) ts else 0
theorem zQ (w0:Wd) (v:Vl) (base:Int) (ts:List Z3) (m:Nat) (rp:List (BAr×Int×Int)) (hs:KD w0 v base ts) (hb:ts.length≤1048576) (hm:Yr w0 m (RP rp)) :
 Ret Pg 220 #[v,.map (some m)] w0 λ r w'=>r = .tuple #[Zv (Y5 base ts rp) (Y4 base ts rp),.int .i64 (YR base ts rp)]∧Ext w0 w':=by
 obtain ⟨tv,rfl,hT⟩:=hs
 have hT1:=Zd.oneCell hT
 have hmlt:=hm.lt
 refine ZdA (R:=ZO _) ?_;unfold Zdz
 simp (disch:=try exact DI) only [↓PR,QR,simprocAttr,↓AG,↓AH,↓xT]
 refine Zs (z7 _ _ base ts ByteArray.empty m (RP rp) _ _ Hk ⟨tv,rfl,ZV.ext hT ee⟩ hb (hm.ext ee) (λ k v hv=>?_) ZhH (λ w lo hi e=>by simpa using Oa w lo hi)) ?_
 · rw [Qg] at hv
   obtain ⟨q,_,rfl⟩:=Option.map_eq_some_iff.1 hv
   exact ⟨q.1,q.2,rfl⟩
 rintro _ w1 ⟨rfl,e1⟩
 have s1:=e1.size
 simp only [World.size_alloc] at s1
 show xT _ _ _ (.int .i64 (YR base ts rp)) _ w1
 unfold Y5 Y4
 by_cases hE:YR base ts rp=0
 · rw [hE]
   simp (disch:=try exact DI) only [↓PR,QR,simprocAttr,↓AG,↓AH,↓xT]
   have c0:w1.cell? ⟨w0.heap.size,0,none⟩=some (.int .i64 base):=by simp (disch:=try exact DI) only [↓PR,QR,simprocAttr,e1.cellQ]
   have c1:w1.cell? ⟨w0.heap.size,1,none⟩=some tv:=by simp (disch:=try exact DI) only [↓PR,QR,simprocAttr,e1.cellQ]
   have c2:w1.cell? ⟨w0.heap.size+1,0,none⟩=some (.map (some m)):=by simp (disch:=try exact DI) only [↓PR,QR,simprocAttr,e1.cellQ]
   have eW:Ext w0 w1:=ee
   rw [YZ Zc8]
   refine zcr (EI w1 _ _ m rp true base tv ts c0 c1 (hT.ext eW) c2 (hm.ext eW)) λ w2 e2=>?_
   have s2:=e2.size
   simp only [World.size_alloc]
   rw [YZ Zc8]
   refine zcr (EI w2 _ _ m rp false base tv ts (e2.cell c0) (e2.cell c1) ((ZV.ext hT eW).ext e2) (e2.cell c2) ((hm.ext eW).ext e2)) λ w3 e3=>?_
   have s3:=e3.size
   simp (disch:=try exact DI) only [↓PR,QR,simprocAttr,↓AG,↓AH,↓xT,e1.cellQ,e1.frozenQ,e2.cellQ,e2.frozenQ,e3.cellQ,e3.frozenQ]
   exact ⟨by first | trivial | rfl,ee⟩
 · have Xv:(YR base ts rp != 0)=true:=by simpa using hE
   simp (disch:=try exact DI) only [↓PR,QR,simprocAttr,↓AG,↓AH,↓xT,Xv,e1.cellQ,e1.frozenQ]
   simp only [hE,if_false]
   exact ⟨by first | trivial | rfl,ee⟩
def JU (c d e:Vl) (f:WPr) (a:PEn) (R:RT) (w:Wd):Prop:=
 opV Pg (loadAt 122 d) a w λ g w=>
 opV Pg (Instr.lookup 122 g e true) a w λ b w=>
 opV Pg (Instr.extract b 0) a w λ h w=>
 opV Pg (Instr.extract b 1) a w λ i w=>
 opV Pg (Instr.alloc 74 true (.tuple #[])) a w λ j w=>
 opU Pg (storeAt 74 j h) a w λ w=>
 opV Pg (loadAt 140 c) a w λ k w=>
 Yt Pg 122 #[k,i,(.int .i64 8)] a w λ l w=>
 f w
def JV (d e f g:Vl) (ds:LDf) (R:RT) (w:Wd):Prop:=
 Zw f g (.bool false) λ b=>
 Zr (λ (a:Vl) (w:Wd)=>
 Zw b a (.bool false) λ h=>
 Yt Pg 122 #[e,h,(.int .i64 9)] (ZP Pg ds [] R) w λ k w=>
 Us Pg ds [] R w) λ c=>
 Zn b true (
 opV Pg (fieldAt 74 d 1) (ZP Pg ds [] R) w λ i w=>
 opV Pg (loadAt 3 i) (ZP Pg ds [] R) w λ j w=>
 opV Pg (ZI .leq 3 true j (.int .i64 1048576)) (ZP Pg ds [] R) w λ a w=>
 c a w) (
 c undef w)
def JW (f c:Vl) (ds:LDf) (R:RT) (w:Wd):Prop:=
 opV Pg (Instr.extract c 0) (ZP Pg ds [] R) w λ g w=>
 opV Pg (Instr.extract c 1) (ZP Pg ds [] R) w λ h w=>
 opV Pg (Instr.alloc 74 true (.tuple #[])) (ZP Pg ds [] R) w λ a w=>
 opU Pg (storeAt 74 a g) (ZP Pg ds [] R) w λ w=>
 opV Pg (loadAt 140 f) (ZP Pg ds [] R) w λ i w=>
 opV Pg (ZI .eql 31 true h (.int .i64 0)) (ZP Pg ds [] R) w λ d w=>
 Zr (λ (b:Vl) (w:Wd)=>
 JV a i d b ds R w) λ e=>
 Zn d true (
 opV Pg (fieldAt 74 a 0) (ZP Pg ds [] R) w λ j w=>
 opV Pg (loadAt 3 j) (ZP Pg ds [] R) w λ k w=>
 opV Pg (ZI .geq 3 true k (.int .i64 0)) (ZP Pg ds [] R) w λ b w=>
 e b w) (
 e undef w)
def Jj (a b c:Vl) (ds:LDf) (R:RT) (w:Wd):Prop:=
 opV Pg (fieldAt 48 b 7) (ZP Pg ds [] R) w λ d w=>
 opV Pg (loadAt 45 d) (ZP Pg ds [] R) w λ e w=>
 opV Pg (loadAt 122 c) (ZP Pg ds [] R) w λ f w=>
 Yt Pg 220 #[e,f] (ZP Pg ds [] R) w λ g w=>
 JW a g ds R w
def Jk (a c b d:Vl) (ds:LDf) (R:RT) (w:Wd):Prop:=
 Bo Pg d ds (λ l2 e w f h g=>
 zW l2 w λ w=>
 JU a b e f g R w) (λ ch ds w=>ZP Pg ds [] R ch w) w (λ ds w=>
 Jj a c b ds R w) []
def JX (c a d:Vl) (ds:LDf) (R:RT) (w:Wd):Prop:=
 opV Pg (Instr.alloc 122 true (.tuple #[])) (ZP Pg ds [] R) w λ b w=>
 opU Pg (storeAt 122 b d) (ZP Pg ds [] R) w λ w=>
 opV Pg (fieldAt 48 a 7) (ZP Pg ds [] R) w λ e w=>
 opV Pg (loadAt 45 e) (ZP Pg ds [] R) w λ f w=>
 Yt Pg 225 #[f] (ZP Pg ds [] R) w λ g w=>
 Jk c a b g ds R w
def JY (a b:Vl) (ds:LDf) (R:RT) (w:Wd):Prop:=
 opV Pg (loadAt 140 a) (ZP Pg ds [] R) w λ c w=>
 Yt Pg 184 #[c] (ZP Pg ds [] R) w λ d w=>
 Yt Pg 224 #[d] (ZP Pg ds [] R) w λ e w=>
 JX a b e ds R w
def JZ (b c:Vl) (a:WPr) (ds:LDf) (R:RT) (w:Wd):Prop:=
 I0 140 b a λ d=>
 J0 48 c 7 a λ e=>
 I0 45 e a λ f=>
 Yt Pg 223 #[f] (ZP Pg ds [] R) w λ g w=>
 a w∧(
 Yt Pg 122 #[d,g,(.int .i64 9)] (ZP Pg ds [] R) w λ h w=>
 a w∧(
 JY b c ds R w))
def n72 (a b:Vl) (R:RT) (w:Wd):Prop:=
 (λ (ds:LDf)=>
 opV Pg (Instr.box 140 a) (ZP Pg ds [] R) w λ c w=>
 opV Pg (Instr.box 48 b) (ZP Pg ds [] R) w λ d w=>
 Yy w λ e w=>
 JZ c d e ds R w) []
theorem ZiQ {t0 t1:Vl} {R:RT} {w:Wd} (h:n72 t0 t1 R w):Calls Pg 202 #[t0,t1] w R:=by
 refine yE func202 ?_
 unfold n72 at h
 dsimp only at h
 refine zs<|zr<|yv h λ _ w h=>yv h λ _ w h=>zn<|zk<|zs<|yh [10,11,12,13,14] h λ C hC h=>ye 0 hC h λ _ h=>?_
 refine ye 1 hC h λ _ h=>?_
 refine ye 2 hC h λ _ h=>?_
 refine yo 3 ?_
 refine yc h ZbQ λ _ w h=>zn ?_
 obtain ⟨hC,h⟩:=h
 refine ⟨hC,?_⟩
 refine yo 4 ?_
 refine yc h UZ λ _ w h=>zn ?_
 obtain ⟨hC,h⟩:=h
 refine ⟨hC,?_⟩
 refine yz<|zk<|zs<|zr<|yv h λ _ w h=>yc h Mx λ _ w h=>yc h NU λ _ w h=>yv h λ _ w h=>yu h λ w h=>zn<|zk<|zs<|zs<|zr<|yv h λ _ w h=>?_
 refine yv h λ _ w h=>yc h Zc7 λ _ w h=>zn<|zk<|Zj<|Gw [] h rfl (λ l2 t21 w Kr2 Xr2 Qr2 h=>?_) (λ ds w h=>?_) (λ c ds w h=>?_) (λ ch ds w h=>Ql rfl h)
 · refine zr<|zm<|zn<|zk ?_
   obtain ⟨hr,h⟩:=h
   refine ⟨rfl,hr,λ w hb=>?_⟩
   have h:=h w hb
   refine Zj<|zs<|zr<|yv h λ _ w h=>zm<|yv h λ _ w h=>zm<|yv h λ _ w h=>yv h λ _ w h=>yv h λ _ w h=>yu h λ w h=>zm<|zn<|zk<|zr ?_
   exact yv h λ _ w h=>zm<|yc h UZ λ _ w h=>zn<|Zg<|⟨rfl,h⟩
 · refine Zg<|zk<|zs<|zr<|yv h λ _ w h=>yv h λ _ w h=>yv h λ _ w h=>yc h SR λ _ w h=>zm<|yv h λ _ w h=>yv h λ _ w h=>yv h λ _ w h=>yu h λ w h=>zm<|zn ?_
   refine zk<|Zu<|yG 4<|yv h λ _ w h=>zm<|yb h λ _ w h=>zm<|zn<|yg1 3 3 true [42,43,44] 44 h (λ _ T hT h=>?_) λ σ w h=>?_
   · refine yv h λ _ w h=>yv h λ _ w h=>yb h λ _ w h=>zn ?_
     exact zt hT h
   refine yG 2<|yp h λ _ h=>zm<|zn<|yg1 3 8 true [47,48,49] 49 h (λ _ T hT h=>?_) λ σ w h=>?_
   · refine yv h λ _ w h=>yv h λ _ w h=>yb h λ _ w h=>zn ?_
     exact zt hT h
   exact yG 2<|yp h λ _ h=>yc h UZ λ _ w h=>zn<|ZQ<|zV<|Y9 rfl h
 exact h.elim
def n99 (a:Vl) (R:RT) (w:Wd):Prop:=
 opN Pg (Xb a) (Zh R) w λ b w=>
 F0 48 b 5 R w λ c w=>
 opU Pg (storeAt 3 c (.int .i64 0)) (Zh R) w λ w=>
 opN Pg (Xb a) (Zh R) w λ d w=>
 F0 48 d 6 R w λ e w=>
 opU Pg (storeAt 3 e (.int .i64 0)) (Zh R) w λ w=>
 R (.returned (.tuple #[])) w
theorem Zjg {t0:Vl} {R:RT} {w:Wd} (h:n99 t0 R w):Calls Pg 203 #[t0] w R:=by
 refine yD func203 ?_
 exact zr<|zm<|zm<|yN h λ _ w h=>yv h λ _ w h=>yu h λ w h=>yN h λ _ w h=>yv h λ _ w h=>yu h λ w h=>zn<|ZU<|Z1 rfl h
def OB (a b:Vl) (R:RT) (w:Wd):Prop:=
 F0 48 b 6 R w λ c w=>
 L0 3 c R w λ d w=>
 opV Pg (buildSlice 30 1 #[(0,d)]) (Zh R) w λ e w=>
 C0 196 #[a,(.int .i64 0),(.int .i64 1048576),e] R w λ f w=>
 R (.returned (.tuple #[])) w
def Zdg (a c:Vl) (R:RT) (w:Wd):Prop:=
 opV Pg (Instr.box 48 c) (Zh R) w λ b w=>
 F0 48 b 5 R w λ d w=>
 L0 3 d R w λ e w=>
 opV Pg (buildSlice 30 1 #[(0,e)]) (Zh R) w λ f w=>
 C0 196 #[a,(.int .i64 0),(.int .i64 255),f] R w λ g w=>
 OB a b R w
theorem Zdh {t0 t1:Vl} {R:RT} {w:Wd} (h:Zdg t0 t1 R w):Calls Pg 204 #[t0,t1] w R:=by
 refine yD func204 ?_
 refine zs<|zr<|yv h λ _ w h=>zn<|zk<|zs<|zr<|zm<|yv h λ _ w h=>yv h λ _ w h=>yS h λ _ w h=>yc h Dg λ _ w h=>zn<|zk<|zr ?_
 exact zm<|yv h λ _ w h=>yv h λ _ w h=>yS h λ _ w h=>yc h Dg λ _ w h=>zn<|ZU<|Z1 rfl h
def n80 (a:Vl) (R:RT) (w:Wd):Prop:=
 opN Pg (Xb a) (Zh R) w λ b w=>
 F0 48 b 4 R w λ c w=>
 opU Pg (storeAt 4 c (.bool false)) (Zh R) w λ w=>
 opN Pg (Xb a) (Zh R) w λ d w=>
 F0 48 d 6 R w λ e w=>
 opU Pg (storeAt 3 e (.int .i64 0)) (Zh R) w λ w=>
 R (.returned (.tuple #[])) w
theorem ZiX {t0:Vl} {R:RT} {w:Wd} (h:n80 t0 R w):Calls Pg 205 #[t0] w R:=by
 refine yD func205 ?_
 exact zr<|zm<|zm<|yN h λ _ w h=>yv h λ _ w h=>yu h λ w h=>yN h λ _ w h=>yv h λ _ w h=>yu h λ w h=>zn<|ZU<|Z1 rfl h
def n81 (a b:Vl) (R:RT) (w:Wd):Prop:=
 opV Pg (Instr.box 48 b) (Zh R) w λ c w=>
 F0 48 c 6 R w λ d w=>
 L0 3 d R w λ e w=>
 opV Pg (buildSlice 30 1 #[(0,e)]) (Zh R) w λ f w=>
 C0 196 #[a,(.int .i64 2),(.int .i64 1048576),f] R w λ g w=>
 R (.returned (.tuple #[])) w
theorem ZiY {t0 t1:Vl} {R:RT} {w:Wd} (h:n81 t0 t1 R w):Calls Pg 206 #[t0,t1] w R:=by
 refine yD func206 ?_
 exact zs<|zr<|yv h λ _ w h=>zn<|zk<|zr<|zm<|yv h λ _ w h=>yv h λ _ w h=>yS h λ _ w h=>yc h Dg λ _ w h=>zn<|ZU<|Z1 rfl h
def n82 (a:Vl) (R:RT) (w:Wd):Prop:=
 opV Pg (Instr.build 45 #[]) (Zh R) w λ b w=>
 opN Pg (Xb a) (Zh R) w λ c w=>
 F0 48 c 8 R w λ d w=>
 opU Pg (storeAt 9 d (.string { data := #[] })) (Zh R) w λ w=>
 opN Pg (Xb a) (Zh R) w λ e w=>
 F0 48 e 7 R w λ f w=>
 S0 45 f b R w λ w=>
 R (.returned (.tuple #[])) w
theorem ZiZ {t0:Vl} {R:RT} {w:Wd} (h:n82 t0 R w):Calls Pg 207 #[t0] w R:=by
 refine yD func207 ?_
 exact zr<|zm<|zm<|yB h λ _ w h=>yN h λ _ w h=>yv h λ _ w h=>yu h λ w h=>yN h λ _ w h=>yv h λ _ w h=>yu h λ w h=>zn<|ZU<|Z1 rfl h
def n83 (a c:Vl) (R:RT) (w:Wd):Prop:=
 opV Pg (Instr.box 48 c) (Zh R) w λ b w=>
 F0 48 b 8 R w λ d w=>
 L0 9 d R w λ e w=>
 C0 209 #[a,e] R w λ g w=>
 L0 48 b R w λ f w=>
 C0 202 #[a,f] R w λ h w=>
 R (.returned (.tuple #[])) w
theorem Zi0 {t0 t1:Vl} {R:RT} {w:Wd} (h:n83 t0 t1 R w):Calls Pg 208 #[t0,t1] w R:=by
 refine yD func208 ?_
 refine zs<|zr<|yv h λ _ w h=>zn<|zk<|zs<|zr<|zm<|yv h λ _ w h=>yv h λ _ w h=>yc h ZbP λ _ w h=>zn<|zk<|zr<|zm ?_
 exact yv h λ _ w h=>yc h ZbO λ _ w h=>zn<|ZU<|Z1 rfl h
def n71 (a c:Vl) (R:RT) (w:Wd):Prop:=
 opN Pg (Xb a) (Zh R) w λ d w=>
 F0 164 d 1 R w λ e w=>
 L0 161 e R w λ f w=>
 opV Pg (Instr.lookup 161 f c true) (Zh R) w λ b w=>
 E0 b 0 R w λ h w=>
 E0 b 1 R w λ g w=>
 C0 122 #[a,g,(.int .i64 8)] R w λ i w=>
 R (.returned (.tuple #[])) w
theorem ZiP {t0 t1:Vl} {R:RT} {w:Wd} (h:n71 t0 t1 R w):Calls Pg 209 #[t0,t1] w R:=by
 refine yD func209 ?_
 refine zs<|zr<|zm<|yN h λ _ w h=>yv h λ _ w h=>yv h λ _ w h=>zm<|yv h λ _ w h=>zm<|yv h λ _ w h=>yv h λ _ w h=>zm<|zm<|zn<|zk ?_
 exact zr<|zm<|zm<|yc h UZ λ _ w h=>zn<|ZU<|Z1 rfl h
def n84 (a:Vl) (R:RT) (w:Wd):Prop:=
 opN Pg (Xb a) (Zh R) w λ b w=>
 F0 48 b 8 R w λ c w=>
 opU Pg (storeAt 9 c (.string { data := #[] })) (Zh R) w λ w=>
 R (.returned (.tuple #[])) w
theorem Zi1 {t0:Vl} {R:RT} {w:Wd} (h:n84 t0 R w):Calls Pg 210 #[t0] w R:=by
 refine yD func210 ?_
 exact zr<|zm<|yN h λ _ w h=>yv h λ _ w h=>yu h λ w h=>zn<|ZU<|Z1 rfl h
def n85 (a b:Vl) (R:RT) (w:Wd):Prop:=
 opV Pg (Instr.box 48 b) (Zh R) w λ c w=>
 F0 48 c 8 R w λ d w=>
 L0 9 d R w λ e w=>
 C0 209 #[a,e] R w λ f w=>
 R (.returned (.tuple #[])) w
theorem Zi2 {t0 t1:Vl} {R:RT} {w:Wd} (h:n85 t0 t1 R w):Calls Pg 211 #[t0,t1] w R:=by
 refine yD func211 ?_
 exact zs<|zr<|yv h λ _ w h=>zn<|zk<|zr<|zm<|yv h λ _ w h=>yv h λ _ w h=>yc h ZbP λ _ w h=>zn<|ZU<|Z1 rfl h
def n86 (a:Vl) (R:RT) (w:Wd):Prop:=
 opN Pg (Xb a) (Zh R) w λ b w=>
 F0 48 b 9 R w λ c w=>
 opU Pg (storeAt 9 c (.string { data := #[] })) (Zh R) w λ w=>
 opN Pg (Xb a) (Zh R) w λ d w=>
 F0 48 d 11 R w λ e w=>
 opU Pg (storeAt 46 e (Value.slice none 0 0)) (Zh R) w λ w=>
 R (.returned (.tuple #[])) w
theorem Zi3 {t0:Vl} {R:RT} {w:Wd} (h:n86 t0 R w):Calls Pg 212 #[t0] w R:=by
 refine yD func212 ?_
 exact zr<|zm<|zm<|yN h λ _ w h=>yv h λ _ w h=>yu h λ w h=>yN h λ _ w h=>yv h λ _ w h=>yu h λ w h=>zn<|ZU<|Z1 rfl h
def Cz (a b:Vl) (Xs:KW) (R:RT) (w:Wd):Prop:=
 F0 60 a 1 R w λ c w=>
 L0 3 c R w λ d w=>
 B0 .add 3 true d (.int .i64 1) R w λ e w=>
 B0 .add 3 true b (.int .i64 1) R w λ f w=>
 Xs e f w
def CA (b a c:Vl) (Xs:KW) (R:RT) (w:Wd):Prop:=
 F0 60 a 2 R w λ d w=>
 L0 9 d R w λ e w=>
 C0 209 #[b,e] R w λ f w=>
 Cz a c Xs R w
def CB (b d e f c:Vl) (Xs:KW) (R:RT) (w:Wd):Prop:=
 X0 46 f c R w λ g w=>
 L0 60 g R w λ h w=>
 opV Pg (Instr.alloc 60 true (.tuple #[])) (Zh R) w λ a w=>
 S0 60 a h R w λ w=>
 F0 74 d 1 R w λ i w=>
 L0 3 i R w λ j w=>
 F0 60 a 0 R w λ k w=>
 L0 3 k R w λ l w=>
 F0 60 a 1 R w λ m w=>
 L0 3 m R w λ n w=>
 opV Pg (buildSlice 30 2 #[(0,l),(1,n)]) (Zh R) w λ o w=>
 C0 196 #[b,e,j,o] R w λ p w=>
 CA b a c Xs R w
def AW (d e a:Vl) (R:RT) (w:Wd):Prop:=
 F0 74 a 0 R w λ f w=>
 L0 3 f R w λ g w=>
 F0 48 e 11 R w λ h w=>
 L0 46 h R w λ b w=>
 G0 46 3 b R w λ i w=>
 Qi (λ j c w Xs=>
 B0 .lss 3 false c i R w λ k w=>
 Zq k (
 CB d a j b c Xs R w) (
 R (.returned (.tuple #[])) w)) g (.int .i64 0) w
def AX (c a f:Vl) (R:RT) (w:Wd):Prop:=
 F0 48 a 11 R w λ g w=>
 L0 46 g R w λ h w=>
 G0 46 3 h R w λ i w=>
 B0 .geq 3 true i (.int .i64 1) R w λ d w=>
 Zr (λ (b:Vl) (w:Wd)=>
 Zw d b (.bool false) λ j=>
 C0 122 #[c,j,(.int .i64 3)] R w λ n w=>
 AW c a f R w) λ e=>
 Zn d true (
 F0 48 a 11 R w λ k w=>
 L0 46 k R w λ l w=>
 G0 46 3 l R w λ m w=>
 B0 .leq 3 true m (.int .i64 40) R w λ b w=>
 e b w) (
 e undef w)
def AY (b e f c g:Vl) (R:RT) (w:Wd):Prop:=
 Zr (λ (a:Vl) (w:Wd)=>
 Zw c a (.bool false) λ h=>
 C0 122 #[b,h,(.int .i64 8)] R w λ i w=>
 AX b e f R w) λ d=>
 Zn c true (
 N0 g R w λ a w=>
 d a w) (
 d undef w)
def JT (a b c d:Vl) (R:RT) (w:Wd):Prop:=
 C0 184 #[a] R w λ e w=>
 opV Pg (makeFunc (.func 227) #[] #[b]) (Zh R) w λ f w=>
 C0 226 #[e,f] R w λ g w=>
 AY a b c d g R w
def AZ (d e:Vl) (a:WPr) (f:KW) (R:RT) (w:Wd):Prop:=
 qV Pg a (Instr.lookup 122 d e true) λ b=>
 qV Pg a (Instr.extract b 0) λ g=>
 qV Pg a (Instr.extract b 1) λ h=>
 opV Pg (Instr.alloc 74 true (.tuple #[])) (Zh R) w λ c w=>
 a w∧(
 S0 74 c g R w λ w=>
 a w∧(
 f c h w))
def yO (b d e:Vl) (a:WPr) (f:KW) (R:RT) (w:Wd):Prop:=
 qV Pg a (Instr.lookup 122 d e true) λ c=>
 qV Pg a (Instr.extract c 0) λ g=>
 qV Pg a (Instr.extract c 1) λ h=>
 S0 74 b g R w λ w=>
 a w∧(
 f b h w)
def zg (c d:Vl) (a:WPr) (e:KW) (R:RT) (w:Wd):Prop:=
 (
 C0 224 #[c] R w λ b w=>
 Wz a w λ f w=>
 AZ b d f e R w)∧(
 opV Pg (Instr.alloc 74 true (.tuple #[])) (Zh R) w λ g w=>
 a w∧(
 C0 224 #[c] R w λ b w=>
 Wz a w λ h w=>
 yO g b d h e R w))
def qe (b d e:Vl) (a:WPr) (f:KW) (R:RT) (w:Wd):Prop:=
 qV Pg a (Instr.lookup 122 d e true) λ c=>
 qV Pg a (Instr.extract c 0) λ g=>
 qV Pg a (Instr.extract c 1) λ h=>
 S0 74 b g R w λ w=>
 a w∧(
 f b h w)
def zh (a b c:Vl) (d:WPr) (e:KW) (R:RT) (w:Wd):Prop:=
 C0 184 #[a] R w λ f w=>
 Wz d w λ g w=>
 C0 224 #[f] R w λ h w=>
 Wz g w λ i w=>
 qe b h c i e R w
def zl (b d:Vl) (a:WPr) (R:RT) (w:Wd):Prop:=
 J0 48 d 9 a λ g=>
 I0 9 g a λ e=>
 Zr (λ (c:Vl) (h:Vl) (w:Wd)=>
 JT b d c h R w) λ f=>
 (
 C0 184 #[b] R w λ i w=>
 Wz a w λ j w=>
 zg i e j f R w)∧(
 opV Pg (Instr.alloc 74 true (.tuple #[])) (Zh R) w λ c w=>
 a w∧(
 zh b c e a f R w))
def n66 (a b:Vl) (R:RT) (w:Wd):Prop:=
 opV Pg (Instr.box 48 b) (Zh R) w λ c w=>
 Yy w λ d w=>
 zl a c d R w
set_option maxHeartbeats 40000000 in
theorem ZiK {t0 t1:Vl} {R:RT} {w:Wd} (h:n66 t0 t1 R w):Calls Pg 213 #[t0,t1] w R:=by
 refine yD func213 ?_
 refine zs<|zr<|yv h λ _ w h=>zn<|zk<|zs<|yh [4,5,10,11,12,13,14,15,16,17,18] h λ C hC h=>yw 0 hC ?_
 refine ye 3 hC h λ _ h=>?_
 refine ye 4 hC h λ _ h=>?_
 refine VR h (λ K2 hK h=>?_)
 refine UF [4,5,10,12,13,16,17,18] (λ ρ w=>K2 (ρ 4) (ρ 5) w) (λ T hT=>?_) (λ σ w h=>?_)
 · obtain ⟨h0,h1⟩:=h
   refine QV 1 9 rfl rfl (by kernel_rfl) (λ _ _=>rfl) (λ _ _=>rfl) ?_ ?_
   · have h:=h0
     refine yc h Mx λ _ w h=>zn ?_
     obtain ⟨C6,hs,hC,h⟩:=h
     refine ⟨C6,hs,hC,?_⟩
     obtain ⟨h0,h1⟩:=h
     refine QV 2 9 rfl rfl (by kernel_rfl) (λ _ _=>rfl) (λ _ _=>rfl) ?_ ?_
     · have h:=h0
       refine yc h NU λ _ w h=>zn ?_
       obtain ⟨C7,hs,hC,h⟩:=h
       refine ⟨C7,hs,hC,?_⟩
       refine ye 5 hC h λ _ h=>?_
       refine yw 6 hC ?_
       refine ye 7 hC h λ _ h=>?_
       refine ye 8 hC h λ _ h=>?_
       refine yo 9 ?_
       refine yv h λ _ w h=>zn ?_
       obtain ⟨hC,h⟩:=h
       refine ⟨hC,?_⟩
       refine yo 10 ?_
       refine yu h λ w h=>zn ?_
       obtain ⟨hC,h⟩:=h
       refine ⟨hC,?_⟩
       refine yw 11 hC ?_
       refine yz ?_
       exact zt hT h
     have h:=h1
     refine yv h λ _ w h=>zn ?_
     obtain ⟨hC,h⟩:=h
     refine ⟨_,λ _ h=>h,hC,?_⟩
     refine yr 2 ?_
     refine yc h NU λ _ w h=>zn ?_
     obtain ⟨C8,hs,hC,h⟩:=h
     refine ⟨C8,hs,hC,?_⟩
     refine ye 5 hC h λ _ h=>?_
     refine yw 6 hC ?_
     refine ye 7 hC h λ _ h=>?_
     refine ye 8 hC h λ _ h=>?_
     refine yo 10 ?_
     refine yu h λ w h=>zn ?_
     obtain ⟨hC,h⟩:=h
     refine ⟨hC,?_⟩
     refine yw 11 hC ?_
     refine yz ?_
     exact zt hT h
   have h:=h1
   refine yv h λ _ w h=>zn ?_
   obtain ⟨hC,h⟩:=h
   refine ⟨_,λ _ h=>h,hC,?_⟩
   refine yr 1 ?_
   refine yc h Mx λ _ w h=>zn ?_
   obtain ⟨C9,hs,hC,h⟩:=h
   refine ⟨C9,hs,hC,?_⟩
   refine yr 2 ?_
   refine yc h NU λ _ w h=>zn ?_
   obtain ⟨C10,hs,hC,h⟩:=h
   refine ⟨C10,hs,hC,?_⟩
   refine ye 5 hC h λ _ h=>?_
   refine yw 6 hC ?_
   refine ye 7 hC h λ _ h=>?_
   refine ye 8 hC h λ _ h=>?_
   refine yo 10 ?_
   refine yu h λ w h=>zn ?_
   obtain ⟨hC,h⟩:=h
   refine ⟨hC,?_⟩
   refine yw 11 hC ?_
   refine yz ?_
   exact zt hT h
 subst hK
 refine zk<|zs<|zr<|zm<|yc h Mx λ _ w h=>yF h λ _ w h=>yc h ZhF λ _ w h=>zm<|zn<|zk<|zs<|Zu<|yG 3<|zm<|zm ?_
 refine zm<|zn<|yg1 2 2 true [26,27] 27 h (λ _ T hT h=>?_) λ σ w h=>?_
 · refine zm<|yv h λ _ w h=>zn ?_
   exact zt hT h
 refine yG 2<|yp h λ _ h=>yc h UZ λ _ w h=>zn<|ZQ<|zk<|zs<|Zu<|yG 6<|zm<|yv h λ _ w h=>yv h λ _ w h=>yx h λ _ w h=>yb h λ _ w h=>zm ?_
 refine zn<|yg1 4 5 true [36,37,38,39] 39 h (λ _ T hT h=>?_) λ σ w h=>?_
 · refine yv h λ _ w h=>yv h λ _ w h=>yx h λ _ w h=>yb h λ _ w h=>zn ?_
   exact zt hT h
 refine yG 2<|yp h λ _ h=>yc h UZ λ _ w h=>zn<|ZQ<|zk<|zs<|zr<|yv h λ _ w h=>yv h λ _ w h=>zm<|zn<|zk<|zs<|zr ?_
 refine yv h λ _ w h=>yv h λ _ w h=>yx h λ _ w h=>zm<|zn<|zk<|Zj<|yl2 [7,9,47,48,49,50,51,52,53,54,55,56,57,58,59,60,61,62,63,64,65,66,67,68] 7 47 h λ σ w next h=>zs<|zr<|yb h λ _ w h=>zn<|zk<|zs<|yC h (λ h=>?_) λ h=>?_
 · refine Zi<|zk<|zs<|Zj<|zs<|zr<|yv h λ _ w h=>yv h λ _ w h=>yv h λ _ w h=>yu h λ w h=>zn<|zk<|zs<|zr<|zm ?_
   refine zm<|yv h λ _ w h=>yv h λ _ w h=>yv h λ _ w h=>yv h λ _ w h=>yv h λ _ w h=>yv h λ _ w h=>yS h λ _ w h=>yc h Dg λ _ w h=>zn<|zk<|zs<|zr<|zm<|yv h λ _ w h=>?_
   refine yv h λ _ w h=>yc h ZbP λ _ w h=>zn<|zk<|zr<|yv h λ _ w h=>yv h λ _ w h=>yb h λ _ w h=>zm<|zn<|Zg<|zk<|zr<|yb h λ _ w h=>zm ?_
   exact zn<|zk<|⟨rfl,h⟩
 exact ZA<|Zc<|Zc<|Zp<|ZU<|Z1 rfl h
def n87 (a:Vl) (R:RT) (w:Wd):Prop:=
 opN Pg (Xb a) (Zh R) w λ b w=>
 F0 48 b 2 R w λ c w=>
 opU Pg (storeAt 3 c (.int .i64 0)) (Zh R) w λ w=>
 R (.returned (.tuple #[])) w
theorem Zi4 {t0:Vl} {R:RT} {w:Wd} (h:n87 t0 R w):Calls Pg 214 #[t0] w R:=by
 refine yD func214 ?_
 exact zr<|zm<|yN h λ _ w h=>yv h λ _ w h=>yu h λ w h=>zn<|ZU<|Z1 rfl h
def RD (d b e f:Vl) (R:RT) (w:Wd):Prop:=
 Zr (λ (a:Vl) (w:Wd)=>
 Zw b (.bool true) a λ g=>
 C0 122 #[d,g,(.int .i64 6)] R w λ h w=>
 R (.returned (.tuple #[])) w) λ c=>
 Zn b false (
 Zw e f (.bool false) λ a=>
 c a w) (
 c undef w)
def RE (d e f b:Vl) (R:RT) (w:Wd):Prop:=
 Zr (λ (a:Vl) (w:Wd)=>
 RD d f b a R w) λ c=>
 Zn b true (
 F0 48 e 2 R w λ g w=>
 L0 3 g R w λ h w=>
 B0 .rem 3 true h (.int .i64 8) R w λ i w=>
 B0 .eql 3 true i (.int .i64 0) R w λ a w=>
 c a w) (
 c undef w)
def RF (g b c d:Vl) (R:RT) (w:Wd):Prop:=
 Zr (λ (a:Vl) (w:Wd)=>
 Zr (λ (h:Vl) (w:Wd)=>
 RE g b c h R w) λ e=>
 Zn c false (
 Zw d a (.bool false) λ i=>
 e i w) (
 e undef w)) λ f=>
 Zn d true (
 F0 48 b 2 R w λ j w=>
 L0 3 j R w λ k w=>
 B0 .leq 3 true k (.int .i64 512) R w λ a w=>
 f a w) (
 f undef w)
def RG (d a e f:Vl) (R:RT) (w:Wd):Prop:=
 Zw e (.bool true) f λ b=>
 Zr (λ (g:Vl) (w:Wd)=>
 RF d a b g R w) λ c=>
 Zn b false (
 F0 48 a 2 R w λ h w=>
 L0 3 h R w λ i w=>
 B0 .geq 3 true i (.int .i64 8) R w λ j w=>
 c j w) (
 c undef w)
def n88 (e f:Vl) (R:RT) (w:Wd):Prop:=
 opV Pg (Instr.box 48 f) (Zh R) w λ a w=>
 F0 48 a 2 R w λ g w=>
 L0 3 g R w λ h w=>
 B0 .eql 3 true h (.int .i64 2) R w λ c w=>
 Zr (λ (b:Vl) (w:Wd)=>
 RG e a c b R w) λ d=>
 Zn c false (
 F0 48 a 2 R w λ i w=>
 L0 3 i R w λ j w=>
 B0 .eql 3 true j (.int .i64 4) R w λ b w=>
 d b w) (
 d undef w)
theorem Zi5 {t0 t1:Vl} {R:RT} {w:Wd} (h:n88 t0 t1 R w):Calls Pg 215 #[t0,t1] w R:=by
 refine yD func215 ?_
 refine zs<|zr<|yv h λ _ w h=>zn<|zk<|Zu<|yG 5<|zm<|yv h λ _ w h=>yv h λ _ w h=>yb h λ _ w h=>zm<|zn<|yg1 3 4 false [9,10,11] 11 h (λ _ T hT h=>?_) λ σ w h=>?_
 · refine yv h λ _ w h=>yv h λ _ w h=>yb h λ _ w h=>zn ?_
   exact zt hT h
 refine yG 2<|yp h λ _ h=>zm<|zn<|yg1 4 9 false [14,15,16,17] 17 h (λ _ T hT h=>?_) λ σ w h=>?_
 · refine yv h λ _ w h=>yv h λ _ w h=>yb h λ _ w h=>zm<|zn ?_
   exact zt hT h
 refine yg1 3 13 true [18,19,20] 20 h (λ _ T hT h=>?_) λ σ w h=>?_
 · refine yv h λ _ w h=>yv h λ _ w h=>yb h λ _ w h=>zn ?_
   exact zt hT h
 refine yg1 2 9 false [21,22] 22 h (λ _ T hT h=>?_) λ σ w h=>?_
 · refine yp h λ _ h=>zm<|zn ?_
   exact zt hT h
 refine yg1 4 18 true [23,24,25,26] 26 h (λ _ T hT h=>?_) λ σ w h=>?_
 · refine yv h λ _ w h=>yv h λ _ w h=>yb h λ _ w h=>yb h λ _ w h=>zn ?_
   exact zt hT h
 refine yg1 1 9 false [27] 27 h (λ _ T hT h=>?_) λ σ w h=>?_
 · refine yp h λ _ h=>zn ?_
   exact zt hT h
 exact yG 2<|yp h λ _ h=>yc h UZ λ _ w h=>zn<|ZQ<|ZU<|Z1 rfl h
def n89 (a:Vl) (R:RT) (w:Wd):Prop:=
 opN Pg (Xb a) (Zh R) w λ b w=>
 F0 48 b 10 R w λ c w=>
 opU Pg (storeAt 9 c (.string { data := #[] })) (Zh R) w λ w=>
 opN Pg (Xb a) (Zh R) w λ d w=>
 F0 48 d 12 R w λ e w=>
 opU Pg (storeAt 3 e (.int .i64 0)) (Zh R) w λ w=>
 R (.returned (.tuple #[])) w
theorem Zi6 {t0:Vl} {R:RT} {w:Wd} (h:n89 t0 R w):Calls Pg 216 #[t0] w R:=by
 refine yD func216 ?_
 exact zr<|zm<|zm<|yN h λ _ w h=>yv h λ _ w h=>yu h λ w h=>yN h λ _ w h=>yv h λ _ w h=>yu h λ w h=>zn<|ZU<|Z1 rfl h
abbrev KI (a f c:Int):Vl := .agg #[.int .i64 a,.int .i64 f,.int .i64 c]
def XE (a f c:Int):PanicEntry:={ v := .iface 90 (KI a f c),recovered:=false }
def QF (w:Wd) (a f c:Int):Ending→Wd→Prop:=λ e w'=>Ext w w'∧(c=0∧e = .returned (.tuple #[])∨c≠0∧e = .panicked [XE a f c])
theorem ZY {f:FuncId} {args:AVl} {QP:PEn} {w:Wd} {k:KV} {a fl c:Int} (h:Calls Pg f args w (QF w a fl c)) (hk:∀ w',Ext w w'→c=0→k (.tuple #[]) w') (hp:∀ w',Ext w w'→c≠0→QP [XE a fl c] w'):Yt Pg f args QP w k:=
 qy h (λ v w' h=>by rcases h with ⟨e,⟨h1,h2⟩ | ⟨_,h2⟩⟩<;>cases h2;exact hk w' e h1) (λ ch w' h=>by rcases h with ⟨e,⟨_,h2⟩ | ⟨h1,h2⟩⟩<;>cases h2;exact hp w' e h1) (λ w' h=>by rcases h with ⟨_,⟨_,h2⟩ | ⟨_,h2⟩⟩<;>cases h2)
theorem Xq {w w':Wd} {a f c:Int} (e:Ext w w') (h:c=0):QF w a f c (.returned (.tuple #[])) w':=⟨e,.inl ⟨h,rfl⟩⟩
theorem Yu {w w':Wd} {a f c c':Int} (e:Ext w w') (h:c=c') (h0:c'≠0):Zh (QF w a f c) [XE a f c'] w':=⟨e,.inr ⟨by rw [h];exact h0,by rw [h]⟩⟩
def orC (a b:Int):Int:=if a=0 then b else a
theorem Y8 (b:Int):orC 0 b=b:=rfl
theorem Wc {a b:Int} (h:a≠0):orC a b=a:=by unfold orC;rw [if_neg h]
def Yj (b:Bool) (c:Int):Int:=if b then 0 else c
structure Chk (w:Wd) (cb md ms:Nat) (deps:List (BAr×Vl)) (strs:List (BAr×Vl)) (at_ fld:Int) (fs:List Zl):Prop where
 obj:∃ dn mv ds mn fv,w.heap[cb]?=some (.cells #[.string dn,mv,.string ds,.map (some md),.map (some ms),.int .i64 at_,.int .i64 fld,.string mn,fv] 164 (0,0))∧Yq w fv fs
 mdeps:Yr w md deps
 mstrs:Yr w ms strs
 dint:∀ k v,Yz deps k=some v→∃ n,v = .int .i64 n
 sbool:∀ k v,Yz strs k=some v→∃ b,v = .bool b
def Ei (strs:List (BAr×Vl)) (s:BAr):Bool:=match Yz strs s with
 | some (.bool b)=>b
 | _=>false
theorem Chk.strV {w:Wd} {cb md ms:Nat} {deps strs:List (BAr×Vl)} {at_ fld:Int} {fs:List Zl} (h:Chk w cb md ms deps strs at_ fld fs) (s:BAr):(Yz strs s).getD (.bool false) = .bool (Ei strs s):=by
 unfold Ei
 cases hl:Yz strs s with
 | none=>rfl
 | some v=>obtain ⟨b,rfl⟩:=h.sbool s v hl;rfl
theorem Chk.ext {w w':Wd} {cb md ms:Nat} {deps strs:List (BAr×Vl)} {at_ fld:Int} {fs:List Zl} (h:Chk w cb md ms deps strs at_ fld fs) (e:Ext w w'):Chk w' cb md ms deps strs at_ fld fs:=by
 obtain ⟨⟨dn,mv,ds,mn,fv,h1,h2⟩,h3,h4,h5,h6⟩:=h
 exact ⟨⟨dn,mv,ds,mn,fv,e.obj h1,h2.ext e⟩,h3.ext e,h4.ext e,h5,h6⟩
section
variable {w0:Wd} {cb md ms:Nat} {deps strs:List (BAr×Vl)} {at_ fld:Int} {fs:List Zl}
theorem YU (h:Chk w0 cb md ms deps strs at_ fld fs) (b:Bool) (c:Int) (hc:c≠0):Calls Pg 122 #[.pointer (some ⟨cb,0,none⟩),.bool b,.int .i64 c] w0 (QF w0 at_ fld (Yj b c)):=by
 obtain ⟨⟨dn,mv,ds,mn,fv,h1,h2⟩,h3,h4,h5,h6⟩:=h
 refine ZiN ?_;unfold n69
 cases b with
 | true=>
  simp (disch:=try exact DI) only [↓PR,QR,simprocAttr,↓LL]
  exact Xq (Ext.refl _) rfl
 | false=>
  simp (disch:=try exact DI) only [↓PR,QR,simprocAttr,↓LL]
  refine Zy ?_
  simp (disch:=try exact DI) only [↓PR,QR,simprocAttr,↓LL,(Za h1).1]
  rw [R1]
  exact Yu (Ext.refl _).drew rfl hc
theorem VP (h:Chk w0 cb md ms deps strs at_ fld fs) (i:Nat) (hi:fld=i) (Yv:i < fs.length):Ret Pg 184 #[.pointer (some ⟨cb,0,none⟩)] w0 λ r w'=>Yq w' r (fs.take i)∧Ext w0 w':=by
 obtain ⟨⟨dn,mv,ds,mn,fv,h1,h2⟩,h3,h4,h5,h6⟩:=h
 obtain ⟨A,c,rfl,hlc,hcm,hlm,Y3⟩:=Zd.open h2
 obtain ⟨x,hx⟩:=getElem?_lt Yv
 obtain ⟨b,o,_,rfl,_⟩:=Y3 i x hx
 subst hi
 refine ZiI (R:=ZO _) ?_;unfold n64
 refine Zy ?_
 simp (disch:=try exact DI) only [↓PR,QR,simprocAttr,↓Zbc,(Za h1).1]
 rw [YO λ QP w' k=>Bi underlying22 V2 b o fs.length c .i64 i (by omega)]
 simp (disch:=try exact DI) only [↓PR,QR,simprocAttr]
 refine ⟨?_,ee⟩
 have Xl:(fs.take i).length=i:=by rw [List.length_take];omega
 refine ⟨_,c,by rw [Xl],by rw [Xl];omega,hcm,λ _=>⟨b,o,rfl,λ k y hy=>?_⟩⟩
 rw [List.getElem?_take] at hy
 split at hy
 · obtain ⟨b',o',cs,hA,hl,hA2,hE⟩:=Y3 k y hy
   injection hA with hA
   injection hA with h5 h6
   subst h5 h6
   have e:Ext w0 (drew w0):=(Ext.refl w0).drew
   exact ⟨cs,hl,hA2.ext e,xL _ _ _ _ e hE⟩
 · cases hy
theorem qo (h:Chk w0 cb md ms deps strs at_ fld fs) (s:BAr):Calls Pg 209 #[.pointer (some ⟨cb,0,none⟩),.string s] w0 (QF w0 at_ fld (Yj (Yz deps s).isSome 8)):=by
 have h':=h
 obtain ⟨⟨dn,mv,ds,mn,fv,h1,h2⟩,h3,h4,h5,h6⟩:=h
 refine ZiP ?_;unfold n71
 simp (disch:=try exact DI) only [↓PR,QR,simprocAttr,Sw.joinK_eq,(Za h1).1]
 rw [UT underlying161 underlying9 ty3 h3]
 simp (disch:=try exact DI) only [↓PR,QR,simprocAttr]
 refine ZY (YU h' _ 8 (by decide)) (λ w' e h0=>?_) (λ w' e h0=>?_)
 · exact Xq e h0
 · exact Yu e rfl h0
def Z2 (high:Int):Int→List Int→Int
 | _,[]=>0
 | low,n::l=>orC (Yj (decide (low≤n)&&decide (n≤high)) 7) (Z2 high n l)
def UG (w:Wd) (v:Vl) (l:List Int):Prop:=Zd w 1 Mp v l
theorem Cg {w:Wd} {p:Nat} (hp:p=w.heap.size) (a:Int) (T:TypeId):UG (w.alloc (.cells #[.int .i64 a] T)) (.slice (some ⟨p,0,none⟩) 1 1) [a]:=by
 subst hp;exact Zd.new1 (E:=Mp) (λ n:Int => .int .i64 n) (λ _ _=>rfl) w [a] T (by simp)
theorem Ol {w:Wd} {p:Nat} (hp:p=w.heap.size) (a b:Int) (T:TypeId):UG (w.alloc (.cells #[.int .i64 a,.int .i64 b] T)) (.slice (some ⟨p,0,none⟩) 2 2) [a,b]:=by
 subst hp;exact Zd.new1 (E:=Mp) (λ n:Int => .int .i64 n) (λ _ _=>rfl) w [a,b] T (by simp)
theorem QW (h:Chk w0 cb md ms deps strs at_ fld fs) (low high:Int) (v:Vl) (l:List Int) (hs:UG w0 v l):Calls Pg 196 #[.pointer (some ⟨cb,0,none⟩),.int .i64 low,.int .i64 high,v] w0 (QF w0 at_ fld (Z2 high low l)):=by
 obtain ⟨A,c,rfl,hlc,hcm,hlm,Y3⟩:=Zd.open hs
 refine ZiR ?_;unfold n73
 simp (disch:=try exact DI) only [↓PR,QR,simprocAttr]
 refine Yn (λ a0 a1 w=>∃ (k:Nat) (n:Int),a0 = .int .i64 n∧a1 = .int .i64 (k:Int)∧k≤l.length∧Ext w0 w∧Z2 high n (l.drop k)=Z2 high low l) (λ a0 a1 _=>l.length - (intOf a1).toNat) ⟨0,low,rfl,rfl,Nat.zero_le _,ee,rfl⟩ ?_
 rintro _ _ w ⟨k,n,rfl,rfl,hk,e,hI⟩
 have se:=e.size
 rcases ZD hk with ⟨x,hx,hd,Yv,ZJ⟩ | ⟨hk,hd,ZJ⟩
 · obtain ⟨b,o,cs,rfl,hl,hA,rfl⟩:=Y3 k x hx
   rw [hd] at hI
   simp only [Z2] at hI
   simp (disch:=try exact DI) only [↓PR,QR,simprocAttr,↓LN,↓LO,ZJ,hA.c1]
   refine ZY (YU (h.ext e) _ 7 (by decide)) (λ w' e1 h0=>?_) (λ w' e1 h0=>?_)
   · rw [h0,Y8] at hI
     simp (disch:=try exact DI) only [↓PR,QR,simprocAttr,↓LN,↓LO]
     exact ⟨⟨k+1,_,rfl,rfl,by omega,ee,hI⟩,ZM (kd := .i64) Yv⟩
   · rw [Wc h0] at hI
     exact Yu (e.trans e1) hI.symm h0
 · subst hk
   simp (disch:=try exact DI) only [↓PR,QR,simprocAttr,↓LN,↓LO,ZJ]
   rw [hd] at hI
   exact Xq e hI.symm
def Xo (f:Zl):Bool:=decide (1≤f.bits)&&decide (f.bits≤32)&&(!f.little||(decide (8 < f.bits)&&(f.bits.tmod 8 == 0)))
theorem Ev (h:Chk w0 cb md ms deps strs at_ fld fs) (v:Vl) (f:Zl) (hf:Yh w0 v f):Calls Pg 195 #[.pointer (some ⟨cb,0,none⟩),v] w0 (QF w0 at_ fld (Yj (Xo f) 6)):=by
 obtain ⟨tv,cv,rfl,hT,hC,ht1,hc1⟩:=hf.op
 refine ZiJ ?_;unfold n65
 simp (disch:=try exact DI) only [↓PR,QR,simprocAttr,↓Re,↓Rf,↓Rg,↓Rh]
 have e0:Ext w0 (w0.alloc (Obj.cells (Zm f tv cv).toArray 48)):=ee
 have fin:∀ b,b=Xo f→Yt Pg 122 #[.pointer (some ⟨cb,0,none⟩),.bool b,.int .i64 6] (Zh (QF w0 at_ fld (Yj (Xo f) 6))) (w0.alloc (Obj.cells (Zm f tv cv).toArray 48)) (λ _ w=>QF w0 at_ fld (Yj (Xo f) 6) (.returned (.tuple #[])) w):=by
  rintro b rfl
  exact ZY (YU (h.ext e0) _ 6 (by decide)) (λ w' e1 h0=>Xq (e0.trans e1) h0) (λ w' e1 h0=>Yu (e0.trans e1) rfl h0)
 unfold Xo at fin ⊢
 generalize decide (1≤f.bits)=b1 at fin ⊢
 generalize decide (f.bits≤32)=b2 at fin ⊢
 generalize f.little=b3 at fin ⊢
 generalize decide (8 < f.bits)=b4 at fin ⊢
 generalize (f.bits.tmod 8 == 0)=b5 at fin ⊢
 cases b1<;>cases b2<;>cases b3<;>cases b4<;>cases b5<;>simp (disch:=try exact DI) only [↓PR,QR,simprocAttr,↓Re,↓Rf,↓Rg,↓Rh]<;>exact fin _ rfl
def Wn (rp:List (BAr×Int×Int)):List Z3→Int
 | []=>0
 | t::ts=>orC (Yj (Ym rp t.field).isSome 8) (Wn rp ts)
def HO (base:Int) (ts:List Z3) (rp:List (BAr×Int×Int)):Bool:=(YR base ts rp == 0)&&decide (0≤Y5 base ts rp)&&decide (Y4 base ts rp≤1048576)
def Qz (rp:List (BAr×Int×Int)) (f:Zl):Int:=orC (Yj (WO f.base f.terms) 9) (orC (Wn rp f.terms) (Yj (HO f.base f.terms rp) 9))
theorem qt (h:Chk w0 cb md ms deps strs at_ fld fs) (i:Nat) (hi:fld=i) (Yv:i < fs.length) (v:Vl) (f:Zl) (hf:Yh w0 v f) (ht:f.terms.length≤1048576) :
 Calls Pg 202 #[.pointer (some ⟨cb,0,none⟩),v] w0 (QF w0 at_ fld (Qz (YD (fs.take i)) f)):=by
 obtain ⟨tv,cv,rfl,hT,hC,ht1,hc1⟩:=hf.op
 refine ZiQ ?_;unfold n72
 simp (disch:=try exact DI) only [↓PR,QR,simprocAttr,↓JU,↓JV,↓JW,↓Jj,↓Jk,↓JX,↓JY,↓JZ]
 generalize hW:World.alloc (World.alloc w0 _) _=W
 have e0:Ext w0 W:=by rw [← hW];exact ee
 have o2:W.heap[w0.heap.size]?=some (.cells #[.pointer (some ⟨cb,0,none⟩)] 140 (0,0)):=by rw [← hW];simp (disch:=try exact DI) only [↓PR,QR,simprocAttr]
 have o3:W.heap[w0.heap.size+1]?=some (.cells (Zm f tv cv).toArray 48 (0,0)):=by rw [← hW];simp (disch:=try exact DI) only [↓PR,QR,simprocAttr]
 clear hW
 simp only [World.size_alloc]
 refine Zy ?_
 simp (disch:=try exact DI) only [↓PR,QR,simprocAttr,↓JU,↓JV,↓JW,↓Jj,↓Jk,↓JX,↓JY,↓JZ,(Za o2).1,(Za o3).1]
 refine zcr (xx _ _ f.base f.terms ⟨tv,rfl,ZV.ext hT ee⟩) λ w1 e1=>?_
 refine ⟨e1,?_⟩
 unfold Qz
 refine ZY (YU (h.ext (e0.wdrew.trans e1)) _ 9 (by decide)) (λ w2 e2 h0=>?_) (λ w2 e2 h0=>?_)
 · rw [h0,Y8]
   refine ⟨e1.trans e2,?_⟩
   have e3:Ext W w2:=(Ext.refl W).wdrew.trans (e1.trans e2)
   have hv:WO f.base f.terms=true:=by
    cases hb:WO f.base f.terms with
    | true=>rfl
    | false=>rw [hb] at h0;exact absurd h0 (by decide)
   simp (disch:=try exact DI) only [↓PR,QR,simprocAttr,↓JU,↓JV,↓JW,↓Jj,↓Jk,↓JX,↓JY,↓JZ,(Za (e3.obj o2)).1]
   refine Zs (VP (h.ext (e0.trans e3)) i hi Yv) ?_
   rintro bv w4 ⟨hB,e4⟩
   simp (disch:=try exact DI) only [↓PR,QR,simprocAttr,↓JU,↓JV,↓JW,↓Jj,↓Jk,↓JX,↓JY,↓JZ]
   refine Zs (UV _ _ _ hB) ?_
   rintro _ w5 ⟨m,rfl,hmlo,hM,e5⟩
   rw [Uh] at hM
   have e6:Ext W w5:=e3.trans (e4.trans e5)
   have l3:w0.heap.size+1 < w5.heap.size:=(Array.getElem?_eq_some_iff.1 (e6.obj o3)).1
   simp (disch:=try exact DI) only [↓PR,QR,simprocAttr,↓JU,↓JV,↓JW,↓Jj,↓Jk,↓JX,↓JY,↓JZ,(Za (e6.obj o3)).1]
   have e6':Ext w0 w5:=e0.trans e6
   refine Zs (B7 _ _ f.base f.terms ⟨tv,rfl,ZV.ext hT ee⟩ ht) ?_
   rintro _ w7 ⟨pb,tv2,rfl,hTA,_,e7⟩
   rw [hv,if_pos rfl] at hTA
   have s7:=e7.size
   simp only [World.size_alloc] at s7
   have e8:Ext W w7:=ee
   have p4:w7.heap[w5.heap.size]?=some (.cells #[.map (some m)] 122 (0,0)):=by simp (disch:=try exact DI) only [↓PR,QR,simprocAttr,e7.heapQ]
   have hM7:Yr w7 m (RP (YD (fs.take i))):=hM.ext (((Ext.refl _).alloc _).trans e7)
   have h7:Chk w7 cb md ms deps strs at_ fld fs:=h.ext (e0.trans e8)
   have o2':=e8.obj o2
   have o3':=e8.obj o3
   have e07:Ext w0 w7:=e0.trans e8
   clear e7 e6 e5 e4 e3 e2 e1 hM hB hmlo s7 l3 o2 o3 e8 e6'
   unfold Jk
   have hLI:∀ k,Yd w7.heap.size (λ w=>Ext w7 w∧Wn (YD (fs.take i)) (f.terms.drop k)=Wn (YD (fs.take i)) f.terms):=λ k=>Yd.and (Yd.from (Nat.le_refl _)) (Yd.const _ _)
   refine ⟨_,_,f.terms.length,KX f.terms,λ w=>Wf w pb tv2 f.terms,λ k w=>Ext w7 w∧Wn (YD (fs.take i)) (f.terms.drop k)=Wn (YD (fs.take i)) f.terms,λ _ _=>False,
    λ ch w=>Ext w7 w∧∃ c,c≠0∧ch=[XE at_ fld c]∧Wn (YD (fs.take i)) f.terms=c,rfl,Zda,B8 pb tv2 f.terms,⟨Ext.refl _,rfl⟩,λ k w h=>hTA.ext h.1,hLI,λ _=>Yd.const _ _,?_,?_,?_,?_⟩
   · intro rec j w3 hj hI3 hrec hready
     refine ⟨hready,λ w4 hbz=>?_⟩
     have hrec4:=hrec.busied hbz
     obtain ⟨e4,hF⟩:=(hLI j).busied hbz (Nat.le_succ _) hI3
     clear hI3 hrec hready hbz
     obtain ⟨t,hx⟩:=getElem?_lt hj
     rw [show KX f.terms j = .string t.field by unfold KX;rw [hx]]
     have hd:f.terms.drop j=t::f.terms.drop (j+1):=by
      rw [List.drop_eq_getElem_cons hj]
      congr 1
      exact (List.getElem?_eq_some_iff.1 hx).2
     rw [hd] at hF
     simp only [Wn] at hF
     have o2:=e4.obj o2'
     have l2:w0.heap.size < w4.heap.size:=(Array.getElem?_eq_some_iff.1 o2).1
     simp (disch:=try exact DI) only [↓PR,QR,simprocAttr,↓JU,↓JV,↓JW,↓Jj,↓Jk,↓JX,↓JY,↓JZ,(Za (e4.obj p4)).1]
     rw [UT underlying122 underlying9 UY (hM7.ext e4),Qg]
     have fin:∀ w5 b,Ext w4 w5→b=(Ym (YD (fs.take i)) t.field).isSome→Yt Pg 122 #[.pointer (some ⟨cb,0,none⟩),.bool b,.int .i64 8] (λ ch w''=>Xc rec w7.heap.size w''∧Ext w7 w''∧∃ c,c≠0∧ch=[XE at_ fld c]∧Wn (YD (fs.take i)) f.terms=c) w5 (λ _ w''=>Xc rec w7.heap.size w''∧Ext w7 w''∧Wn (YD (fs.take i)) (f.terms.drop (j+1))=Wn (YD (fs.take i)) f.terms):=by
      rintro w5 b e5 rfl
      refine ZY (YU (h7.ext (e4.trans e5)) _ 8 (by decide)) (λ w6 e6 h0=>?_) (λ w6 e6 h0=>?_)
      · rw [h0,Y8] at hF
        exact ⟨hrec4.ext (e5.trans e6),e4.trans (e5.trans e6),hF⟩
      · rw [Wc h0] at hF
        exact ⟨hrec4.ext (e5.trans e6),e4.trans (e5.trans e6),_,h0,rfl,hF.symm⟩
     cases hl:Ym (YD (fs.take i)) t.field with
     | none=>
      rw [hl] at fin
      simp (disch:=try exact DI) only [↓PR,QR,simprocAttr,↓JU,↓JV,↓JW,↓Jj,↓Jk,↓JX,↓JY,↓JZ,(Za o2).1,Option.map_none]
      exact fin _ _ ee rfl
     | some q=>
      obtain ⟨lo,hi⟩:=q
      rw [hl] at fin
      simp (disch:=try exact DI) only [↓PR,QR,simprocAttr,↓JU,↓JV,↓JW,↓Jj,↓Jk,↓JX,↓JY,↓JZ,(Za o2).1,Zv]
      exact fin _ _ ee rfl
   · rintro w3 ⟨e3,hF⟩ hmk
     rw [List.drop_length] at hF
     have l7:w7.heap.size < w3.heap.size:=(Array.getElem?_eq_some_iff.1 hmk).1
     rw [← hF]
     show Jj _ _ _ _ (QF w0 at_ fld (orC 0 _)) w3
     rw [Y8]
     simp (disch:=try exact DI) only [↓PR,QR,simprocAttr,↓JU,↓JV,↓JW,↓Jj,↓Jk,↓JX,↓JY,↓JZ,(Za (e3.obj o3')).1,(Za (e3.obj p4)).1]
     refine zcr (zQ _ _ f.base f.terms m _ ⟨tv,rfl,ZV.ext hT (e07.trans e3)⟩ ht (hM7.ext e3)) λ w4 e4=>?_
     have s4:=e4.size
     have o2:=(e3.trans e4).obj o2'
     have l2:w0.heap.size < w4.heap.size:=(Array.getElem?_eq_some_iff.1 o2).1
     simp (disch:=try exact DI) only [↓PR,QR,simprocAttr,↓JU,↓JV,↓JW,↓Jj,↓Jk,↓JX,↓JY,↓JZ,(Za o2).1,Zv]
     have e5:Ext w3 (w4.alloc (Obj.cells #[.int .i64 (Y5 f.base f.terms (YD (fs.take i))),.int .i64 (Y4 f.base f.terms (YD (fs.take i)))] 74)):=e4.alloc _
     have s07:=e07.size
     refine ZY (YU (h7.ext (e3.trans e5)) (HO f.base f.terms (YD (fs.take i))) 9 (by decide)) (λ w6 e6 h0=>?_) (λ w6 e6 h0=>?_)
     · refine V0 (hmk.ext (e5.trans e6)) ?_
       rw [WW]
       exact Xq (((e07.trans e3).trans (e5.trans e6)).putObj (by omega) _) h0
     · refine qj (hmk.ext (e5.trans e6)) ?_
       rw [UU]
       exact Yu (((e07.trans e3).trans (e5.trans e6)).putObj (by omega) _) rfl h0
   · rintro c w3 h
     exact h.elim
   · rintro ch w3 ⟨e3,c,hc,rfl,hF⟩ hmk
     have l7:w7.heap.size < w3.heap.size:=(Array.getElem?_eq_some_iff.1 hmk).1
     rw [hF,Wc hc]
     refine qj hmk ?_
     rw [UU]
     exact Yu (by have:=e07.size;exact ee) rfl hc
 · rw [Wc h0]
   exact Yu (e0.wdrew.trans (e1.trans e2)) rfl h0
end
theorem KC (w0:Wd) (v:Vl) (l:List Zl) (g:FuncId) (caps:AVl) (p:Zl→Bool) (hs:Yq w0 v l) (hg:Callable Pg g) (hc:jW w0 Yh g caps p l) :
 Ret Pg 226 #[v,.func (.func g) #[] caps] w0 λ r w'=>r = .bool (l.any p)∧Ext w0 w':=by
 refine Zed (R:=ZO _) ?_;unfold Zec
 refine Zs (Uu _ _ l g caps p hs hg hc) ?_
 rintro r w' ⟨rfl,e⟩
 simp (disch:=try exact DI) only [↓PR,QR,simprocAttr,Sw.joinK_eq]
 exact ⟨by rw [Qq],e⟩
def WB (tag:BAr) (o:Zl):Bool:=o.kind == 9&&decide (o.tag=tag)
theorem Ey (w0:Wd) (v:Vl) (o f:Zl) (pb:Nat) (tv cv:Vl) (hv:Yh w0 v o) (hp:w0.heap[pb]?=some (.cells (Zm f tv cv).toArray 48 (0,0))) :
 Ret Pg 227 #[v,.pointer (some ⟨pb,0,none⟩)] w0 λ r w'=>r = .bool (WB f.tag o)∧Ext w0 w':=by
 obtain ⟨tv',cv',rfl,hT,hC,ht1,hc1⟩:=hv.op
 have Yv:=(Array.getElem?_eq_some_iff.1 hp).1
 refine ZiL (R:=ZO _) ?_;unfold n67
 simp (disch:=try exact DI) only [↓PR,QR,simprocAttr,Sw.joinK_eq,(Za hp).1]
 exact ⟨by first | trivial | rfl,ee⟩
def WS (hi:Int) (deps:List (BAr×Vl)):Int→List W6→Int
 | _,[]=>0
 | low,x::xs=>orC (Z2 hi low [x.low,x.high]) (orC (Yj (Yz deps x.of).isSome 8) (WS hi deps (IntKind.i64.wrap (x.high+1)) xs))
def Vn (bef:List Zl) (deps:List (BAr×Vl)) (f:Zl):Int:=
 orC (Yj ((Ym (YD bef) f.tag).isSome&&!bef.any (WB f.tag)) 8) (orC (Yj (decide (1≤(f.cases.length:Int))&&decide ((f.cases.length:Int)≤40)) 3) (WS (((Ym (YD bef) f.tag).getD (0,0)).2) deps (((Ym (YD bef) f.tag).getD (0,0)).1) f.cases))
section
variable {w0:Wd} {cb md ms:Nat} {deps strs:List (BAr×Vl)} {at_ fld:Int} {fs:List Zl}
theorem HA {a0:Wd} (e00:Ext a0 w0) (h:Chk w0 cb md ms deps strs at_ fld fs) (pf p4:Nat) (f:Zl) (tv cv:Vl) (lo hi:Int) (hC:Yc w0 cv f.cases) (o3:w0.heap[pf]?=some (.cells (Zm f tv cv).toArray 48 (0,0))) (o4:w0.heap[p4]?=some (.cells #[.int .i64 lo,.int .i64 hi] 74 (0,0))) :
 AW (.pointer (some ⟨cb,0,none⟩)) (.pointer (some ⟨pf,0,none⟩)) (.pointer (some ⟨p4,0,none⟩)) (QF a0 at_ fld (WS hi deps lo f.cases)) w0:=by
 obtain ⟨A,c,rfl,hlc,hcm,hlm,Y3⟩:=Zd.open hC
 simp (disch:=try exact DI) only [↓PR,QR,simprocAttr,↓Cz,↓CA,↓CB,↓AW,↓AX,↓AY,↓JT,↓AZ,↓yO,↓zg,↓qe,↓zh,↓zl,(Za o3).1,(Za o4).1]
 refine Yn (λ a0 a1 w=>∃ (k:Nat) (n:Int),a0 = .int .i64 n∧a1 = .int .i64 (k:Int)∧k≤f.cases.length∧Ext w0 w∧WS hi deps n (f.cases.drop k)=WS hi deps lo f.cases) (λ a0 a1 _=>f.cases.length - (intOf a1).toNat) ⟨0,lo,rfl,rfl,Nat.zero_le _,ee,rfl⟩ ?_
 rintro _ _ w ⟨k,n,rfl,rfl,hk,e,hI⟩
 have se:=e.size
 rcases ZD hk with ⟨x,hx,hd,Yv,ZJ⟩ | ⟨hk,hd,ZJ⟩
 · obtain ⟨b,o,cs,rfl,hl,hA,rfl⟩:=Y3 k x hx
   have l4:p4 < w.heap.size:=(Array.getElem?_eq_some_iff.1 (e.obj o4)).1
   rw [hd] at hI
   simp only [WS] at hI
   simp (disch:=try exact DI) only [↓PR,QR,simprocAttr,↓Cz,↓CA,↓CB,↓AW,↓AX,↓AY,↓JT,↓AZ,↓yO,↓zg,↓qe,↓zh,↓zl,ZJ,hA.c3,(Za (e.obj o4)).1]
   generalize hW:World.alloc (World.alloc w _) _=W
   have eW:Ext w W:=by rw [← hW];exact ee
   have o9:W.heap[w.heap.size]?=some (.cells #[.int .i64 x.low,.int .i64 x.high,.string x.of] 60 (0,0)):=by rw [← hW];simp (disch:=try exact DI) only [↓PR,QR,simprocAttr]
   have hIn:UG W (.slice (some ⟨w.heap.size+1,0,none⟩) 2 2) [x.low,x.high]:=by rw [← hW];exact Ol (by simp only [World.size_alloc]) _ _ _
   clear hW
   refine ZY (QW (h.ext (e.trans eW)) n hi _ _ hIn) (λ w1 e1 h0=>?_) (λ w1 e1 h0=>?_)
   · rw [h0,Y8] at hI
     have er1:=eW.trans e1
     simp (disch:=try exact DI) only [↓PR,QR,simprocAttr,↓Cz,↓CA,↓CB,↓AW,↓AX,↓AY,↓JT,↓AZ,↓yO,↓zg,↓qe,↓zh,↓zl,(Za (e1.obj o9)).1]
     refine ZY (qo (h.ext (e.trans er1)) x.of) (λ w2 e2 h0=>?_) (λ w2 e2 h0=>?_)
     · rw [h0,Y8] at hI
       simp (disch:=try exact DI) only [↓PR,QR,simprocAttr,↓Cz,↓CA,↓CB,↓AW,↓AX,↓AY,↓JT,↓AZ,↓yO,↓zg,↓qe,↓zh,↓zl,(Za ((e1.trans e2).obj o9)).1]
       exact ⟨⟨k+1,_,rfl,rfl,by omega,ee,hI⟩,ZM (kd := .i64) Yv⟩
     · rw [Wc h0] at hI
       exact Yu (e00.trans (e.trans (er1.trans e2))) hI.symm h0
   · rw [Wc h0] at hI
     exact Yu (e00.trans (e.trans (eW.trans e1))) hI.symm h0
 · subst hk
   simp (disch:=try exact DI) only [↓PR,QR,simprocAttr,↓Cz,↓CA,↓CB,↓AW,↓AX,↓AY,↓JT,↓AZ,↓yO,↓zg,↓qe,↓zh,↓zl,ZJ]
   rw [hd] at hI
   exact Xq (e00.trans e) hI.symm
theorem MB {a0:Wd} (e00:Ext a0 w0) (h:Chk w0 cb md ms deps strs at_ fld fs) (i:Nat) (hi:fld=i) (Yv:i < fs.length) (pf p4:Nat) (f:Zl) (tv cv:Vl) (lo hi':Int) (b:Bool) (hC:Yc w0 cv f.cases) (o3:w0.heap[pf]?=some (.cells (Zm f tv cv).toArray 48 (0,0))) (o4:w0.heap[p4]?=some (.cells #[.int .i64 lo,.int .i64 hi'] 74 (0,0)))
 (hb:b=(Ym (YD (fs.take i)) f.tag).isSome) (hlo:b=true→lo=((Ym (YD (fs.take i)) f.tag).getD (0,0)).1∧hi'=((Ym (YD (fs.take i)) f.tag).getD (0,0)).2) :
 JT (.pointer (some ⟨cb,0,none⟩)) (.pointer (some ⟨pf,0,none⟩)) (.pointer (some ⟨p4,0,none⟩)) (.bool b) (QF a0 at_ fld (Vn (fs.take i) deps f)) w0:=by
 unfold JT
 refine Zs (VP h i hi Yv) ?_
 rintro bv w1 ⟨hB,e1⟩
 simp (disch:=try exact DI) only [↓PR,QR,simprocAttr]
 refine Zs (KC _ _ _ _ _ (WB f.tag) hB ZhG ?_) ?_
 · intro w v o _ e hv
   exact Ey w v o f pf tv cv hv ((e1.trans e).obj o3)
 rintro _ w2 ⟨rfl,e2⟩
 have e12:=e1.trans e2
 simp (disch:=try exact DI) only [↓PR,QR,simprocAttr,↓AY]
 unfold Vn
 refine ZY (YU (h.ext e12) _ 8 (by decide)) (λ w3 e3 h0=>?_) (λ w3 e3 h0=>?_)
 · rw [← hb,h0,Y8]
   have hbt:b=true:=by
    cases b with
    | true=>rfl
    | false=>exact absurd h0 (by simp [Yj])
   obtain ⟨h1,h2⟩:=hlo hbt
   rw [← h1,← h2]
   have e13:=e12.trans e3
   obtain ⟨A,c,rfl,_⟩:=Zd.open hC
   simp (disch:=try exact DI) only [↓PR,QR,simprocAttr,↓AX,(Za (e13.obj o3)).1]
   refine ZY (YU (h.ext e13) _ 3 (by decide)) (λ w4 e4 h0=>?_) (λ w4 e4 h0=>?_)
   · rw [h0,Y8]
     have e14:=e13.trans e4
     exact HA (e00.trans e14) (h.ext e14) pf p4 f tv _ lo hi' (Yc.ext hC e14) (e14.obj o3) (e14.obj o4)
   · rw [Wc h0]
     exact Yu (e00.trans (e13.trans e4)) rfl h0
 · rw [← hb,Wc h0]
   exact Yu (e00.trans (e12.trans e3)) rfl h0
theorem MA (h:Chk w0 cb md ms deps strs at_ fld fs) (i:Nat) (hi:fld=i) (Yv:i < fs.length) (v:Vl) (f:Zl) (hf:Yh w0 v f):Calls Pg 213 #[.pointer (some ⟨cb,0,none⟩),v] w0 (QF w0 at_ fld (Vn (fs.take i) deps f)):=by
 obtain ⟨tv,cv,rfl,hT,hC,ht1,hc1⟩:=hf.op
 refine ZiK ?_;unfold n66
 simp (disch:=try exact DI) only [↓PR,QR,simprocAttr]
 generalize hW:World.alloc w0 _=W
 have e0:Ext w0 W:=by rw [← hW];exact ee
 have o3:W.heap[w0.heap.size]?=some (.cells (Zm f tv cv).toArray 48 (0,0)):=by rw [← hW];simp (disch:=try exact DI) only [↓PR,QR,simprocAttr]
 clear hW
 refine Zy ?_
 simp (disch:=try exact DI) only [↓PR,QR,simprocAttr,↓zl,(Za o3).1]
 have key:∀ w' p4 b lo hi',Ext W w'→w'.heap[p4]?=some (.cells #[.int .i64 lo,.int .i64 hi'] 74 (0,0))→b=(Ym (YD (fs.take i)) f.tag).isSome→(b=true→lo=((Ym (YD (fs.take i)) f.tag).getD (0,0)).1∧hi'=((Ym (YD (fs.take i)) f.tag).getD (0,0)).2) →
  JT (.pointer (some ⟨cb,0,none⟩)) (.pointer (some ⟨w0.heap.size,0,none⟩)) (.pointer (some ⟨p4,0,none⟩)) (.bool b) (QF w0 at_ fld (Vn (fs.take i) deps f)) w':=by
  intro w' p4 b lo hi' e o4 hb hlo
  exact MB (e0.trans e) (h.ext (e0.trans e)) i hi Yv _ p4 f tv cv lo hi' b (Yc.ext hC (e0.trans e)) (e.obj o3) o4 hb hlo
 have eD:Ext W W.drew:=(Ext.refl W).wdrew
 have fin9:∀ (w2:Wd) (m p4:Nat) (u0 u1:Vl),Ext W.drew w2→Yr w2 m (RP (YD (fs.take i)))→w2.heap[p4]?=some (.cells #[u0,u1] 74 (0,0))→W.heap.size≤p4 →
  yO (.pointer (some ⟨p4,0,none⟩)) (.map (some m)) (.string f.tag) (KL W.drew m (RP (YD (fs.take i)))) (λ t4 t5 w=>JT (.pointer (some ⟨cb,0,none⟩)) (.pointer (some ⟨w0.heap.size,0,none⟩)) t4 t5 (QF w0 at_ fld (Vn (fs.take i) deps f)) w) (QF w0 at_ fld (Vn (fs.take i) deps f)) w2:=by
  intro w2 m p4 u0 u1 e2 hM o4 hp4
  haveI:Xg (KL W.drew m (RP (YD (fs.take i)))):=⟨⟨w2,e2,hM⟩⟩
  unfold yO
  rw [J5 underlying122 underlying9 UY ⟨w2,e2,hM⟩,Qg]
  have hfin:∀ lo hi' b,b=(Ym (YD (fs.take i)) f.tag).isSome→(b=true→lo=((Ym (YD (fs.take i)) f.tag).getD (0,0)).1∧hi'=((Ym (YD (fs.take i)) f.tag).getD (0,0)).2) →
   KL W.drew m (RP (YD (fs.take i))) ((w2.setCell ⟨p4,0,none⟩ (.int .i64 lo)).setCell ⟨p4,1,none⟩ (.int .i64 hi'))∧JT (.pointer (some ⟨cb,0,none⟩)) (.pointer (some ⟨w0.heap.size,0,none⟩)) (.pointer (some ⟨p4,0,none⟩)) (.bool b) (QF w0 at_ fld (Vn (fs.take i) deps f)) ((w2.setCell ⟨p4,0,none⟩ (.int .i64 lo)).setCell ⟨p4,1,none⟩ (.int .i64 hi')):=by
   intro lo hi' b hb hlo
   have e3:Ext W.drew ((w2.setCell ⟨p4,0,none⟩ (.int .i64 lo)).setCell ⟨p4,1,none⟩ (.int .i64 hi')):=(e2.setCell (show W.drew.heap.size≤(⟨p4,0,none⟩:Addr).block from hp4) _).setCell (show W.drew.heap.size≤(⟨p4,1,none⟩:Addr).block from hp4) _
   refine ⟨⟨e3,(hM.setCell _ _).setCell _ _⟩,key _ p4 b lo hi' (eD.trans e3) ?_ hb hlo⟩
   have:=ZE (o:=1) (ZE (o:=0) o4 (.int .i64 lo)) (.int .i64 hi')
   simpa using this
  cases hl:Ym (YD (fs.take i)) f.tag with
  | none=>
   rw [hl] at hfin
   simp (disch:=try exact DI) only [↓PR,QR,simprocAttr,Option.map_none,(Za o4).1,(Za o4).2]
   exact hfin 0 0 false rfl (by simp)
  | some q=>
   obtain ⟨lo,hi'⟩:=q
   rw [hl] at hfin
   simp (disch:=try exact DI) only [↓PR,QR,simprocAttr,(Za o4).1,(Za o4).2,Zv]
   exact hfin lo hi' true rfl (λ _=>⟨rfl,rfl⟩)
 refine ⟨?_,?_⟩
 · refine Zs (VP (h.ext (e0.trans eD)) i hi Yv) ?_
   rintro bv w1 ⟨hB,e1⟩
   refine Vv e1 ?_
   unfold zg
   refine ⟨?_,?_⟩
   · refine Zs (UV _ _ _ hB) ?_
     rintro _ w2 ⟨m,rfl,_,hM,e2⟩
     rw [Uh] at hM
     refine zo (e1.trans e2) hM ?_
     unfold AZ
     simp only [Ad]
     haveI:Xg (KL W.drew m (RP (YD (fs.take i)))):=⟨⟨w2,e1.trans e2,hM⟩⟩
     rw [J5 underlying122 underlying9 UY ⟨w2,e1.trans e2,hM⟩]
     have h9:=fin9 (w2.alloc (.cells #[.int .i64 0,.int .i64 0] 74)) m w2.heap.size _ _ ((e1.trans e2).alloc _) (hM.ext ((Ext.refl _).alloc _)) (ZG _ _ _) (by have:=(e1.trans e2).size;simpa using this)
     unfold yO at h9
     rw [J5 underlying122 underlying9 UY ⟨w2,e1.trans e2,hM⟩] at h9
     simp (disch:=try exact DI) only [↓PR,QR,simprocAttr]
     refine ⟨⟨(e1.trans e2).alloc _,hM.ext ((Ext.refl _).alloc _)⟩,?_⟩
     simp only [↓Sw.GENQ] at h9
     exact h9
   · simp (disch:=try exact DI) only [↓PR,QR,simprocAttr]
     refine ⟨e1.alloc _,?_⟩
     refine Zs (UV _ _ _ (Yq.ext hB ((Ext.refl _).alloc _))) ?_
     rintro _ w2 ⟨m,rfl,_,hM,e2⟩
     rw [Uh] at hM
     have s1:=e1.size
     simp only [World.size_drew] at s1
     refine zo ((e1.alloc _).trans e2) hM ?_
     exact fin9 w2 m w1.heap.size _ _ ((e1.alloc _).trans e2) hM (e2.obj (ZG _ _ _)) s1
 · refine ⟨(Ext.refl _).alloc _,?_⟩
   unfold zh
   refine Zs (VP (h.ext ((e0.trans eD).alloc _)) i hi Yv) ?_
   rintro bv w1 ⟨hB,e1⟩
   refine Vv (((Ext.refl _).alloc _).trans e1) ?_
   refine Zs (UV _ _ _ hB) ?_
   rintro _ w2 ⟨m,rfl,_,hM,e2⟩
   rw [Uh] at hM
   refine zo (((Ext.refl _).alloc _).trans (e1.trans e2)) hM ?_
   exact fin9 w2 m W.heap.size _ _ (((Ext.refl _).alloc _).trans (e1.trans e2)) hM ((e1.trans e2).obj (ZG W.drew _ _)) (Nat.le_refl _)
end
section
variable {w0:Wd} {cb md ms:Nat} {deps strs:List (BAr×Vl)} {at_ fld:Int} {fs:List Zl}
def Ky (f:Zl):Int:=2 ^ f.bits.toNat - 1
theorem Hf {f:Zl} (h:Xo f=true):0≤f.bits∧f.bits≤64∧IntKind.i64.wrap (IntKind.i64.wrap (1*2 ^ f.bits.toNat) - 1)=Ky f:=by
 unfold Xo at h
 simp only [Bool.and_eq_true,decide_eq_true_eq] at h
 obtain ⟨⟨h1,h2⟩,_⟩:=h
 have hc:(2:Int) ^ f.bits.toNat=((2 ^ f.bits.toNat:Nat):Int):=by simp
 have hp1:2 ^ f.bits.toNat≤2 ^ 32:=Nat.pow_le_pow_right (by decide) (by omega)
 have hp:(2:Int) ^ f.bits.toNat≤4294967296:=by rw [hc];omega
 have hp0:(0:Int) < 2 ^ f.bits.toNat:=Int.pow_pos (by decide)
 refine ⟨by omega,by omega,?_⟩
 unfold Ky
 rw [Int.one_mul,show IntKind.i64.wrap (2 ^ f.bits.toNat)=2 ^ f.bits.toNat from Z0 (by omega) (by omega),Z0 (by omega) (by omega)]
theorem Wo {b:Bool} {c:Int} (hc:c≠0) (h:Yj b c=0):b=true:=by
 cases b with
 | true=>rfl
 | false=>exact absurd h hc
theorem SD (h:Chk w0 cb md ms deps strs at_ fld fs) (v:Vl) (f:Zl) (hf:Yh w0 v f):Calls Pg 194 #[.pointer (some ⟨cb,0,none⟩),v] w0 (QF w0 at_ fld (orC (Yj (Xo f) 6) (Z2 (Ky f) 0 [f.low,f.high]))):=by
 obtain ⟨tv,cv,rfl,hT,hC,ht1,hc1⟩:=hf.op
 refine Zi7 ?_;unfold n90
 simp (disch:=try exact DI) only [↓PR,QR,simprocAttr]
 generalize hW:World.alloc w0 _=W
 have e0:Ext w0 W:=by rw [← hW];exact ee
 have o3:W.heap[w0.heap.size]?=some (.cells (Zm f tv cv).toArray 48 (0,0)):=by rw [← hW];simp (disch:=try exact DI) only [↓PR,QR,simprocAttr]
 clear hW
 simp (disch:=try exact DI) only [↓PR,QR,simprocAttr,(Za o3).1]
 refine ZY (Ev (h.ext e0) _ f ⟨tv,cv,rfl,ZV.ext hT e0,Yc.ext hC e0⟩) (λ w1 e1 h0=>?_) (λ w1 e1 h0=>?_)
 · rw [h0,Y8]
   obtain ⟨ha,hb,hw⟩:=Hf (Wo (by decide) h0)
   have e01:=e0.trans e1
   have l1:w0.heap.size < w1.heap.size:=(Array.getElem?_eq_some_iff.1 (e1.obj o3)).1
   refine Zy ?_
   simp (disch:=try exact DI) only [↓PR,QR,simprocAttr,↓Zby,(Za (e1.obj o3)).1,hw]
   generalize hW:World.alloc (World.drew w1) _=W2
   have eD:Ext w1.drew W2:=by rw [← hW];exact ee
   have hIn:UG W2 (.slice (some ⟨w1.heap.size,0,none⟩) 2 2) [f.low,f.high]:=by rw [← hW];exact Ol rfl _ _ _
   clear hW
   have eE:Ext w0 W2:=(e01.wdrew).trans eD
   refine ⟨eD,?_⟩
   refine ZY (QW (h.ext eE) 0 (Ky f) _ _ hIn) (λ w2 e2 h0=>?_) (λ w2 e2 h0=>?_)
   · exact ⟨eD.trans e2,Xq (eE.trans e2) h0⟩
   · exact Yu (eE.trans e2) rfl h0
 · rw [Wc h0]
   exact Yu (e0.trans e1) rfl h0
theorem MI (h:Chk w0 cb md ms deps strs at_ fld fs) (v:Vl) (f:Zl) (hf:Yh w0 v f):Calls Pg 198 #[.pointer (some ⟨cb,0,none⟩),v] w0 (QF w0 at_ fld (orC (Yj (Xo f) 6) (Z2 (Ky f) 0 [f.low]))):=by
 obtain ⟨tv,cv,rfl,hT,hC,ht1,hc1⟩:=hf.op
 refine Zjc ?_;unfold n95
 simp (disch:=try exact DI) only [↓PR,QR,simprocAttr]
 generalize hW:World.alloc w0 _=W
 have e0:Ext w0 W:=by rw [← hW];exact ee
 have o3:W.heap[w0.heap.size]?=some (.cells (Zm f tv cv).toArray 48 (0,0)):=by rw [← hW];simp (disch:=try exact DI) only [↓PR,QR,simprocAttr]
 clear hW
 simp (disch:=try exact DI) only [↓PR,QR,simprocAttr,(Za o3).1]
 refine ZY (Ev (h.ext e0) _ f ⟨tv,cv,rfl,ZV.ext hT e0,Yc.ext hC e0⟩) (λ w1 e1 h0=>?_) (λ w1 e1 h0=>?_)
 · rw [h0,Y8]
   obtain ⟨ha,hb,hw⟩:=Hf (Wo (by decide) h0)
   have e01:=e0.trans e1
   have l1:w0.heap.size < w1.heap.size:=(Array.getElem?_eq_some_iff.1 (e1.obj o3)).1
   refine Zy ?_
   simp (disch:=try exact DI) only [↓PR,QR,simprocAttr,↓ZbA,(Za (e1.obj o3)).1,hw]
   generalize hW:World.alloc (World.drew w1) _=W2
   have eD:Ext w1.drew W2:=by rw [← hW];exact ee
   have hIn:UG W2 (.slice (some ⟨w1.heap.size,0,none⟩) 1 1) [f.low]:=by rw [← hW];exact Cg rfl _ _
   clear hW
   have eE:Ext w0 W2:=(e01.wdrew).trans eD
   refine ⟨eD,?_⟩
   refine ZY (QW (h.ext eE) 0 (Ky f) _ _ hIn) (λ w2 e2 h0=>?_) (λ w2 e2 h0=>?_)
   · exact ⟨eD.trans e2,Xq (eE.trans e2) h0⟩
   · exact Yu (eE.trans e2) rfl h0
 · rw [Wc h0]
   exact Yu (e0.trans e1) rfl h0
theorem I7 (h:Chk w0 cb md ms deps strs at_ fld fs) (v:Vl) (f:Zl) (hf:Yh w0 v f):Calls Pg 200 #[.pointer (some ⟨cb,0,none⟩),v] w0 (QF w0 at_ fld (Z2 34359738367 0 [f.low,f.high])):=by
 obtain ⟨tv,cv,rfl,hT,hC,ht1,hc1⟩:=hf.op
 refine Zje ?_;unfold n97
 simp (disch:=try exact DI) only [↓PR,QR,simprocAttr]
 generalize hW:World.alloc (World.alloc w0 _) _=W
 have e0:Ext w0 W:=by rw [← hW];exact ee
 have o3:W.heap[w0.heap.size]?=some (.cells (Zm f tv cv).toArray 48 (0,0)):=by rw [← hW];simp (disch:=try exact DI) only [↓PR,QR,simprocAttr]
 have hIn:UG W (.slice (some ⟨w0.heap.size+1,0,none⟩) 2 2) [f.low,f.high]:=by rw [← hW];exact Ol (by simp only [World.size_alloc]) _ _ _
 clear hW
 refine ZY (QW (h.ext e0) 0 34359738367 _ _ hIn) (λ w1 e1 h0=>?_) (λ w1 e1 h0=>?_)
 · exact Xq (e0.trans e1) h0
 · exact Yu (e0.trans e1) rfl h0
theorem EU (h:Chk w0 cb md ms deps strs at_ fld fs) (v:Vl) (f:Zl) (hf:Yh w0 v f):Calls Pg 206 #[.pointer (some ⟨cb,0,none⟩),v] w0 (QF w0 at_ fld (Z2 1048576 2 [f.high])):=by
 obtain ⟨tv,cv,rfl,hT,hC,ht1,hc1⟩:=hf.op
 refine ZiY ?_;unfold n81
 simp (disch:=try exact DI) only [↓PR,QR,simprocAttr]
 generalize hW:World.alloc (World.alloc w0 _) _=W
 have e0:Ext w0 W:=by rw [← hW];exact ee
 have o3:W.heap[w0.heap.size]?=some (.cells (Zm f tv cv).toArray 48 (0,0)):=by rw [← hW];simp (disch:=try exact DI) only [↓PR,QR,simprocAttr]
 have hIn:UG W (.slice (some ⟨w0.heap.size+1,0,none⟩) 1 1) [f.high]:=by rw [← hW];exact Cg (by simp only [World.size_alloc]) _ _
 clear hW
 refine ZY (QW (h.ext e0) 2 1048576 _ _ hIn) (λ w1 e1 h0=>?_) (λ w1 e1 h0=>?_)
 · exact Xq (e0.trans e1) h0
 · exact Yu (e0.trans e1) rfl h0
theorem NC (h:Chk w0 cb md ms deps strs at_ fld fs) (v:Vl) (f:Zl) (hf:Yh w0 v f):Calls Pg 204 #[.pointer (some ⟨cb,0,none⟩),v] w0 (QF w0 at_ fld (orC (Z2 255 0 [f.low]) (Z2 1048576 0 [f.high]))):=by
 obtain ⟨tv,cv,rfl,hT,hC,ht1,hc1⟩:=hf.op
 refine Zdh ?_;unfold Zdg
 simp (disch:=try exact DI) only [↓PR,QR,simprocAttr]
 generalize hW:World.alloc (World.alloc w0 _) _=W
 have e0:Ext w0 W:=by rw [← hW];exact ee
 have o3:W.heap[w0.heap.size]?=some (.cells (Zm f tv cv).toArray 48 (0,0)):=by rw [← hW];simp (disch:=try exact DI) only [↓PR,QR,simprocAttr]
 have hIn:UG W (.slice (some ⟨w0.heap.size+1,0,none⟩) 1 1) [f.low]:=by rw [← hW];exact Cg (by simp only [World.size_alloc]) _ _
 clear hW
 refine ZY (QW (h.ext e0) 0 255 _ _ hIn) (λ w1 e1 h0=>?_) (λ w1 e1 h0=>?_)
 · rw [h0,Y8]
   have e01:=e0.trans e1
   simp (disch:=try exact DI) only [↓PR,QR,simprocAttr,↓OB,(Za (e1.obj o3)).1]
   refine ZY (QW ((h.ext e01).ext ((Ext.refl _).alloc _)) 0 1048576 _ _ (Cg rfl _ _)) (λ w2 e2 h0=>?_) (λ w2 e2 h0=>?_)
   · exact Xq ((e01.alloc _).trans e2) h0
   · exact Yu ((e01.alloc _).trans e2) rfl h0
 · rw [Wc h0]
   exact Yu (e0.trans e1) rfl h0
theorem Fo (h:Chk w0 cb md ms deps strs at_ fld fs) (v:Vl) (f:Zl) (hf:Yh w0 v f):Calls Pg 211 #[.pointer (some ⟨cb,0,none⟩),v] w0 (QF w0 at_ fld (Yj (Yz deps f.of).isSome 8)):=by
 obtain ⟨tv,cv,rfl,hT,hC,ht1,hc1⟩:=hf.op
 refine Zi2 ?_;unfold n85
 simp (disch:=try exact DI) only [↓PR,QR,simprocAttr]
 generalize hW:World.alloc w0 _=W
 have e0:Ext w0 W:=by rw [← hW];exact ee
 have o3:W.heap[w0.heap.size]?=some (.cells (Zm f tv cv).toArray 48 (0,0)):=by rw [← hW];simp (disch:=try exact DI) only [↓PR,QR,simprocAttr]
 clear hW
 simp (disch:=try exact DI) only [↓PR,QR,simprocAttr,(Za o3).1]
 refine ZY (qo (h.ext e0) f.of) (λ w1 e1 h0=>?_) (λ w1 e1 h0=>?_)
 · exact Xq (e0.trans e1) h0
 · exact Yu (e0.trans e1) rfl h0
theorem Ou (h:Chk w0 cb md ms deps strs at_ fld fs) (i:Nat) (hi:fld=i) (Yv:i < fs.length) (v:Vl) (f:Zl) (hf:Yh w0 v f) (ht:f.terms.length≤1048576):Calls Pg 208 #[.pointer (some ⟨cb,0,none⟩),v] w0 (QF w0 at_ fld (orC (Yj (Yz deps f.of).isSome 8) (Qz (YD (fs.take i)) f))):=by
 obtain ⟨tv,cv,rfl,hT,hC,ht1,hc1⟩:=hf.op
 refine Zi0 ?_;unfold n83
 simp (disch:=try exact DI) only [↓PR,QR,simprocAttr]
 generalize hW:World.alloc w0 _=W
 have e0:Ext w0 W:=by rw [← hW];exact ee
 have o3:W.heap[w0.heap.size]?=some (.cells (Zm f tv cv).toArray 48 (0,0)):=by rw [← hW];simp (disch:=try exact DI) only [↓PR,QR,simprocAttr]
 clear hW
 simp (disch:=try exact DI) only [↓PR,QR,simprocAttr,(Za o3).1]
 refine ZY (qo (h.ext e0) f.of) (λ w1 e1 h0=>?_) (λ w1 e1 h0=>?_)
 · rw [h0,Y8]
   have e01:=e0.trans e1
   simp (disch:=try exact DI) only [↓PR,QR,simprocAttr,(Za (e1.obj o3)).1]
   refine ZY (qt (h.ext e01) i hi Yv _ f ⟨tv,cv,rfl,ZV.ext hT e01,Yc.ext hC e01⟩ ht) (λ w2 e2 h0=>?_) (λ w2 e2 h0=>?_)
   · exact Xq (e01.trans e2) h0
   · exact Yu (e01.trans e2) rfl h0
 · rw [Wc h0]
   exact Yu (e0.trans e1) rfl h0
theorem SE (h:Chk w0 cb md ms deps strs at_ fld fs) (i:Nat) (hi:fld=i) (Yv:i < fs.length) (v:Vl) (f:Zl) (hf:Yh w0 v f) (ht:f.terms.length≤1048576):Calls Pg 219 #[.pointer (some ⟨cb,0,none⟩),v] w0 (QF w0 at_ fld (orC (Z2 4294967295 0 [f.key]) (orC (Yj (Ei strs f.of) 8) (Qz (YD (fs.take i)) f)))):=by
 obtain ⟨tv,cv,rfl,hT,hC,ht1,hc1⟩:=hf.op
 refine Zja ?_;unfold n93
 simp (disch:=try exact DI) only [↓PR,QR,simprocAttr]
 generalize hW:World.alloc (World.alloc w0 _) _=W
 have e0:Ext w0 W:=by rw [← hW];exact ee
 have o3:W.heap[w0.heap.size]?=some (.cells (Zm f tv cv).toArray 48 (0,0)):=by rw [← hW];simp (disch:=try exact DI) only [↓PR,QR,simprocAttr]
 have hIn:UG W (.slice (some ⟨w0.heap.size+1,0,none⟩) 1 1) [f.key]:=by rw [← hW];exact Cg (by simp only [World.size_alloc]) _ _
 clear hW
 refine ZY (QW (h.ext e0) 0 4294967295 _ _ hIn) (λ w1 e1 h0=>?_) (λ w1 e1 h0=>?_)
 · rw [h0,Y8]
   have e01:=e0.trans e1
   have h1:=h.ext e01.wdrew
   obtain ⟨⟨dn,mv,ds,mn,fv,k1,k2⟩,k3,k4,k5,k6⟩:=id h1
   refine Zy ?_
   simp (disch:=try exact DI) only [↓PR,QR,simprocAttr,↓Zbz,(Za (e1.obj o3)).1,(Za k1).1]
   have k1':=(Za k1).1
   simp only [World.cell?] at k1'
   rw [jj underlying162 underlying9 ty4 k4]
   rw [h1.strV f.of]
   refine ZY (YU h1 _ 8 (by decide)) (λ w2 e2 h0=>?_) (λ w2 e2 h0=>?_)
   · rw [h0,Y8]
     refine ⟨e2,?_⟩
     have e02:=(e01.wdrew).trans e2
     have e12:Ext W w2:=(e1.wdrew).trans e2
     simp (disch:=try exact DI) only [↓PR,QR,simprocAttr,(Za (e12.obj o3)).1]
     refine ZY (qt (h.ext e02) i hi Yv _ f ⟨tv,cv,rfl,ZV.ext hT e02,Yc.ext hC e02⟩ ht) (λ w3 e3 h0=>?_) (λ w3 e3 h0=>?_)
     · exact Xq (e02.trans e3) h0
     · exact Yu (e02.trans e3) rfl h0
   · rw [Wc h0]
     exact Yu (e01.wdrew.trans e2) rfl h0
 · rw [Wc h0]
   exact Yu (e0.trans e1) rfl h0
theorem MH (h:Chk w0 cb md ms deps strs at_ fld fs) (i:Nat) (hi:fld=i) (Yv:i < fs.length) (v:Vl) (f:Zl) (hf:Yh w0 v f):Calls Pg 217 #[.pointer (some ⟨cb,0,none⟩),v] w0 (QF w0 at_ fld (orC (Z2 3 1 [f.check]) (Yj ((fs.take i).any λ o=>decide (o.name=f.fr)) 8))):=by
 obtain ⟨tv,cv,rfl,hT,hC,ht1,hc1⟩:=hf.op
 refine Zi8 ?_;unfold n91
 simp (disch:=try exact DI) only [↓PR,QR,simprocAttr]
 generalize hW:World.alloc (World.alloc w0 _) _=W
 have e0:Ext w0 W:=by rw [← hW];exact ee
 have o3:W.heap[w0.heap.size]?=some (.cells (Zm f tv cv).toArray 48 (0,0)):=by rw [← hW];simp (disch:=try exact DI) only [↓PR,QR,simprocAttr]
 have hIn:UG W (.slice (some ⟨w0.heap.size+1,0,none⟩) 1 1) [f.check]:=by rw [← hW];exact Cg (by simp only [World.size_alloc]) _ _
 clear hW
 refine ZY (QW (h.ext e0) 1 3 _ _ hIn) (λ w1 e1 h0=>?_) (λ w1 e1 h0=>?_)
 · rw [h0,Y8]
   have e01:=e0.trans e1
   refine Zy ?_
   simp (disch:=try exact DI) only [↓PR,QR,simprocAttr,↓LR,↓LS,(Za (e1.obj o3)).1]
   refine Zs (VP (h.ext e01.wdrew) i hi Yv) ?_
   rintro bv w2 ⟨hB,e2⟩
   refine ⟨e2,?_⟩
   have hb1:=Zd.oneCell hB
   simp (disch:=try exact DI) only [↓PR,QR,simprocAttr,↓LR,↓LS]
   refine zcr (B6 w2 _ ⟨ByteArray.empty,fs.take i⟩ f.fr ⟨bv,rfl,hB⟩) λ w3 e3=>?_
   refine ⟨e2.trans e3,?_⟩
   simp (disch:=try exact DI) only [↓PR,QR,simprocAttr,↓LR,↓LS]
   have e03:=(e01.wdrew).trans (e2.trans e3)
   refine ZY (YU (h.ext e03) _ 8 (by decide)) (λ w4 e4 h0=>?_) (λ w4 e4 h0=>?_)
   · exact Xq (e03.trans e4) h0
   · exact Yu (e03.trans e4) rfl h0
 · rw [Wc h0]
   exact Yu (e0.trans e1) rfl h0
def zE (f:Zl):Bool:=(f.bits == 2)||(f.bits == 4)||(decide (8≤f.bits)&&decide (f.bits≤512)&&(f.bits.tmod 8 == 0))
theorem TA (h:Chk w0 cb md ms deps strs at_ fld fs) (v:Vl) (f:Zl) (hf:Yh w0 v f):Calls Pg 215 #[.pointer (some ⟨cb,0,none⟩),v] w0 (QF w0 at_ fld (Yj (zE f) 6)):=by
 obtain ⟨tv,cv,rfl,hT,hC,ht1,hc1⟩:=hf.op
 refine Zi5 ?_;unfold n88
 simp (disch:=try exact DI) only [↓PR,QR,simprocAttr,↓RD,↓RE,↓RF,↓RG]
 have e0:Ext w0 (w0.alloc (Obj.cells (Zm f tv cv).toArray 48)):=ee
 have fin:∀ b,b=zE f→Yt Pg 122 #[.pointer (some ⟨cb,0,none⟩),.bool b,.int .i64 6] (Zh (QF w0 at_ fld (Yj (zE f) 6))) (w0.alloc (Obj.cells (Zm f tv cv).toArray 48)) (λ _ w=>QF w0 at_ fld (Yj (zE f) 6) (.returned (.tuple #[])) w):=by
  rintro b rfl
  exact ZY (YU (h.ext e0) _ 6 (by decide)) (λ w' e1 h0=>Xq (e0.trans e1) h0) (λ w' e1 h0=>Yu (e0.trans e1) rfl h0)
 unfold zE at fin ⊢
 generalize (f.bits == 2)=b1 at fin ⊢
 generalize (f.bits == 4)=b2 at fin ⊢
 generalize decide (8≤f.bits)=b3 at fin ⊢
 generalize decide (f.bits≤512)=b4 at fin ⊢
 cases b1<;>cases b2<;>cases b3<;>cases b4<;>simp (disch:=try exact DI) only [↓PR,QR,simprocAttr,↓RD,↓RE,↓RF,↓RG]<;>first | exact fin _ rfl | exact fin _ (by simp)
end
theorem Te (x y:Z3):(decide (x.field=y.field)&&decide (x.factor=y.factor))=decide (x=y):=by
 cases x;cases y
 rw [Bool.eq_iff_iff]
 simp
theorem jQ (w0:Wd) (v u:Vl) (l m:List Z3) (hl:ZV w0 v l) (hm:ZV w0 u m) :
 Ret Pg 95 #[v,u] w0 λ r w'=>r = .bool (decide (l=m))∧Ext w0 w':=by
 obtain ⟨A,c,rfl,hlc,hcm,hlm,Y3⟩:=Zd.open hl
 obtain ⟨A',c',rfl,hlc',hcm',hlm',hel'⟩:=Zd.open hm
 refine Zep (R:=ZO _) ?_;unfold Zeo
 simp (disch:=try exact DI) only [↓PR,QR,simprocAttr]
 by_cases Xl:l.length=m.length
 · have Xv:((l.length:Int) != (m.length:Int))=false:=by simp [Xl]
   simp (disch:=try exact DI) only [↓PR,QR,simprocAttr,↓JR,↓JS,Xv]
   refine ZF (λ a0 w=>∃ (k:Nat) , a0 = .int .i64 (k:Int)∧k≤l.length∧Ext w0 w∧l.take k=m.take k) (λ a0 _=>l.length - (intOf a0).toNat) ⟨0,rfl,Nat.zero_le _,ee,rfl⟩ ?_
   rintro _ w ⟨k,rfl,hk,e,hI⟩
   have se:=e.size
   rcases ZD hk with ⟨x,hx,hd,Yv,ZJ⟩ | ⟨hk,hd,ZJ⟩
   · obtain ⟨b,o,cs,rfl,_,hA,rfl⟩:=Y3 k x hx
     obtain ⟨y,hy⟩:=getElem?_lt (l:=m) (k:=k) (by omega)
     obtain ⟨b',o',cs',rfl,_,hA',rfl⟩:=hel' k y hy
     have hlt':k < m.length:=by omega
     have eD:Ext w0 w.drew:=e.wdrew
     simp (disch:=try exact DI) only [↓PR,QR,simprocAttr,↓JR,↓JS,ZJ]
     refine Zy ?_
     simp (disch:=try exact DI) only [↓PR,QR,simprocAttr,↓JR,↓JS,hA.c2,hA'.c2]
     rw [Te]
     by_cases hxy:x=y
     · subst hxy
       simp only [decide_true,Bool.not_true]
       simp (disch:=try exact DI) only [↓PR,QR,simprocAttr,↓JR,↓JS]
       exact ⟨⟨k+1,rfl,by omega,ee,by rw [List.take_add_one,List.take_add_one,hx,hy,hI]⟩,ZM (kd := .i64) Yv⟩
     · simp only [hxy,decide_false,Bool.not_false]
       simp (disch:=try exact DI) only [↓PR,QR,simprocAttr,↓JR,↓JS]
       refine ⟨?_,eD⟩
       have hne':¬ l=m:=by
        rintro rfl
        rw [hx] at hy
        injection hy with hy
        exact hxy hy
       simp [hne']
   · subst hk
     simp (disch:=try exact DI) only [↓PR,QR,simprocAttr,↓JR,↓JS,ZJ]
     rw [List.take_length,Xl,List.take_length] at hI
     exact ⟨by simp [hI],e⟩
 · have Xv:((l.length:Int) != (m.length:Int))=true:=by simp;omega
   simp (disch:=try exact DI) only [↓PR,QR,simprocAttr,↓JR,↓JS,Xv]
   have hne':¬ l=m:=λ h=>Xl (by rw [h])
   exact ⟨by simp [hne'],Ext.refl _⟩
theorem Td (x y:W6):(decide (x.low=y.low)&&(decide (x.high=y.high)&&decide (x.of=y.of)))=decide (x=y):=by
 cases x;cases y
 rw [Bool.eq_iff_iff]
 simp
theorem jP (w0:Wd) (v u:Vl) (l m:List W6) (hl:Yc w0 v l) (hm:Yc w0 u m) :
 Ret Pg 96 #[v,u] w0 λ r w'=>r = .bool (decide (l=m))∧Ext w0 w':=by
 obtain ⟨A,c,rfl,hlc,hcm,hlm,Y3⟩:=Zd.open hl
 obtain ⟨A',c',rfl,hlc',hcm',hlm',hel'⟩:=Zd.open hm
 refine Zen (R:=ZO _) ?_;unfold Zem
 simp (disch:=try exact DI) only [↓PR,QR,simprocAttr]
 by_cases Xl:l.length=m.length
 · have Xv:((l.length:Int) != (m.length:Int))=false:=by simp [Xl]
   simp (disch:=try exact DI) only [↓PR,QR,simprocAttr,↓JP,↓JQ,Xv]
   refine ZF (λ a0 w=>∃ (k:Nat) , a0 = .int .i64 (k:Int)∧k≤l.length∧Ext w0 w∧l.take k=m.take k) (λ a0 _=>l.length - (intOf a0).toNat) ⟨0,rfl,Nat.zero_le _,ee,rfl⟩ ?_
   rintro _ w ⟨k,rfl,hk,e,hI⟩
   have se:=e.size
   rcases ZD hk with ⟨x,hx,hd,Yv,ZJ⟩ | ⟨hk,hd,ZJ⟩
   · obtain ⟨b,o,cs,rfl,_,hA,rfl⟩:=Y3 k x hx
     obtain ⟨y,hy⟩:=getElem?_lt (l:=m) (k:=k) (by omega)
     obtain ⟨b',o',cs',rfl,_,hA',rfl⟩:=hel' k y hy
     have hlt':k < m.length:=by omega
     have eD:Ext w0 w.drew:=e.wdrew
     simp (disch:=try exact DI) only [↓PR,QR,simprocAttr,↓JP,↓JQ,ZJ]
     refine Zy ?_
     simp (disch:=try exact DI) only [↓PR,QR,simprocAttr,↓JP,↓JQ,hA.c3,hA'.c3]
     rw [Td]
     by_cases hxy:x=y
     · subst hxy
       simp only [decide_true,Bool.not_true]
       simp (disch:=try exact DI) only [↓PR,QR,simprocAttr,↓JP,↓JQ]
       exact ⟨⟨k+1,rfl,by omega,ee,by rw [List.take_add_one,List.take_add_one,hx,hy,hI]⟩,ZM (kd := .i64) Yv⟩
     · simp only [hxy,decide_false,Bool.not_false]
       simp (disch:=try exact DI) only [↓PR,QR,simprocAttr,↓JP,↓JQ]
       refine ⟨?_,eD⟩
       have hne':¬ l=m:=by
        rintro rfl
        rw [hx] at hy
        injection hy with hy
        exact hxy hy
       simp [hne']
   · subst hk
     simp (disch:=try exact DI) only [↓PR,QR,simprocAttr,↓JP,↓JQ,ZJ]
     rw [List.take_length,Xl,List.take_length] at hI
     exact ⟨by simp [hI],e⟩
 · have Xv:((l.length:Int) != (m.length:Int))=true:=by simp;omega
   simp (disch:=try exact DI) only [↓PR,QR,simprocAttr,↓JP,↓JQ,Xv]
   have hne':¬ l=m:=λ h=>Xl (by rw [h])
   exact ⟨by simp [hne'],Ext.refl _⟩
abbrev R6 (f:Zl):Vl := .agg #[.string f.name,.string f.of,.string f.tag,.string f.fr,.int .i64 f.kind,.int .i64 f.bits,.int .i64 f.low,.int .i64 f.high,.int .i64 f.base,.int .i64 f.check,.int .i64 f.key,.bool f.little,.bool f.loose]
theorem CL (w0:Wd) (v:Vl) (f:Zl) (hf:Yh w0 v f):Ret Pg 94 #[v] w0 λ r w'=>r=R6 f∧Ext w0 w':=by
 obtain ⟨tv,cv,rfl,hT,hC,ht1,hc1⟩:=hf.op
 refine Zdj (R:=ZO _) ?_;unfold Zdi
 simp (disch:=try exact DI) only [↓PR,QR,simprocAttr,Sw.joinK_eq]
 exact ⟨by first | trivial | rfl,ee⟩
theorem B3 (w0:Wd) (v u:Vl) (f g:Zl) (hf:Yh w0 v f) (hg:Yh w0 u g):Ret Pg 66 #[v,u] w0 λ r w'=>r = .bool (decide (f=g))∧Ext w0 w':=by
 obtain ⟨tv,cv,rfl,hT,hC,ht1,hc1⟩:=hf.op
 obtain ⟨tv',cv',rfl,hT',hC',ht1',hc1'⟩:=hg.op
 refine Zdn (R:=ZO _) ?_;unfold Zdm
 simp (disch:=try exact DI) only [↓PR,QR,simprocAttr]
 generalize hW:World.alloc (World.alloc w0 _) _=W
 have e0:Ext w0 W:=by rw [← hW];exact ee
 have o3:W.heap[w0.heap.size]?=some (.cells (Zm f tv cv).toArray 48 (0,0)):=by rw [← hW];simp (disch:=try exact DI) only [↓PR,QR,simprocAttr]
 have o4:W.heap[w0.heap.size+1]?=some (.cells (Zm g tv' cv').toArray 48 (0,0)):=by rw [← hW];simp (disch:=try exact DI) only [↓PR,QR,simprocAttr]
 clear hW
 simp only [World.size_alloc]
 refine Zy ?_
 have eD:Ext w0 W.drew:=e0.wdrew
 simp (disch:=try exact DI) only [↓PR,QR,simprocAttr,↓JM,↓JN,↓JO,(Za o3).1,(Za o4).1]
 refine zcr (CL _ _ f ⟨tv,cv,rfl,ZV.ext hT eD,Yc.ext hC eD⟩) λ w1 e1=>?_
 refine ⟨e1,?_⟩
 have eD1:=eD.trans e1
 refine zcr (CL _ _ g ⟨tv',cv',rfl,ZV.ext hT' eD1,Yc.ext hC' eD1⟩) λ w2 e2=>?_
 refine ⟨e1.trans e2,?_⟩
 simp (disch:=try exact DI) only [↓PR,QR,simprocAttr,↓JM,↓JN,↓JO,(Za o3).1,(Za o4).1]
 have eW2:Ext W w2:=(Ext.refl W).wdrew.trans (e1.trans e2)
 generalize hb:(_&&_:Bool)=b1
 cases b1 with
 | false=>
  simp (disch:=try exact DI) only [↓PR,QR,simprocAttr,↓JM,↓JN,↓JO]
  refine ⟨?_,e0.trans eW2⟩
  have Xv:¬ f=g:=by
   rintro rfl
   simp at hb
  simp [Xv]
 | true=>
  have hbt:=hb
  simp only [Bool.and_eq_true,decide_eq_true_eq] at hb
  obtain ⟨h1,h2,h3,h4,h5,h6,h7,h8,h9,h10,h11,h12,h13⟩:=hb
  simp (disch:=try exact DI) only [↓PR,QR,simprocAttr,↓JM,↓JN,↓JO,(Za o3).1,(Za o4).1]
  refine zcr (jQ _ _ _ _ _ (ZV.ext hT (e0.trans eW2)) (ZV.ext hT' (e0.trans eW2))) λ w3 e3=>?_
  refine ⟨(e1.trans e2).trans e3,?_⟩
  have eW3:=eW2.trans e3
  by_cases ht:f.terms=g.terms
  · simp only [ht,decide_true]
    simp (disch:=try exact DI) only [↓PR,QR,simprocAttr,↓JM,↓JN,↓JO,hbt,(Za o3).1,(Za o4).1]
    refine zcr (jP _ _ _ _ _ (Yc.ext hC (e0.trans eW3)) (Yc.ext hC' (e0.trans eW3))) λ w4 e4=>?_
    refine ⟨((e1.trans e2).trans e3).trans e4,?_⟩
    simp (disch:=try exact DI) only [↓PR,QR,simprocAttr,↓JM,↓JN,↓JO]
    refine ⟨?_,e0.trans (eW3.trans e4)⟩
    congr 1
    rw [Bool.eq_iff_iff]
    simp only [decide_eq_true_eq]
    constructor
    · intro hc;cases f;cases g;simp_all
    · rintro rfl;rfl
  · simp only [ht,decide_false]
    simp (disch:=try exact DI) only [↓PR,QR,simprocAttr,↓JM,↓JN,↓JO,hbt]
    refine ⟨?_,e0.trans eW3⟩
    have Xv:¬ f=g:=by rintro rfl;exact ht rfl
    simp [Xv]
end Go.Proofs.YtfjjgjjlebllmaaGreat
