/-
  phrasebooklaw45.MappingNumbers returns true for every rule, number, mapping and name, and leaves its arguments as they were; no condition is asked but that the tables of the library lie as the program lays them (the card ties them).
-/
import Derived.Test.YtgalpdihjbinjaaGreatDoorXa5
set_option linter.all false
set_option maxHeartbeats 4000000
set_option maxRecDepth 100000
open Go.Instr (loadAt storeAt fieldAt indexAt buildSlice mapUpdate makeFunc)
open Go.Proofs.Tryz
namespace Go.Proofs.YtgalpdihjbinjaaGreatDoor
open Sw
def N5 (a b:Vl) (R:RT) (w:Wd):Prop:=
 opV Pg (Instr.build 24 #[]) (Zb R) w λ c w=>
 opU Pg (storeAt 24 a c) (Zb R) w λ w=>
 qW Pg 24 a w λ r0=>
 R (.returned (.tuple #[r0,b,(.int .i64 6)])) w
def Th (b c d e:Vl) (a:WPr) (f:KW) (R:RT) (w:Wd):Prop:=
 opV Pg (Builtin.append_ #[22,22] 22 #[d,e]) (Zb R) w λ g w=>
 a w∧(
 qV Pg a (fieldAt 24 b 1) λ h=>
 opU Pg (storeAt 22 h g) (Zb R) w λ w=>
 VY w λ i w=>
 f c (.bool true) w)
def Oa (b d c:Vl) (a:WPr) (e:KW) (R:RT) (w:Wd):Prop:=
 qV Pg a (fieldAt 24 b 1) λ f=>
 qV Pg a (loadAt 22 f) λ g=>
 qV Pg a (indexAt 94 c (.int .i64 1)) λ h=>
 qV Pg a (loadAt 9 h) λ i=>
 qV Pg a (indexAt 94 c (.int .i64 2)) λ j=>
 qV Pg a (loadAt 9 j) λ k=>
 qV Pg a (Instr.build 60 #[(0,i),(1,k)]) λ l=>
 opV Pg (buildSlice 22 1 #[(0,l)]) (Zb R) w λ m w=>
 a w∧(
 Th b d g m a e R w)
def Ti (b c d e:Vl) (a:WPr) (f:KW) (R:RT) (w:Wd):Prop:=
 qN Pg a (YL d) λ g=>
 qV Pg a (fieldAt 60 g 2) λ h=>
 opU Pg (storeAt 58 h e) (Zb R) w λ w=>
 VY w λ i w=>
 f b c w
def Tj (c d e b:Vl) (a:WPr) (f:KW) (R:RT) (w:Wd):Prop:=
 qN Pg a (YL b) λ g=>
 qV Pg a (fieldAt 60 g 2) λ h=>
 qV Pg a (loadAt 58 h) λ i=>
 qV Pg a (loadAt 43 e) λ j=>
 opV Pg (buildSlice 58 1 #[(0,j)]) (Zb R) w λ k w=>
 a w∧(
 opV Pg (Builtin.append_ #[58,58] 58 #[i,k]) (Zb R) w λ l w=>
 a w∧(
 Ti c d b l a f R w))
def Ob (a b c d:Vl) (e:KW) (R:RT) (w:Wd):Prop:=
 opV Pg (fieldAt 24 a 1) (Zb R) w λ f w=>
 opV Pg (loadAt 22 f) (Zb R) w λ g w=>
 opV Pg (fieldAt 24 a 1) (Zb R) w λ h w=>
 opV Pg (loadAt 22 h) (Zb R) w λ i w=>
 opV Pg (Builtin.len_ #[22] 3 #[i]) (Zb R) w λ j w=>
 opV Pg (Zh .sub 3 true j (.int .i64 1)) (Zb R) w λ k w=>
 opV Pg (indexAt 22 g k) (Zb R) w λ l w=>
 Ye w λ m w=>
 Tj b c d l m e R w
def Oc (c d a e f g:Vl) (h:KV) (i:KW) (R:RT) (w:Wd):Prop:=
 Zq (λ (j:Vl) (w:Wd)=>
 ZD a j (.bool false) λ k=>
 Zu k (
 Ob c d a e i R w) (
 opV Pg (Zh .add 3 true f (.int .i64 1)) (Zb R) w λ l w=>
 h l w)) λ b=>
 Zp a true (
 b g w) (
 b undef w)
def Eu (f c a g h i j:Vl) (k:KV) (d:KW) (R:RT) (w:Wd):Prop:=
 Zq (λ (b:Vl) (w:Wd)=>
 ZD a b (.bool false) λ l=>
 Zu l (
 d c (.bool false) w) (
 Oc f c a g h j k d R w)) λ e=>
 Zp a true (
 opV Pg (Zh .eql 9 true i (.string { data := #[101,110,100] })) (Zb R) w λ b w=>
 e b w) (
 e undef w)
def BG (b c h i j k d l m n:Vl) (o:KV) (e:KW) (R:RT) (w:Wd):Prop:=
 ZD m n (.bool false) λ f=>
 Zq (λ (a:Vl) (w:Wd)=>
 ZD f a (.bool false) λ p=>
 Zu p (
 Ye w λ q w=>
 Oa b c d q e R w) (
 Eu b c h i j k l o e R w)) λ g=>
 Zp f true (
 opV Pg (Instr.sliceAt 94 d (some (.int .i64 1)) none none) (Zb R) w λ r w=>
 Zg Pg 52 #[r] (Zb R) w λ a w=>
 g a w) (
 g undef w)
def jF (e f g h i j b k l m:Vl) (n:KV) (o:KW) (R:RT) (w:Wd):Prop:=
 ZD l m (.bool false) λ c=>
 Zq (λ (a:Vl) (w:Wd)=>
 BG e f g h i j b k c a n o R w) λ d=>
 Zp c true (
 opV Pg (indexAt 94 b (.int .i64 0)) (Zb R) w λ p w=>
 opV Pg (loadAt 9 p) (Zb R) w λ q w=>
 opV Pg (Zh .eql 9 true q (.string { data := #[109,97,112] })) (Zb R) w λ a w=>
 d a w) (
 d undef w)
def CW (e f g h i j b k l m:Vl) (n:KV) (o:KW) (R:RT) (w:Wd):Prop:=
 ZD l m (.bool false) λ c=>
 Zq (λ (a:Vl) (w:Wd)=>
 jF e f g h i j b k c a n o R w) λ d=>
 Zp c true (
 opV Pg (Builtin.len_ #[94] 3 #[b]) (Zb R) w λ p w=>
 opV Pg (Zh .eql 3 true p (.int .i64 3)) (Zb R) w λ a w=>
 d a w) (
 d undef w)
def N6 (a b c d:Vl) (e:KW) (R:RT) (w:Wd):Prop:=
 opV Pg (indexAt 94 d (.int .i64 1)) (Zb R) w λ f w=>
 opV Pg (loadAt 9 f) (Zb R) w λ g w=>
 opV Pg (fieldAt 24 a 0) (Zb R) w λ h w=>
 opU Pg (storeAt 9 h g) (Zb R) w λ w=>
 e b c w
def jG (f g b h c i j k:Vl) (l:KV) (m:KW) (R:RT) (w:Wd):Prop:=
 opV Pg (Zh .gtr 3 true c (.int .i64 0)) (Zb R) w λ d w=>
 Zq (λ (a:Vl) (w:Wd)=>
 CW f g b h c i j k d a l m R w) λ e=>
 Zp d true (
 opV Pg (Op.unary .not b) (Zb R) w λ a w=>
 e a w) (
 e undef w)
def jH (c a b g d h e i j k:Vl) (l:KV) (Yk:Vl→Vl→Vl→Wd→Prop) (R:RT) (w:Wd):Prop:=
 ZD j k (.bool false) λ m=>
 Zq (λ (a:Vl) (b:Vl) (w:Wd)=>
 opV Pg (Zh .add 3 true d (.int .i64 1)) (Zb R) w λ n w=>
 Yk a b n w) λ f=>
 Zu m (
 N6 c a b e f R w) (
 jG c a b g d h e i l f R w)
def jI (e f g h i j b k l m:Vl) (n:KV) (Yk:Vl→Vl→Vl→Wd→Prop) (R:RT) (w:Wd):Prop:=
 ZD l m (.bool false) λ c=>
 Zq (λ (a:Vl) (w:Wd)=>
 jH e f g h i j b k c a n Yk R w) λ d=>
 Zp c true (
 opV Pg (indexAt 94 b (.int .i64 1)) (Zb R) w λ o w=>
 opV Pg (loadAt 9 o) (Zb R) w λ p w=>
 opV Pg (buildSlice 94 1 #[(0,p)]) (Zb R) w λ q w=>
 Zg Pg 52 #[q] (Zb R) w λ a w=>
 d a w) (
 d undef w)
def CX (e f g h i j b k l m:Vl) (n:KV) (Yk:Vl→Vl→Vl→Wd→Prop) (R:RT) (w:Wd):Prop:=
 ZD l m (.bool false) λ c=>
 Zq (λ (a:Vl) (w:Wd)=>
 jI e f g h i j b k c a n Yk R w) λ d=>
 Zp c true (
 opV Pg (indexAt 94 b (.int .i64 0)) (Zb R) w λ o w=>
 opV Pg (loadAt 9 o) (Zb R) w λ p w=>
 opV Pg (Zh .eql 9 true p (.string { data := #[109,97,112,112,105,110,103] })) (Zb R) w λ a w=>
 d a w) (
 d undef w)
def CY (f g h i b j c k:Vl) (l:KV) (Yk:Vl→Vl→Vl→Wd→Prop) (R:RT) (w:Wd):Prop:=
 opV Pg (Zh .eql 3 true b (.int .i64 0)) (Zb R) w λ d w=>
 Zq (λ (a:Vl) (w:Wd)=>
 CX f g h i b j c k d a l Yk R w) λ e=>
 Zp d true (
 opV Pg (Builtin.len_ #[94] 3 #[c]) (Zb R) w λ m w=>
 opV Pg (Zh .eql 3 true m (.int .i64 2)) (Zb R) w λ a w=>
 e a w) (
 e undef w)
def Hj (a:Vl) (R:RT) (w:Wd):Prop:=
 opV Pg (loadAt 24 a) (Zb R) w λ b w=>
 opU Pg (storeAt 24 a b) (Zb R) w λ w=>
 qW Pg 24 a w λ r0=>
 R (.returned (.tuple #[r0,(.int .i64 0),(.int .i64 0)])) w
def jJ (c d e f a g h i j:Vl) (b:KV) (Yk:Vl→Vl→Vl→Wd→Prop) (R:RT) (w:Wd):Prop:=
 opV Pg (Op.unary .not h) (Zb R) w λ k w=>
 Zu k (
 opV Pg (Zh .add 3 true a (.int .i64 1)) (Zb R) w λ l w=>
 b l w) (
 CY c d e f a g i j b Yk R w)
def yJ (b f c g h i j k l m n:Vl) (o:KV) (Yk:Vl→Vl→Vl→Wd→Prop) (R:RT) (w:Wd):Prop:=
 ZD m n (.bool false) λ d=>
 Zq (λ (a:Vl) (w:Wd)=>
 ZD d a (.bool false) λ p=>
 Zu p (
 Hj b R w) (
 jJ b f c g h i j k l o Yk R w)) λ e=>
 Zp d true (
 opV Pg (Op.unary .not c) (Zb R) w λ a w=>
 e a w) (
 e undef w)
def Gu (e f g h b i j k l m n:Vl) (o:KV) (Yk:Vl→Vl→Vl→Wd→Prop) (R:RT) (w:Wd):Prop:=
 ZD m n (.bool false) λ c=>
 Zq (λ (a:Vl) (w:Wd)=>
 yJ e f g h b i j k l c a o Yk R w) λ d=>
 Zp c true (
 opV Pg (Zh .gtr 3 true b (.int .i64 0)) (Zb R) w λ a w=>
 d a w) (
 d undef w)
def N7 (h i j k b c l d:Vl) (m:KV) (Yk:Vl→Vl→Vl→Wd→Prop) (R:RT) (w:Wd):Prop:=
 opV Pg (Instr.extract d 0) (Zb R) w λ n w=>
 opV Pg (Instr.extract d 1) (Zb R) w λ o w=>
 opV Pg (Instr.alloc 43 true (.tuple #[])) (Zb R) w λ e w=>
 opU Pg (storeAt 43 e n) (Zb R) w λ w=>
 opV Pg (Op.unary .not c) (Zb R) w λ f w=>
 Zq (λ (a:Vl) (w:Wd)=>
 Gu h i j e k b c l o f a m Yk R w) λ g=>
 Zp f true (
 opV Pg (Zh .eql 9 true b (.string { data := #[] })) (Zb R) w λ a w=>
 g a w) (
 g undef w)
def N8 (c d e f b:Vl) (g:KV) (Yk:Vl→Vl→Vl→Wd→Prop) (R:RT) (w:Wd):Prop:=
 opV Pg (Instr.extract b 0) (Zb R) w λ a w=>
 opV Pg (Instr.extract b 1) (Zb R) w λ h w=>
 Zg Pg 50 #[a,(.string { data := #[32] })] (Zb R) w λ i w=>
 Zg Pg 51 #[a] (Zb R) w λ j w=>
 N7 c d e f a h i j g Yk R w
def Hk (b c d e a:Vl) (f:KV) (Yk:Vl→Vl→Vl→Wd→Prop) (R:RT) (w:Wd):Prop:=
 opV Pg (indexAt 94 e a) (Zb R) w λ g w=>
 opV Pg (loadAt 9 g) (Zb R) w λ h w=>
 Zg Pg 49 #[h,(.string { data := #[10] })] (Zb R) w λ i w=>
 N8 b c d a i f Yk R w
def N9 (b c:Vl) (R:RT) (w:Wd):Prop:=
 opV Pg (Builtin.len_ #[94] 3 #[c]) (Zb R) w λ f w=>
 Zq (λ (a:Vl) (w:Wd)=>
 N5 b a R w) λ d=>
 Kv (λ a g e w Yk=>
 opV Pg (Zh .lss 3 false e f) (Zb R) w λ h w=>
 Zu h (
 Hk b a g c e d Yk R w) (
 d a w)) (.int .i64 0) (.bool false) (.int .i64 0) w
def n19 (a:Vl) (R:RT) (w:Wd):Prop:=
 opV Pg (Instr.alloc 24 true (.tuple #[])) (Zb R) w λ b w=>
 Zg Pg 48 #[a,(.string { data := #[10] })] (Zb R) w λ c w=>
 N9 b c R w
set_option maxHeartbeats 40000000 in
theorem ZgM {t0:Vl} {R:RT} {w:Wd} (h:n19 t0 R w):Calls Pg 22 #[t0] w R:=by
 refine yD func22 ?_
 refine zs<|zr<|yv h λ _ w h=>zm<|zm<|zn<|zk<|MA<|zs<|zr<|zm<|yc h c48 λ _ w h=>zm<|zn<|zk ?_
 refine zs<|zr<|zm<|zn<|zk<|zs<|Mz<|zk<|zs<|zs<|zr<|zm<|yx h λ _ w h=>zm<|zn ?_
 refine zk<|yJ1 [3,4,6,7,8,9,10,11,12,13,14,19,20,21,22,23,24,25,26,27,28,29,30,31,32,33,34,35,36,37,38,39,40,41,42,43,44,45,46,47,48,49,50,51,52,53,54,55,56,57,58,59,60,61,62,63,64,65,66,67,68,69,70,71,72,73,74,75,76,77,78,79,80,81,82,83,84,85,86,87,88,89,90,91,92,93,94,95,96,97,98,99,100,101,102,103,104,105,106,107,108,109,110,111,112,113,114,115,116,117,118,119,120,121,122,123,124,125,126,127,128,129,130,131,132,133,134,135,136,137,138,139,140,141,142,143,144,145,146,147] 3 h (λ _ _ hkK1 h=>?_) λ σ w h=>?_
 · refine Zn<|yl3 [3,4,6,7,8,9,10,11,12,13,14,19,20,21,22,23,24,25,26,27,28,29,30,31,32,33,34,35,36,37,38,39,40,41,42,43,44,45,46,47,48,49,50,51,52,53,54,55,56,57,58,59,60,61,62,63,64,65,66,67,68,69,70,71,72,73,74,75,76,77,78,79,80,81,82,83,84,85,86,87,88,89,90,91,92,93,94,95,96,97,98,99,100,101,102,103,104,105,106,107,108,109,110,111,112,113,114,115,116,117,118,119,120,121,122,123,124,125,126,127,128,129,130,131,132,133,134,135,136,137,138,139,140,141,142,143,144,145,146,147] 3 6 19 h λ σ w next h=>zs<|zr<|yb h λ _ w h=>zn<|zk<|zs<|yC h (λ h=>?_) λ h=>?_
   · refine Zo<|zk<|zs<|Zn<|zs<|zr<|zm<|yv h λ _ w h=>yv h λ _ w h=>zm<|zm<|zn<|zk<|zs<|zr ?_
     refine zm<|yc h c49 λ _ w h=>zm<|yv h λ _ w h=>yv h λ _ w h=>zm<|zm<|zn<|zk<|zs<|zr<|zm<|yc h c50 λ _ w h=>zm<|zn ?_
     refine zk<|zs<|zr<|zm<|yc h c51 λ _ w h=>zm<|yv h λ _ w h=>yv h λ _ w h=>yv h λ _ w h=>yu h λ w h=>zm<|zn<|zk<|Zn<|zs ?_
     refine Zr<|yG 3<|zm<|yv h λ _ w h=>zm<|zn<|yg1 2 2 true [42,43] 43 h (λ _ T hT h=>?_) λ σ w h=>?_
     · refine zm<|yb h λ _ w h=>zn ?_
       exact zt hT h
     refine yG 2<|yp h λ _ h=>zm<|zn<|yg1 2 6 true [46,47] 47 h (λ _ T hT h=>?_) λ σ w h=>?_
     · refine zm<|yb h λ _ w h=>zn ?_
       exact zt hT h
     refine yG 2<|yp h λ _ h=>zm<|zn<|yg1 2 10 true [50,51] 51 h (λ _ T hT h=>?_) λ σ w h=>?_
     · refine zm<|yv h λ _ w h=>zn ?_
       exact zt hT h
     refine yG 2<|yp h λ _ h=>zm<|zn<|ZK<|zk<|yC h (λ h=>?_) λ h=>?_
     · refine zs<|zr<|yv h λ _ w h=>yu h λ w h=>zm<|zm<|zn<|zk<|Zi<|Zj<|Zj<|Zc<|Zc<|Zj<|Zc ?_
       exact Zc<|xo rfl rfl rfl rfl h
     refine zs<|zr<|zm<|yv h λ _ w h=>zm<|zn<|zk<|yC h (λ h=>?_) λ h=>?_
     · refine zs<|zr<|zm<|yb h λ _ w h=>zm<|zn<|zk<|ZR<|Qw rfl<|Qw rfl<|Ze<|Ze<|Zx<|zk ?_
       exact zt hkK1 h
     refine zs<|Zr<|yG 3<|zm<|yb h λ _ w h=>zm<|zn<|yg1 3 2 true [63,64,65] 65 h (λ _ T hT h=>?_) λ σ w h=>?_
     · refine zm<|yx h λ _ w h=>yb h λ _ w h=>zn ?_
       exact zt hT h
     refine yG 2<|yp h λ _ h=>zm<|zn<|yg1 4 7 true [68,69,70,71] 71 h (λ _ T hT h=>?_) λ σ w h=>?_
     · refine zm<|yv h λ _ w h=>yv h λ _ w h=>yb h λ _ w h=>zn ?_
       exact zt hT h
     refine yG 2<|yp h λ _ h=>zm<|zn<|yg1 5 13 true [74,75,76,77,78] 78 h (λ _ T hT h=>?_) λ σ w h=>?_
     · refine zm<|yv h λ _ w h=>yv h λ _ w h=>yS h λ _ w h=>yc h c52 λ _ w h=>zn ?_
       exact zt hT h
     refine yG 2<|yp h λ _ h=>zm<|zn<|ZK<|zk<|yJ2 [3,6,14,36,37,80,81,82,83,84,85,86,87,88,89,90,91,92,93,94,95,96,97,98,99,100,101,102,103,104,105,106,107,108,109,110,111,112,113,114,115,116,117,118,119,120,121,122,123,124,125,126,127,128,129,130,131,132,133,134,135,136,137,138,139,140,141,142,143,144,145,146] 3 6 h (λ _ _ hkK9 h=>?_) λ σ w h=>?_
     · refine yC h (λ h=>?_) λ h=>?_
       · refine zr<|zm<|yv h λ _ w h=>yv h λ _ w h=>yv h λ _ w h=>yu h λ w h=>zn<|zk ?_
         exact zt hkK9 h
       refine zs<|Zr<|yG 3<|zm<|yb h λ _ w h=>zm<|zn<|yg1 2 2 true [88,89] 89 h (λ _ T hT h=>?_) λ σ w h=>?_
       · refine zm<|yv h λ _ w h=>zn ?_
         exact zt hT h
       refine yG 2<|yp h λ _ h=>zm<|zn<|yg1 3 6 true [92,93,94] 94 h (λ _ T hT h=>?_) λ σ w h=>?_
       · refine zm<|yx h λ _ w h=>yb h λ _ w h=>zn ?_
         exact zt hT h
       refine yG 2<|yp h λ _ h=>zm<|zn<|yg1 4 11 true [97,98,99,100] 100 h (λ _ T hT h=>?_) λ σ w h=>?_
       · refine zm<|yv h λ _ w h=>yv h λ _ w h=>yb h λ _ w h=>zn ?_
         exact zt hT h
       refine yG 2<|yp h λ _ h=>zm<|zn<|yg1 3 17 true [103,104,105] 105 h (λ _ T hT h=>?_) λ σ w h=>?_
       · refine zm<|yv h λ _ w h=>yc h c52 λ _ w h=>zn ?_
         exact zt hT h
       refine yG 2<|yp h λ _ h=>zm<|zn<|ZK<|zk<|yC h (λ h=>?_) λ h=>?_
       · refine zs<|yh [107,108,109,110,111,112,113,114,115,116,117,118] h λ C hC h=>ye 0 hC h λ _ h=>?_
         refine ye 1 hC h λ _ h=>?_
         refine yw 2 hC ?_
         refine ye 3 hC h λ _ h=>?_
         refine ye 4 hC h λ _ h=>?_
         refine yw 5 hC ?_
         refine ye 6 hC h λ _ h=>?_
         refine ye 7 hC h λ _ h=>?_
         refine ye 8 hC h λ _ h=>?_
         refine yo 9 ?_
         refine yS h λ _ w h=>zn ?_
         obtain ⟨hC,h⟩:=h
         refine ⟨hC,?_⟩
         refine yo 10 ?_
         refine yx h λ _ w h=>zn ?_
         obtain ⟨hC,h⟩:=h
         refine ⟨hC,?_⟩
         refine ye 11 hC h λ _ h=>?_
         refine yq 12 1 ?_
         refine yu h λ w h=>zn ?_
         obtain ⟨C15,hC,h⟩:=h
         refine ⟨C15,hC,?_⟩
         refine yz<|zk<|zr<|zm<|zn<|zk ?_
         exact zt hkK9 h
       refine zs<|Zr<|yG 2<|zm<|zm<|zn<|yg1 2 1 true [122,123] 123 h (λ _ T hT h=>?_) λ σ w h=>?_
       · refine zm<|yb h λ _ w h=>zn ?_
         exact zt hT h
       refine yG 2<|yp h λ _ h=>zm<|zn<|ZK<|zk<|yC h (λ h=>?_) λ h=>?_
       · refine zr<|zm<|zn<|zk ?_
         exact zt hkK9 h
       refine zs<|Zr<|yG 2<|zm<|zm<|zn<|yg1 1 1 true [128] 128 h (λ _ T hT h=>?_) λ σ w h=>?_
       · refine zm<|zn ?_
         exact zt hT h
       refine yG 2<|yp h λ _ h=>zm<|zn<|ZK<|zk<|yC h (λ h=>?_) λ h=>?_
       · refine zs<|zr<|yv h λ _ w h=>yv h λ _ w h=>yv h λ _ w h=>yv h λ _ w h=>yx h λ _ w h=>yb h λ _ w h=>yv h λ _ w h=>zm<|zn<|zk<|yh [137,138,139,140,141,142,143,144,145,146] h λ C hC h=>yw 0 hC ?_
         refine yw 1 hC ?_
         refine yn 2 hC h λ _ h=>?_
         refine ye 3 hC h λ _ h=>?_
         refine ye 4 hC h λ _ h=>?_
         refine ye 5 hC h λ _ h=>?_
         refine yo 6 ?_
         refine yS h λ _ w h=>zn ?_
         obtain ⟨hC,h⟩:=h
         refine ⟨hC,?_⟩
         refine yo 7 ?_
         refine yx h λ _ w h=>zn ?_
         obtain ⟨hC,h⟩:=h
         refine ⟨hC,?_⟩
         refine yn 8 hC h λ _ h=>?_
         refine ye 9 hC h λ _ h=>?_
         refine yq 10 2 ?_
         refine yu h λ w h=>zn ?_
         obtain ⟨C19,hC,h⟩:=h
         refine ⟨C19,hC,?_⟩
         refine yz<|zk ?_
         exact zt hkK9 h
       refine zs<|zr<|zm<|yb h λ _ w h=>zm<|zn<|zk<|ZR<|Ze<|Qw rfl<|Qw rfl<|Ze<|Ze<|Zx<|zk ?_
       exact zt hkK1 h
     exact Zf<|Zf<|zk<|zr<|yb h λ _ w h=>zm<|zn<|zk<|⟨rfl,h⟩
   refine ZR<|Ze<|Ze<|Zx<|zk ?_
   exact zt hkK1 h
 exact zk<|zs<|zr<|yB h λ _ w h=>zm<|yu h λ w h=>zm<|zm<|zn<|zk<|Zi<|xo rfl rfl rfl rfl h
open Go.RowKit (intOf Below)
theorem Ln {w:Wd} {QP:PEn} {k:KV} {base:Nat} {v:Vl} {l:List (Cs 3)} (x:Cs 3) {b:Nat} (h1:∀ u∈x.1,u.oneCell'=true) (je:ZT w base 60 3 Subtype.val v l) (hc:w.heap[b]?=some (.cells x.1.toArray 60 (0,0))) (Ks:base≤w.heap.size) (hl:l.length≤1048576)
 (hk:∀ v' w',ZT w' base 60 3 Subtype.val v' (l++[x])→w.grownBy w' v.ownBlock→k v' w') :
 opV Pg (Builtin.append_ #[22,22] 22 #[v,.slice (some ⟨b,0,none⟩) 1 1]) QP w k:=by
 have hby:=Zfr
 refine Wv (l':=[x]) underlying22 AL rfl (by decide) (λ x=>x.2) (λ y hy u hu=>by rw [List.mem_singleton.1 hy] at hu;exact h1 u hu) je (λ j y hy=>?_) Ks ?_ (by simp;omega) hk
 · cases j with
   | zero=>
    simp at hy;subst hy
    intro j v hv
    rw [(Za hc).1]
    simpa using hv
   | succ j=>simp at hy
 · simp only [List.length_cons,List.length_nil]
   exact Nat.le_trans (Nat.mul_le_mul (Nat.add_le_add_right hl 1) hby) (by decide)
theorem Lm {w:Wd} {QP:PEn} {k:KV} {base:Nat} {v:Vl} {l:List (Cs 7)} (x:Cs 7) {b:Nat} (h1:∀ u∈x.1,u.oneCell'=true) (je:ZT w base 43 7 Subtype.val v l) (hc:w.heap[b]?=some (.cells x.1.toArray 43 (0,0))) (Ks:base≤w.heap.size) (hl:l.length≤1048576)
 (hk:∀ v' w',ZT w' base 43 7 Subtype.val v' (l++[x])→w.grownBy w' v.ownBlock→k v' w') :
 opV Pg (Builtin.append_ #[58,58] 58 #[v,.slice (some ⟨b,0,none⟩) 1 1]) QP w k:=by
 have hby:=Zfq
 refine Wv (l':=[x]) underlying58 Ua rfl (by decide) (λ x=>x.2) (λ y hy u hu=>by rw [List.mem_singleton.1 hy] at hu;exact h1 u hu) je (λ j y hy=>?_) Ks ?_ (by simp;omega) hk
 · cases j with
   | zero=>
    simp at hy;subst hy
    intro j v hv
    rw [(Za hc).1]
    simpa using hv
   | succ j=>simp at hy
 · simp only [List.length_cons,List.length_nil]
   exact Nat.le_trans (Nat.mul_le_mul (Nat.add_le_add_right hl 1) hby) (by decide)
section
variable {α:Type} {w w':Wd} {b0 lo hi lo2 n:Nat} {fv v:Vl} {fs:List FrD} {cs:List Vl} {x:FrD} {r:MrD} {T:TypeId} {enc:α→List Vl} {l:List α}
theorem Ag (hO:ZT w lo2 T n enc v l) (hg:w.grownBy w' v.ownBlock):Ext w w'∨∃ g oc f,v.ownBlock=some g∧w.heap[g]?=some (.cells oc T f)∧Chg g w w':=by
 rcases hO.2 with ⟨rfl,_⟩ | ⟨g',cap,cur,rfl,_,hg',_⟩
 · exact .inl ((Ext.refl w).grown hg λ k hk=>by cases hk)
 · exact .inr ⟨g',_,_,rfl,hg',hg.size,λ b hb YW=>hg.block b hb λ e=>YW (by injection e)⟩
theorem E7.grow (h:E7 w b0 cs x) (hO:ZT w lo2 T n enc v l) (hg:w.grownBy w' v.ownBlock) (h1:5≠T) (h2:78≠T):E7 w' b0 cs x:=by
 rcases Ag hO hg with e | ⟨g,oc,f,_,ho,hc⟩
 · exact h.ext e
 · exact h.chg hc ho h1 h2
theorem WZ.grow (h:WZ w b0 lo hi fv fs) (hO:ZT w lo2 T n enc v l) (hg:w.grownBy w' v.ownBlock) (h1:5≠T) (h2:78≠T) (h3:∀ g,v.ownBlock=some g→fv.ownBlock≠some g):WZ w' b0 lo hi fv fs:=by
 rcases Ag hO hg with e | ⟨g,oc,f,hv,ho,hc⟩
 · exact h.ext e
 · exact h.chg hc ho h1 h2 (h3 g hv)
theorem WZ.growT (h:WZ w b0 lo hi fv fs) (hO:ZT w lo2 T n enc v l) (hg:w.grownBy w' v.ownBlock) (h1:5≠T) (h2:78≠T) (h3:43≠T):WZ w' b0 lo hi fv fs:=by
 rcases Ag hO hg with e | ⟨g,oc,f,hv,ho,hc⟩
 · exact h.ext e
 · exact h.chgT hc ho h1 h2 h3
theorem HT {b:Nat} {oc:AVl} {T':TypeId} {f:Nat×Nat} (hO:ZT w lo2 T n enc v l) (hb:w.heap[b]?=some (.cells oc T' f)) (hT:T'≠T):b≠v.ownBlock.getD w.heap.size:=by
 have Yq:=(Array.getElem?_eq_some_iff.1 hb).1
 rcases hO.2 with ⟨rfl,_⟩ | ⟨g',cap,cur,rfl,_,hg',_⟩
 · show b≠w.heap.size
   omega
 · show b≠g'
   rintro rfl
   rw [hb] at hg'
   injection hg' with hg'
   injection hg' with _ hg'
   exact hT hg'
theorem Kq {b:Nat} {oc:AVl} {T':TypeId} {f:Nat×Nat} (hO:ZT w lo2 T n enc v l) (hg:w.grownBy w' v.ownBlock) (hb:w.heap[b]?=some (.cells oc T' f)) (hT:T'≠T):w'.heap[b]?=some (.cells oc T' f):=by
 rw [hg.block b (Array.getElem?_eq_some_iff.1 hb).1 λ e=>HT hO hb hT (by rw [← e];rfl)]
 exact hb
end
section
variable {b16:Nat} {lcs:AVl} {w0 w w1:Wd} {p2 p12 B bw:Nat} {nm:BAr} {done:List MrD} {rv t3 t6:Vl} {r:MrD} {ws:List BAr} {a b:BAr} {K9:KW} {R:RT}
theorem Mj (h:PS b16 lcs w0 w1 p2 B ⟨nm,done,none⟩ rv) (e:Ext w1 w) (hl:done.length≤1048576) (hbw:w1.heap.size≤bw) (ha:w.cell? ⟨bw,1,none⟩=some (.string a)) (hb:w.cell? ⟨bw,2,none⟩=some (.string b))
 (hK:∀ w' rv',PS b16 lcs w0 w' p2 B ⟨nm,done,some ⟨a,b,[]⟩⟩ rv'→K9 t3 (.bool true) w') :
 Ye w λ C w=>Oa (.pointer (some ⟨p2,0,none⟩)) t3 (.slice (some ⟨bw,0,none⟩) 3 3) C K9 R w:=by
 obtain ⟨css,dss,hO1,m1,m2⟩:=h.row
 have:dss=[]:=List.eq_nil_of_length_eq_zero m2.1
 subst this
 rw [List.append_nil] at hO1
 have hO:=hO1.ext e
 have lbw:bw < w.heap.size:=World.block_lt_of_cell? _ _ ha
 replace m1:=m1.imp λ _ _ (h:DE w1 w0.heap.size w0.heap.size B _ _)=>h.ext e
 have h1:=h
 replace h:=h.go e
 obtain ⟨g,hgd⟩:∃ g,rv.ownBlock.getD w.heap.size=g:=⟨_,rfl⟩
 have n2:p2≠g:=by rw [← hgd];exact HT hO h.obj (by decide)
 have nW:bw≠g:=by
  rw [← hgd]
  cases hv:rv.ownBlock with
  | none=>show bw≠w.heap.size;omega
  | some b=>have:=(World.ownsRow.lt hO1 b hv).2;show bw≠b;omega
 refine Xl g g (w1:=w) (λ _ _ _ _=>rfl) ?_
 haveI:Yn (KB w g g):=⟨⟨w,λ _ _ _ _=>rfl⟩⟩
 have q:=Za h.obj
 unfold Oa
 simp (disch:=try exact DI) only [↓PR,QR,simprocAttr,q.1]
 rw [Ym λ QP w' k'=>Yl (k:=k') underlying94 ty9 bw 0 3 3 .i64 1 (by decide) (by decide),show 0+(1:Int).toNat*1=1 from rfl]
 simp (disch:=try exact DI) only [↓PR,QR,simprocAttr,ha]
 rw [Ym λ QP w' k'=>Yl (k:=k') underlying94 ty9 bw 0 3 3 .i64 2 (by decide) (by decide),show 0+(2:Int).toNat*1=2 from rfl]
 simp (disch:=try exact DI) only [↓PR,QR,simprocAttr,hb]
 have eV:Ext w (w.drew.alloc (Obj.cells #[Value.string a,Value.string b,Value.slice none 0 0] 60)):=(Ext.refl w).drew.alloc _
 have oV:=Zz w.drew #[Value.string a,Value.string b,Value.slice none 0 0] 60
 rw [World.size_drew] at oV
 generalize (w.drew.alloc (Obj.cells #[Value.string a,Value.string b,Value.slice none 0 0] 60))=V at eV oV ⊢
 refine ⟨λ b hb _ _=>eV.block b hb,?_⟩
 have hOV:=hO.ext eV
 have hll:css.length=done.length:=m1.1
 have hr1:rv.oneCell'=true:=h.one
 unfold Th
 refine Ln (x:=⟨YY ⟨a,b,[]⟩ (.slice none 0 0),rfl⟩) (λ u hu=>?_) hOV oV (Nat.le_trans h.e.size eV.size) (by omega) ?_
 · simp only [List.mem_cons,List.not_mem_nil,or_false] at hu
   rcases hu with rfl | rfl | rfl<;>rfl
 intro v' w' hO' hg
 have e16:=Kq hOV hg (eV.obj h.ln) (by decide)
 have e2:=Kq hOV hg (eV.obj h.obj) (by decide)
 refine ⟨λ b hb hbg _=>(hg.block b (Nat.lt_of_lt_of_le hb eV.size) λ e=>hbg (by rw [← hgd,← e];rfl)).trans (eV.block b hb),?_⟩
 have lo:∀ b,rv.ownBlock=some b→w0.heap.size≤b:=λ b hb=>(World.ownsRow.lt hO b hb).1
 have e':Ext w0 w':=(h.e.trans eV).grown hg lo
 have v1:v'.oneCell'=true:=Zd.oneCell (hO'.slice (E:=λ _ cs x=>cs=x.1) (λ x=>x.2) (λ _ _=>rfl))
 simp (disch:=try exact DI) only [↓PR,QR,simprocAttr,(Za e2).1,(Za e2).2]
 refine Xb ?_
 have n16:b16≠p2:=by
  rintro rfl
  have:=h.ln.symm.trans h.obj
  cases this
 have hc:Chg p2 w' (w'.setCell ⟨p2,1,none⟩ v'):=⟨by rw [World.size_setCell];exact Nat.le_refl _,λ b _ hb=>YH.setCell _ p2 _ _ b hb⟩
 have hz:(w'.setCell ⟨p2,1,none⟩ v').heap.size=w'.heap.size:=World.size_setCell ..
 refine hK _ v' ⟨(hc.block b16 (Array.getElem?_eq_some_iff.1 e16).1 n16).trans e16,e'.setCell (p:=⟨p2,1,none⟩) h.lp _,h.lp,Zw (o:=1) e2 _,h.b1,?_,css,[⟨YY ⟨a,b,[]⟩ (.slice none 0 0),rfl⟩],JM hO' hc (Ux hO' e2 (by decide)),m1.imp λ _ _ ⟨fv,g1,g2⟩=>⟨fv,g1,((g2.ext eV).growT hOV hg (by decide) (by decide) (by decide)).chgT hc e2 (by decide) (by decide) (by decide)⟩,rfl,λ k x cs hx hcs=>?_⟩
 · rw [hz]
   exact Nat.le_trans h.b2 (Nat.le_trans eV.size hg.size)
 · cases k with
   | succ k=>simp at hx
   | zero=>
    simp at hx hcs
    subst hx hcs
    exact ⟨_,rfl,[],ZT.nil _ _ _ _ _,(λ b hb=>by cases hb),rfl,λ k x cs hx=>by simp at hx⟩
theorem FZ (h:PS b16 lcs w0 w1 p2 B ⟨nm,done,some r⟩ rv) (e:Ext w1 w) (hp:w1.heap.size≤p12) (x:FrD) (bv tv:Vl) (o12:w.heap[p12]?=some (.cells (ZB x bv tv).toArray 43 (0,0))) (hb:ZT w w0.heap.size 5 1 XF bv x.bytes) (ht:ZT w w0.heap.size 78 3 Z6 tv x.table) (hl:done.length≤1000000) (hf:r.fields.length≤1048576)
 (hK:∀ w' rv',PS b16 lcs w0 w' p2 B ⟨nm,done,some ⟨r.fr,r.to,r.fields++[x]⟩⟩ rv'→K9 t3 t6 w') :
 Ob (.pointer (some ⟨p2,0,none⟩)) t3 t6 (.pointer (some ⟨p12,0,none⟩)) K9 R w:=by
 have h0:=h.go e
 obtain ⟨css,dss,hO,m1,m2⟩:=h.row
 obtain ⟨c,rfl⟩:∃ c,dss=[c]:=List.length_eq_one_iff.1 m2.1
 obtain ⟨fv,hcf,css7,hF,hFlt,hFm⟩:=m2.2 0 r c rfl rfl
 have hO0:=hO.ext e
 have hF0:=hF.ext e
 have XA:(css++[c]).length=css.length+1:=by simp
 have hdl:css.length=done.length:=m1.1
 obtain ⟨gr,cap,rfl,hlo',hgs,⟨oc,f,hgr⟩,hfz,YV⟩:=hO0.row (λ x=>x.2) (by rw [XA];omega)
 have hEl:=YV css.length c (by simp)
 rw [hcf] at hEl
 rw [XA] at h0
 have hwk:IntKind.i64.wrap (((css.length+1:Nat):Int) - 1)=(css.length:Int):=by rw [Xf (by omega) (by omega)];omega
 have hr1:=h0.one
 unfold Ob
 simp (disch:=try exact DI) only [↓PR,QR,simprocAttr,(Za h0.obj).1,hwk]
 rw [Nat.zero_add]
 obtain ⟨gf,hgd⟩:∃ gf,fv.ownBlock.getD w.heap.size=gf:=⟨_,rfl⟩
 have nR:gr≠gf:=by rw [← hgd];exact HT hF0 hgr (by decide)
 have l12:=(Array.getElem?_eq_some_iff.1 o12).1
 have n12:p12≠gf:=by
  rw [← hgd]
  cases hv:fv.ownBlock with
  | none=>show p12≠w.heap.size;omega
  | some g=>have:=hFlt g hv;show p12≠g;omega
 refine Xl gf gf (w1:=w) (λ _ _ _ _=>rfl) ?_
 haveI:Yn (KB w gf gf):=⟨⟨w,λ _ _ _ _=>rfl⟩⟩
 have q12:=Za o12
 have hfc:w.cell? ⟨gr,css.length*3+2,none⟩=some fv:=hEl 2 fv rfl
 have L12:∀ w',KB w gf gf w'→QE Pg w' 43 ⟨p12,0,none⟩ (.agg (ZB x bv tv).toArray):=λ w' hw'=>QE.many Ua rfl (λ j u hu=>by
  rw [Addr.add_lit]
  exact KB.cell (b:=p12) hw' n12 n12 (by rw [q12.1];simpa using hu))
 unfold Tj
 simp (disch:=try exact DI) only [↓PR,QR,simprocAttr,hfc]
 rw [Fa L12]
 simp (disch:=try exact DI) only [↓PR,QR,simprocAttr]
 have eV:Ext w (w.drew.alloc (Obj.cells (ZB x bv tv).toArray 43)):=(Ext.refl w).drew.alloc _
 have oV:=Zz w.drew (ZB x bv tv).toArray 43
 rw [World.size_drew] at oV
 change KB w gf gf (w.drew.alloc (Obj.cells (ZB x bv tv).toArray 43))∧opV _ _ _ (w.drew.alloc (Obj.cells (ZB x bv tv).toArray 43)) _
 generalize (w.drew.alloc (Obj.cells (ZB x bv tv).toArray 43))=V at eV oV ⊢
 refine ⟨λ b hb _ _=>eV.block b hb,?_⟩
 have hFV:=hF0.ext eV
 have hfl:css7.length=r.fields.length:=hFm.1
 have hB1:B≤w1.heap.size:=h.b2
 have hB0:w0.heap.size≤B:=h.b1
 have s1:=e.size
 have s2:=eV.size
 have ob1:bv.oneCell'=true:=Zd.oneCell (GH hb)
 have ot1:tv.oneCell'=true:=Zd.oneCell (Vx ht)
 have hlo:∀ b,fv.ownBlock=some b→B≤b:=λ b hb=>(World.ownsRow.lt hF b hb).1
 refine Lm (x:=⟨ZB x bv tv,rfl⟩) (λ u hu=>?_) hFV oV (by omega) (by omega) ?_
 · simp only [List.mem_cons,List.not_mem_nil,or_false] at hu
   rcases hu with rfl | rfl | rfl | rfl | rfl | rfl | rfl<;>first | rfl | assumption
 intro v' w' hF' hg
 refine ⟨λ b hb hbg _=>(hg.block b (Nat.lt_of_lt_of_le hb eV.size) λ e=>hbg (by rw [← hgd,← e];rfl)).trans (eV.block b hb),?_⟩
 have e16:=Kq hFV hg (eV.obj h0.ln) (by decide)
 have e2:=Kq hFV hg (eV.obj h0.obj) (by decide)
 have eg:=Kq hFV hg (eV.obj hgr) (by decide)
 have e':Ext w0 w':=(h0.e.trans eV).grown hg λ b hb=>Nat.le_trans hB0 (hlo b hb)
 have hOw:=(hO0.ext eV).grown hg λ b hb hb2=>nR (by
  have:gr=b:=by simpa [Value.ownBlock] using hb
  rw [this,← hgd,hb2]
  rfl)
 obtain ⟨gr2,cap2,hv2,_,_,_,hfz2,hel2⟩:=hOw.row (λ x=>x.2) (by rw [XA];omega)
 injection hv2 with hv2 _ _
 injection hv2 with hv2
 injection hv2 with hv2
 subst hv2
 have hEl2:=hel2 css.length c (by simp)
 rw [hcf] at hEl2
 have hfc2:w'.cell? ⟨gr,css.length*3+2,none⟩=some fv:=hEl2 2 fv rfl
 have v1:v'.oneCell'=true:=Zd.oneCell (hF'.slice (E:=λ _ cs x=>cs=x.1) (λ x=>x.2) (λ _ _=>rfl))
 unfold Ti
 simp (disch:=try exact DI) only [↓PR,QR,simprocAttr,hfc2,hfz2]
 refine Xb ?_
 have n16:b16≠gr:=by
  rintro rfl
  rw [e16] at eg
  cases eg
 have n2:p2≠gr:=by
  rintro rfl
  rw [e2] at eg
  cases eg
 have hc:Chg gr w' (w'.setCell ⟨gr,css.length*3+2,none⟩ v'):=⟨by rw [World.size_setCell];exact Nat.le_refl _,λ b _ hb=>YH.setCell _ gr _ _ b hb⟩
 have hz:(w'.setCell ⟨gr,css.length*3+2,none⟩ v').heap.size=w'.heap.size:=World.size_setCell ..
 have s3:=hg.size
 have hset:=hOw.set (k:=css.length) (cs:=c) (by simp) (j:=2) (by decide) v'
 rw [show (css++[c]).set css.length (⟨c.1.set 2 v',by simp [c.2]⟩:Cs 3)=css++[⟨c.1.set 2 v',by simp [c.2]⟩] by simp,XA] at hset
 refine hK _ _ ⟨(hc.block b16 (Array.getElem?_eq_some_iff.1 e16).1 n16).trans e16,e'.setCell (p:=⟨gr,css.length*3+2,none⟩) hlo' _,h.lp,(hc.block p2 (Array.getElem?_eq_some_iff.1 e2).1 n2).trans e2,h.b1,by rw [hz];omega,css,[⟨c.1.set 2 v',by simp [c.2]⟩],hset,m1.imp λ _ _ ⟨fv2,g1,g2⟩=>⟨fv2,g1,((g2.ext (e.trans eV)).grow hFV hg (by decide) (by decide) λ g hg1 hg2=>by
  obtain ⟨_,_,Yq,_⟩:=g2
  have:=Yq g hg2
  have:=hlo g hg1
  omega).chgT hc eg (by decide) (by decide) (by decide)⟩,rfl,λ k y cs hx hcs=>?_⟩
 cases k with
 | succ k=>simp at hx
 | zero=>
  simp at hx hcs
  subst hx hcs
  refine ⟨v',by show c.1.set 2 v'=_;rw [hcf];rfl,css7++[⟨ZB x bv tv,rfl⟩],JM hF' hc (Ux hF' eg (by decide)),λ b hb=>by rw [hz];exact (World.ownsRow.lt hF' b hb).2,zW (hFm.imp λ _ _ q=>((q.ext (e.trans eV)).grow hFV hg (by decide) (by decide)).chg hc eg (by decide) (by decide)) ⟨rfl,λ k y cs hx hcs=>?_⟩⟩
  cases k with
  | succ k=>simp at hx
  | zero=>
   simp at hx hcs
   subst hx hcs
   have hE:E7 w w0.heap.size (ZB x bv tv) x:=⟨bv,tv,rfl,hb,ht⟩
   exact ((hE.ext eV).grow hFV hg (by decide) (by decide)).chg hc eg (by decide) (by decide)
end
def Cnt (st:PsD) (k:Nat):Prop:=st.done.length≤k∧∀ r,st.cur=some r→r.fields.length≤k
theorem Ni {st st':PsD} {k:Nat} {x:List UInt8} (h:Cnt st k) (hs:Wi st k x=some st'):Cnt st' (k+1):=by
 obtain ⟨nm,done,cur⟩:=st
 obtain ⟨h1,h2⟩:=h
 simp only at h1 h2
 unfold Wi at hs
 split at hs
 · cases ho:Bw (Yv 32 x) with
   | none=>rw [ho] at hs;cases hs
   | some n=>
    rw [ho,Option.map_some] at hs
    injection hs with hs
    subst hs
    exact ⟨Nat.le_succ_of_le h1,λ r hr=>Nat.le_succ_of_le (h2 r hr)⟩
 · cases cur with
   | some r=>
    simp only at hs
    split at hs
    · injection hs with hs
      subst hs
      exact ⟨by simp;omega,λ r hr=>by cases hr⟩
    · cases ho:Qt x with
      | none=>rw [ho] at hs;cases hs
      | some y=>
       rw [ho,Option.map_some] at hs
       injection hs with hs
       subst hs
       refine ⟨Nat.le_succ_of_le h1,λ q hq=>?_⟩
       injection hq with hq
       subst hq
       have:=h2 r rfl
       simp
       omega
   | none=>
    simp only at hs
    cases ho:BZ (Yv 32 x) with
    | none=>rw [ho] at hs;cases hs
    | some q=>
     rw [ho,Option.map_some] at hs
     injection hs with hs
     subst hs
     exact ⟨Nat.le_succ_of_le h1,λ q hq=>by injection hq with hq;subst hq;simp⟩
theorem Mi {W:List (List UInt8)} (h:W.length≠3):BZ W=none:=by
 unfold BZ
 split
 · exact absurd rfl h
 · rfl
structure LnS (b16:Nat) (lcs:AVl) (w0 w w1:Wd) (p2 p12 B bw:Nat) (st:PsD) (rv:Vl) (x:List UInt8) (y:FrD) (bv tv:Vl) (ok:Bool):Prop where
 ps:PS b16 lcs w0 w1 p2 B st rv
 e:Ext w1 w
 lb:w1.heap.size≤bw
 wd:Uf w (.slice (some ⟨bw,0,none⟩) (Yv 32 x).length (Yv 32 x).length) ((Yv 32 x).map mkB)
 l12:w1.heap.size≤p12
 o12:w.heap[p12]?=some (.cells (ZB y bv tv).toArray 43 (0,0))
 ob:ZT w w0.heap.size 5 1 XF bv y.bytes
 ot:ZT w w0.heap.size 78 3 Z6 tv y.table
 rd:(ok=true∧Qt x=some y)∨(ok=false∧Qt x=none)
section
variable {b16:Nat} {lcs:AVl} {w0 w w1:Wd} {p2 p12 B bw:Nat} {st:PsD} {rv t3:Vl} {x:List UInt8} {y:FrD} {bv tv:Vl} {ok:Bool} {K1:KV} {K9:KW} {R:RT} {k:Nat}
theorem LnS.word (h:LnS b16 lcs w0 w w1 p2 p12 B bw st rv x y bv tv ok) {j:Nat} {u:List UInt8} (hu:(Yv 32 x)[j]?=some u):w.cell? ⟨bw,j,none⟩=some (.string (mkB u)):=by
 obtain ⟨A,c,hv,_,_,_,YV⟩:=Zd.open h.wd
 obtain ⟨b,o,cs,hA,_,hA2,rfl⟩:=YV j (mkB u) (by rw [List.getElem?_map,hu];rfl)
 injection hv with hv _ _
 rw [← hv] at hA
 injection hA with hA
 injection hA with g1 g2
 subst g1 g2
 have:=hA2.c1 (Ext.refl w)
 rwa [Nat.mul_one,Nat.zero_add] at this
theorem ql (t2 t12 t27 t35:Vl) (hk:k≤1000000) (hK:K1 (.int .i64 ((k:Int)+1)) w):Eu t2 t3 (.bool false) t12 (.int .i64 k) t27 t35 K1 K9 R w:=by
 have hwk:IntKind.i64.wrap ((k:Int)+1)=(k:Int)+1:=Xf (by omega) (by omega)
 unfold Eu
 simp (disch:=try exact DI) only [↓PR,QR,simprocAttr]
 unfold Oc
 simp (disch:=try exact DI) only [↓PR,QR,simprocAttr,hwk]
 exact hK
theorem CO (a:List UInt8) (b:BAr) (c:List UInt8) (h:b=mkB c):decide (mkB a=b)=decide (a=c):=by rw [h];exact IJ
theorem RO {nm:BAr} {done:List MrD} {r:MrD} (h:LnS b16 lcs w0 w w1 p2 p12 B bw ⟨nm,done,some r⟩ rv x y bv tv ok) (hk:k≤1000000) (hk0:k≠0) (hc:Cnt ⟨nm,done,some r⟩ k)
 (hK1:Wi ⟨nm,done,some r⟩ k x=none→K1 (.int .i64 ((k:Int)+1)) w)
 (hK9:∀ st' w' rv' B',Wi ⟨nm,done,some r⟩ k x=some st'→PS b16 lcs w0 w' p2 B' st' rv'→K9 t3 (.bool st'.cur.isSome) w') :
 Eu (.pointer (some ⟨p2,0,none⟩)) t3 (.bool true) (.pointer (some ⟨p12,0,none⟩)) (.int .i64 k) (.string (mkB x)) (.bool ok) K1 K9 R w:=by
 have hwk:IntKind.i64.wrap ((k:Int)+1)=(k:Int)+1:=Xf (by omega) (by omega)
 have dk:=CO x ⟨#[101,110,100]⟩ LR rfl
 have hst:Wi ⟨nm,done,some r⟩ k x=if x=LR then some ⟨nm,done++[r],none⟩ else (Qt x).map λ y=>⟨nm,done,some ⟨r.fr,r.to,r.fields++[y]⟩⟩:=by unfold Wi;rw [if_neg hk0]
 rw [hst] at hK1 hK9
 unfold Eu
 simp (disch:=try exact DI) only [↓PR,QR,simprocAttr,dk]
 by_cases hx:x=LR
 · rw [if_pos hx] at hK9
   rw [decide_eq_true hx]
   simp (disch:=try exact DI) only [↓PR,QR,simprocAttr]
   exact hK9 _ _ _ _ rfl (h.ps.go h.e).close
 · rw [if_neg hx] at hK1 hK9
   rw [decide_eq_false hx]
   unfold Oc
   simp (disch:=try exact DI) only [↓PR,QR,simprocAttr]
   rcases h.rd with ⟨rfl,hl⟩ | ⟨rfl,hl⟩
   · rw [hl] at hK9
     simp (disch:=try exact DI) only [↓PR,QR,simprocAttr]
     exact FZ h.ps h.e h.l12 y bv tv h.o12 h.ob h.ot (by have:=hc.1;simp at this;omega) (by have:=hc.2 r rfl;omega) λ w' rv' h'=>hK9 _ _ _ _ rfl h'
   · rw [hl] at hK1
     simp (disch:=try exact DI) only [↓PR,QR,simprocAttr,hwk]
     exact hK1 rfl
theorem M5 (h:LnS b16 lcs w0 w w1 p2 p12 B bw st rv x y bv tv ok) (hk:k≤1000000) (hk0:k≠0) (hc:Cnt st k)
 (hK1:∀ w',Ext w w'→Wi st k x=none→K1 (.int .i64 ((k:Int)+1)) w')
 (hK9:∀ st' w' rv' B',Wi st k x=some st'→PS b16 lcs w0 w' p2 B' st' rv'→K9 t3 (.bool st'.cur.isSome) w') :
 jG (.pointer (some ⟨p2,0,none⟩)) t3 (.bool st.cur.isSome) (.pointer (some ⟨p12,0,none⟩)) (.int .i64 k) (.string (mkB x)) (.slice (some ⟨bw,0,none⟩) (Yv 32 x).length (Yv 32 x).length) (.bool ok) K1 K9 R w:=by
 have d0:decide ((k:Int) > 0)=true:=by simp only [decide_eq_true_eq];omega
 obtain ⟨nm,done,cur⟩:=st
 unfold jG
 simp (disch:=try exact DI) only [↓PR,QR,simprocAttr,d0]
 cases cur with
 | some r=>
  unfold CW jF BG
  simp (disch:=try exact DI) only [↓PR,QR,simprocAttr]
  exact RO h hk hk0 hc (hK1 w (Ext.refl w)) hK9
 | none=>
  have hst:Wi ⟨nm,done,none⟩ k x=(BZ (Yv 32 x)).map λ q=>⟨nm,done,some ⟨q.1,q.2,[]⟩⟩:=by unfold Wi;rw [if_neg hk0]
  rw [hst] at hK1 hK9
  unfold CW
  simp (disch:=try exact DI) only [↓PR,QR,simprocAttr]
  have hw:=λ j u=>h.word (j:=j) (u:=u)
  have hps:=h.ps
  have he:=h.e
  have hlb:=h.lb
  generalize hW:Yv 32 x=W at hw hK1 hK9 ⊢
  by_cases h3:W.length=3
  · obtain ⟨a,b,c,rfl⟩:∃ a b c,W=[a,b,c]:=by
     match W,h3 with
     | [a,b,c],_=>exact ⟨a,b,c,rfl⟩
    have ho:BZ [a,b,c]=if a=LS∧(Yj (mkB b)=true∧Yj (mkB c)=true) then some (mkB b,mkB c) else none:=rfl
    rw [ho] at hK1 hK9
    have ca:=hw 0 a rfl
    have cb:=hw 1 b rfl
    have cc:=hw 2 c rfl
    have da:=CO a ⟨#[109,97,112]⟩ LS rfl
    have l3:([a,b,c]:List (List UInt8)).length=3:=rfl
    rw [l3]
    unfold jF
    simp (disch:=try exact DI) only [↓PR,QR,simprocAttr]
    try unfold X0
    rw [Yl underlying94 ty9 bw 0 3 3 .i64 0 (by decide) (by decide),show 0+(0:Int).toNat*1=0 from rfl]
    simp (disch:=try exact DI) only [↓PR,QR,simprocAttr,ca,da]
    by_cases ha:a=LS
    · rw [decide_eq_true ha]
      unfold BG
      simp (disch:=try exact DI) only [↓PR,QR,simprocAttr]
      refine (Je underlying94 ty9 bw 0 3 3 1 (by decide) (by decide)).mpr ?_
      have hS:Uf w (.slice (some ⟨bw,1,none⟩) 2 2) [mkB b,mkB c]:=⟨_,_,rfl,Nat.le_refl _,by decide,λ _=>⟨bw,1,rfl,λ i u hu=>by
       match i,hu with
       | 0,hu=>
        injection hu with hu
        subst hu
        exact ⟨_,rfl,λ j v hv=>by
         cases j with
         | zero=>injection hv with hv;subst hv;exact cb
         | succ j=>simp at hv,rfl⟩
       | 1,hu=>
        injection hu with hu
        subst hu
        exact ⟨_,rfl,λ j v hv=>by
         cases j with
         | zero=>injection hv with hv;subst hv;exact cc
         | succ j=>simp at hv,rfl⟩
       | _+2,hu=>simp at hu⟩⟩
      refine zcr (yQ w _ _ hS) λ w4 e4=>?_
      have hn:[mkB b,mkB c].all Yj=(Yj (mkB b)&&Yj (mkB c)):=by simp
      rw [hn]
      cases hnn:(Yj (mkB b)&&Yj (mkB c)) with
      | true=>
       rw [Bool.and_eq_true] at hnn
       rw [if_pos ⟨ha,hnn⟩] at hK9
       simp (disch:=try exact DI) only [↓PR,QR,simprocAttr]
       exact Mj hps (he.trans e4) (by have:=hc.1;simp at this;omega) hlb (e4.cell cb) (e4.cell cc) λ w' rv' h'=>hK9 _ _ _ _ rfl h'
      | false=>
       rw [if_neg (λ h=>by rw [h.2.1,h.2.2] at hnn;cases hnn)] at hK1
       simp (disch:=try exact DI) only [↓PR,QR,simprocAttr]
       exact ql _ _ _ _ hk (hK1 _ e4 rfl)
    · rw [decide_eq_false ha]
      rw [if_neg (λ h=>ha h.1)] at hK1
      unfold BG
      simp (disch:=try exact DI) only [↓PR,QR,simprocAttr]
      exact ql _ _ _ _ hk (hK1 w (Ext.refl w) rfl)
  · have d3:((W.length:Int) == 3)=false:=by simp only [beq_eq_false_iff_ne,ne_eq];omega
    rw [Mi h3] at hK1
    unfold jF BG
    simp (disch:=try exact DI) only [↓PR,QR,simprocAttr,d3]
    exact ql _ _ _ _ hk (hK1 w (Ext.refl w) rfl)
end
theorem LK {W:List (List UInt8)} (h:W.length≠2):Bw W=none:=by
 unfold Bw
 split
 · exact absurd rfl h
 · rfl
section
variable {b16:Nat} {lcs:AVl} {w0 w w1:Wd} {p2 p12 B bw:Nat} {st:PsD} {rv t3:Vl} {x:List UInt8} {y:FrD} {bv tv:Vl} {ok:Bool} {K1:KV} {Yk:Vl→Vl→Vl→Wd→Prop} {R:RT} {k:Nat}
theorem zK {K9:KW} (t2 t12 t27 t30 t35:Vl) (hK:K1 (.int .i64 1) w):jG t2 t3 (.bool false) t12 (.int .i64 0) t27 t30 t35 K1 K9 R w:=by
 unfold jG
 simp (disch:=try exact DI) only [↓PR,QR,simprocAttr]
 unfold CW jF BG
 simp (disch:=try exact DI) only [↓PR,QR,simprocAttr]
 exact ql (k:=0) _ _ _ _ (by omega) hK
theorem M6 (h:LnS b16 lcs w0 w w1 p2 p12 B bw st rv x y bv tv ok) (hk:k≤1000000) (hc:Cnt st k) (h0:k=0→st.cur=none)
 (hK1:∀ w' rv' B' st',PS b16 lcs w0 w' p2 B' st' rv'→Wi st k x=none→K1 (.int .i64 ((k:Int)+1)) w')
 (hN:∀ st' w' rv' B',Wi st k x=some st'→PS b16 lcs w0 w' p2 B' st' rv'→Yk t3 (.bool st'.cur.isSome) (.int .i64 ((k:Int)+1)) w') :
 CY (.pointer (some ⟨p2,0,none⟩)) t3 (.bool st.cur.isSome) (.pointer (some ⟨p12,0,none⟩)) (.int .i64 k) (.string (mkB x)) (.slice (some ⟨bw,0,none⟩) (Yv 32 x).length (Yv 32 x).length) (.bool ok) K1 Yk R w:=by
 have hwk:IntKind.i64.wrap ((k:Int)+1)=(k:Int)+1:=Xf (by omega) (by omega)
 have hfail:∀ w',Ext w w'→Wi st k x=none→K1 (.int .i64 ((k:Int)+1)) w':=λ w' e hn=>hK1 w' _ _ _ (h.ps.go (h.e.trans e)) hn
 by_cases hk0:k=0
 · subst hk0
   have hcur:=h0 rfl
   obtain ⟨nm,done,cur⟩:=st
   simp only at hcur
   subst hcur
   have hst:Wi ⟨nm,done,none⟩ 0 x=(Bw (Yv 32 x)).map λ n=>⟨n,done,none⟩:=rfl
   rw [hst] at hfail hN
   unfold CY
   have hw:=λ j u=>h.word (j:=j) (u:=u)
   have hps:=h.ps
   have he:=h.e
   clear hK1
   generalize hW:Yv 32 x=W at hw hfail hN ⊢
   simp (disch:=try exact DI) only [↓PR,QR,simprocAttr]
   by_cases h3:W.length=2
   · obtain ⟨a,b,rfl⟩:∃ a b,W=[a,b]:=by
      match W,h3 with
      | [a,b],_=>exact ⟨a,b,rfl⟩
     have ho:Bw [a,b]=if a=Up∧Yj (mkB b)=true then some (mkB b) else none:=rfl
     rw [ho] at hfail hN
     have ca:=hw 0 a rfl
     have cb:=hw 1 b rfl
     have da:=CO a ⟨#[109,97,112,112,105,110,103]⟩ Up rfl
     have l3:([a,b]:List (List UInt8)).length=2:=rfl
     rw [l3]
     unfold CX
     simp (disch:=try exact DI) only [↓PR,QR,simprocAttr]
     try unfold X0
     rw [Yl underlying94 ty9 bw 0 2 2 .i64 0 (by decide) (by decide),show 0+(0:Int).toNat*1=0 from rfl]
     simp (disch:=try exact DI) only [↓PR,QR,simprocAttr,ca,da]
     by_cases ha:a=Up
     · rw [decide_eq_true ha]
       unfold jI
       simp (disch:=try exact DI) only [↓PR,QR,simprocAttr]
       try unfold X0
       rw [Yl underlying94 ty9 bw 0 2 2 .i64 1 (by decide) (by decide),show 0+(1:Int).toNat*1=1 from rfl]
       simp (disch:=try exact DI) only [↓PR,QR,simprocAttr,cb]
       refine Zl (UM w (mkB b)) ?_
       rintro _ w4 ⟨rfl,e4⟩
       have hP4:=hps.go (he.trans e4)
       unfold jH
       cases hnn:Yj (mkB b) with
       | true=>
        rw [if_pos ⟨ha,hnn⟩] at hN
        simp (disch:=try exact DI) only [↓PR,QR,simprocAttr]
        unfold N6
        try unfold X0
        rw [Yl underlying94 ty9 bw 0 2 2 .i64 1 (by decide) (by decide),show 0+(1:Int).toNat*1=1 from rfl]
        simp (disch:=try exact DI) only [↓PR,QR,simprocAttr,e4.cell cb,(Za hP4.obj).1,(Za hP4.obj).2]
        exact hN _ _ _ _ rfl (hP4.named (mkB b))
       | false=>
        rw [if_neg (λ h=>by rw [h.2] at hnn;cases hnn)] at hfail
        simp (disch:=try exact DI) only [↓PR,QR,simprocAttr]
        exact zK _ _ _ _ _ (hfail _ e4 rfl)
     · rw [decide_eq_false ha]
       rw [if_neg (λ h=>ha h.1)] at hfail
       unfold jI jH
       simp (disch:=try exact DI) only [↓PR,QR,simprocAttr]
       exact zK _ _ _ _ _ (hfail w (Ext.refl w) rfl)
   · have d3:((W.length:Int) == 2)=false:=by simp only [beq_eq_false_iff_ne,ne_eq];omega
     rw [LK h3] at hfail
     unfold CX jI jH
     simp (disch:=try exact DI) only [↓PR,QR,simprocAttr,d3]
     exact zK _ _ _ _ _ (hfail w (Ext.refl w) rfl)
 · have d0:((k:Int) == 0)=false:=by simp only [beq_eq_false_iff_ne,ne_eq];omega
   unfold CY CX jI jH
   simp (disch:=try exact DI) only [↓PR,QR,simprocAttr,d0]
   refine M5 h hk hk0 hc hfail ?_
   intro st' w' rv' B' hs hp
   exact hN st' w' rv' B' hs hp
end
theorem Nn {w:Wd} {cs:AVl} {T:TypeId} {vs:List Vl} (hl:cs.size=vs.length):Ext w (Yt (w.alloc (.cells cs T)) w.heap.size 0 vs)∧(Yt (w.alloc (.cells cs T)) w.heap.size 0 vs).heap[w.heap.size]?=some (.cells vs.toArray T (0,0)):=by
 have ho:=Zz w cs T
 have e0:Ext w (w.alloc (.cells cs T)):=(Ext.refl w).alloc _
 obtain ⟨h1,h2,h3⟩:=Jm vs (w.alloc (.cells cs T)) 0 (b:=w.heap.size)
 refine ⟨⟨h1.trans e0.os,h2.trans e0.tape,h3.trans e0.output,by rw [V8];exact e0.size,λ k hk=>?_⟩,?_⟩
 · rw [← e0.block k hk]
   exact Wz vs _ 0 k (by omega)
 · rw [QO vs 0 ho,Aw (by simp [hl])]
def zF (w0:Wd) (o:Option YG×Nat) (r:Vl) (w':Wd):Prop:=Ext w0 w'∧((∃ m v,o=(some m,0)∧r = .tuple #[v,.int .i64 0,.int .i64 0]∧Y3 w' v m)∨(∃ v n,o=(none,n)∧r = .tuple #[v,.int .i64 n,.int .i64 6]∧Y3 w' v ⟨ByteArray.empty,[]⟩))
section
variable {b16:Nat} {lcs:AVl} {w0 w w1:Wd} {p2 p12 B bw:Nat} {st:PsD} {rv t3:Vl} {x:List UInt8} {y:FrD} {bv tv:Vl} {ok:Bool} {K1:KV} {Yk:Vl→Vl→Vl→Wd→Prop} {R:RT} {k:Nat}
theorem Mk {n:Nat} {o:Option YG×Nat} (h:PS b16 lcs w0 w p2 B st rv) (ho:o=(none,n)):N5 (.pointer (some ⟨p2,0,none⟩)) (.int .i64 n) (ZJ (zF w0 o)) w:=by
 unfold N5
 simp (disch:=try exact DI) only [↓PR,QR,simprocAttr,(Za h.obj).1,(Za h.obj).2]
 have e2:Ext w0 (Yt w p2 0 (Yb ⟨ByteArray.empty,[]⟩ (.slice none 0 0))):=(h.e.setCell (p:=⟨p2,0,none⟩) h.lp _).setCell (p:=⟨p2,1,none⟩) h.lp _
 have o2:(Yt w p2 0 (Yb ⟨ByteArray.empty,[]⟩ (.slice none 0 0))).heap[p2]?=some (.cells (Yb ⟨ByteArray.empty,[]⟩ (.slice none 0 0)).toArray 24 (0,0)):=Zw (o:=1) (Zw (o:=0) h.obj (.string ByteArray.empty)) (.slice none 0 0)
 exact ⟨e2,.inr ⟨_,n,ho,rfl,_,rfl,Zd.nil ..⟩⟩
theorem HW {nm:BAr} {done:List MrD} {o:Option YG×Nat} (h:PS b16 lcs w0 w p2 B ⟨nm,done,none⟩ rv) (ho:o=(some ⟨nm,done⟩,0)):Hj (.pointer (some ⟨p2,0,none⟩)) (ZJ (zF w0 o)) w:=by
 unfold Hj
 have hr:=h.one
 have hrd:=h.read
 simp only [Option.toList_none,List.append_nil] at hrd
 have o1:w.heap[p2]?=some (.cells (Yb ⟨nm,done⟩ rv).toArray 24 (0,0)):=h.obj
 simp (disch:=try exact DI) only [↓PR,QR,simprocAttr,(Za o1).1,(Za o1).2]
 have e2:=Kn h.e o1 (vs:=Yb ⟨nm,done⟩ rv)
 have e3:=Kn (Ext.refl w) o1 (vs:=Yb ⟨nm,done⟩ rv)
 have o2:=e3.obj o1
 have h2:=hrd.ext e3
 exact ⟨e2,.inl ⟨_,_,ho,rfl,_,rfl,h2⟩⟩
theorem M7 {whole:Bool} {o:Option YG×Nat} {rest:List (List UInt8)} (h:LnS b16 lcs w0 w w1 p2 p12 B bw st rv x y bv tv ok) (hk:k≤1000000) (hc:Cnt st k) (h0:k=0→st.cur=none)
 (ho:o=goQ st k (x::rest)) (hwh:(whole=true∧rest≠[])∨(whole=false∧rest=[]))
 (hK1:∀ w' rv' B' st',PS b16 lcs w0 w' p2 B' st' rv'→o=(none,k+1)→K1 (.int .i64 ((k:Int)+1)) w')
 (hN:∀ st' w' rv' B',rest≠[]→Wi st k x=some st'→PS b16 lcs w0 w' p2 B' st' rv'→Yk t3 (.bool st'.cur.isSome) (.int .i64 ((k:Int)+1)) w') :
 (λ (t40:Bool)=>Zq (λ (t43:Vl) (w:Wd)=>
  Gu (.pointer (some ⟨p2,0,none⟩)) t3 (.bool st.cur.isSome) (.pointer (some ⟨p12,0,none⟩)) (.int .i64 k) (.string (mkB x)) (.bool whole) (.slice (some ⟨bw,0,none⟩) (Yv 32 x).length (Yv 32 x).length) (.bool ok) (.bool t40) t43 K1 Yk (ZJ (zF w0 o)) w) λ K3=>
  Zp (.bool t40) true (
   opV Pg (Zh .eql 9 true (.string (mkB x)) (.string { data := #[] })) (Zb (ZJ (zF w0 o))) w λ t43 w=>
   K3 t43 w) (
   K3 undef w)) (!whole):=by
 have hwk:IntKind.i64.wrap ((k:Int)+1)=(k:Int)+1:=Xf (by omega) (by omega)
 have dx:=CO x ⟨#[]⟩ [] rfl
 rcases hwh with ⟨rfl,hr⟩ | ⟨rfl,hr⟩
 · simp (disch:=try exact DI) only [↓PR,QR,simprocAttr]
   unfold Gu yJ jJ
   simp (disch:=try exact DI) only [↓PR,QR,simprocAttr]
   refine M6 h hk hc h0 (λ w' rv' B' st' hp hs=>hK1 w' rv' B' st' hp (by rw [ho,Nr hr hs])) λ st' w' rv' B' hs hp=>hN st' w' rv' B' hr hs hp
 · subst hr
   have hg:goQ st k [x]=if x=[]∧(0 < k∧st.cur=none) then (some ⟨st.name,st.done⟩,0) else (none,k+1):=rfl
   have hps:=h.ps.go h.e
   simp (disch:=try exact DI) only [↓PR,QR,simprocAttr,dx]
   have bad:¬ (x=[]∧(0 < k∧st.cur=none))→K1 (.int .i64 ((k:Int)+1)) w:=λ hb=>hK1 _ _ _ _ hps (by rw [ho,hg,if_neg hb])
   by_cases hx:x=[]
   · rw [decide_eq_true hx]
     by_cases hk0:k=0
     · have d0:decide ((k:Int) > 0)=false:=by simp only [decide_eq_false_iff_not];omega
       unfold Gu yJ jJ
       simp (disch:=try exact DI) only [↓PR,QR,simprocAttr,d0,hwk]
       exact bad λ h=>by omega
     · have d0:decide ((k:Int) > 0)=true:=by simp only [decide_eq_true_eq];omega
       obtain ⟨nm,done,cur⟩:=st
       cases cur with
       | some r=>
        unfold Gu yJ jJ
        simp (disch:=try exact DI) only [↓PR,QR,simprocAttr,d0,hwk]
        exact bad λ h=>by cases h.2.2
       | none=>
        rw [if_pos ⟨hx,Nat.pos_of_ne_zero hk0,rfl⟩] at hg
        unfold Gu yJ
        simp (disch:=try exact DI) only [↓PR,QR,simprocAttr,d0]
        exact HW hps (by rw [ho,hg])
   · rw [decide_eq_false hx]
     unfold Gu yJ jJ
     simp (disch:=try exact DI) only [↓PR,QR,simprocAttr,hwk]
     exact bad λ h=>hx h.1
theorem M8 {L:List (List UInt8)} {o:Option YG×Nat} (hE:VE w0) (h:PS b16 lcs w0 w p2 B st rv) (hL:∀ u∈L,(10:UInt8) ∉ u∧u.length≤80000) (hlcs:lcs=(((Xs 10 L).map mkB).map Value.string).toArray) (hx:L[k]?=some x) (hk:k≤1000000) (hc:Cnt st k) (h0:k=0→st.cur=none)
 (ho:o=goQ st k (L.drop k))
 (hK1:∀ w' rv' B' st',PS b16 lcs w0 w' p2 B' st' rv'→o=(none,k+1)→K1 (.int .i64 ((k:Int)+1)) w')
 (hN:∀ st' w' rv' B',k+1 < L.length→o=goQ st' (k+1) (L.drop (k+1))→Cnt st' (k+1)→PS b16 lcs w0 w' p2 B' st' rv'→Yk t3 (.bool st'.cur.isSome) (.int .i64 ((k:Int)+1)) w') :
 Hk (.pointer (some ⟨p2,0,none⟩)) t3 (.bool st.cur.isSome) (.slice (some ⟨b16,0,none⟩) L.length L.length) (.int .i64 k) K1 Yk (ZJ (zF w0 o)) w:=by
 obtain ⟨hkl,hxe⟩:=List.getElem?_eq_some_iff.1 hx
 have hdrop:L.drop k=x::L.drop (k+1):=by rw [← hxe];exact List.drop_eq_getElem_cons hkl
 rw [hdrop] at ho
 obtain ⟨x10,xz⟩:=hL x (List.mem_of_getElem? hx)
 obtain ⟨u,whole,hu,hu1,hu2,huz,hwh⟩:∃ u whole,(Xs 10 L)[k]?=some u∧Go.Lib.hasSuffix u [10]=whole∧Go.Lib.trimSuffix u [10]=x∧u.length≤80001∧((whole=true∧L.drop (k+1)≠[])∨(whole=false∧L.drop (k+1)=[])):=by
  by_cases hl:k+1=L.length
  · have:=ME x10
    exact ⟨x,false,xk hx hl,this.1,this.2,by omega,.inr ⟨rfl,List.drop_eq_nil_of_le (by omega)⟩⟩
  · have:=Ih 10 x
    refine ⟨_,true,Bp hx (by omega),this.1,this.2,by simp;omega,.inl ⟨rfl,λ h=>?_⟩⟩
    have:=congrArg List.length h
    rw [List.length_drop,List.length_nil] at this
    omega
 have XJ:w.cell? ⟨b16,k*1,none⟩=some (.string (mkB u)):=by
  rw [Nat.mul_one,(Za h.ln).1,hlcs]
  simp [hu]
 unfold Hk
 simp (disch:=try exact DI) only [↓PR,QR,simprocAttr,XJ]
 refine Zl (AV w u 10 (by omega)) ?_
 rintro _ w' ⟨rfl,rfl⟩
 rw [hu1,hu2]
 unfold N8
 simp (disch:=try exact DI) only [↓PR,QR,simprocAttr]
 refine Zl (Cf (hE.ext h.e).env x 32 (by omega)) ?_
 rintro _ w1 ⟨e1,rfl,hW⟩
 refine Zl (H5 w1 (hE.ext (h.e.trans e1)) x xz) ?_
 rintro _ w2 ⟨e2,v,y,ok,rfl,⟨bv,tv,rfl,hob,hot⟩,hrd⟩
 unfold N7
 simp (disch:=try exact DI) only [↓PR,QR,simprocAttr]
 have o1:bv.oneCell'=true:=Zd.oneCell (GH hob)
 have o2:tv.oneCell'=true:=Zd.oneCell (Vx hot)
 rw [Uu Ua (Zz w2 _ _) (vs:=ZB y bv tv) rfl (Nat.le_refl _) (by intro v hv;simp only [List.mem_cons,List.not_mem_nil,or_false] at hv;rcases hv with rfl | rfl | rfl | rfl | rfl | rfl | rfl<;>first | rfl | assumption)]
 have hfill:=Nn (w:=w2) (cs := #[Value.string ByteArray.empty,Value.int IntKind.i64 0,Value.string ByteArray.empty,Value.int IntKind.i64 0,Value.int IntKind.i64 0,Value.slice none 0 0,Value.slice none 0 0]) (T:=43) (vs:=ZB y bv tv) rfl
 generalize (Yt (w2.alloc (.cells #[Value.string ByteArray.empty,Value.int IntKind.i64 0,Value.string ByteArray.empty,Value.int IntKind.i64 0,Value.int IntKind.i64 0,Value.slice none 0 0,Value.slice none 0 0] 43)) w2.heap.size 0 (ZB y bv tv))=w3 at hfill ⊢
 obtain ⟨e3,o3⟩:=hfill
 have hb1:w0.heap.size≤w1.heap.size:=(h.e.trans e1).size
 have hLn:LnS b16 lcs w0 w3 w' p2 w2.heap.size B w'.heap.size st rv x y bv tv ok:=⟨h,e1.trans (e2.trans e3),Nat.le_refl _,Zd.ext JE hW (e2.trans e3),(e1.trans e2).size,o3,(hob.ext e3).base hb1,(hot.ext e3).base hb1,hrd⟩
 rw [HR]
 exact M7 hLn hk hc h0 ho hwh hK1 λ st' w' rv' B' hr hs hp=>hN st' w' rv' B' (by
  by_cases hl:k+1 < L.length
  · exact hl
  · exact absurd (List.drop_eq_nil_of_le (by omega)) hr) (by rw [ho,D7 hr hs]) (Ni hc hs) hp
end
theorem Lj (w0:Wd) (hE:VE w0) (s:BAr) (hs:s.size≤1000000000) (hl:(Yv 10 s.data.toList).length≤1000000) (hz:∀ u∈Yv 10 s.data.toList,u.length≤80000):Ret Pg 22 #[.string s] w0 (zF w0 (yX s)):=by
 refine ZgM (R:=ZJ _) ?_;unfold n19
 simp (disch:=try exact DI) only [↓PR,QR,simprocAttr]
 have oV:=Zz w0 (Yb ⟨ByteArray.empty,[]⟩ (.slice none 0 0)).toArray 24
 have eV:Ext w0 (w0.alloc (.cells (Yb ⟨ByteArray.empty,[]⟩ (.slice none 0 0)).toArray 24)):=(Ext.refl w0).alloc _
 change Zg _ _ _ _ (w0.alloc (.cells (Yb ⟨ByteArray.empty,[]⟩ (.slice none 0 0)).toArray 24)) _
 generalize (w0.alloc (.cells (Yb ⟨ByteArray.empty,[]⟩ (.slice none 0 0)).toArray 24))=V at oV eV ⊢
 have hp:s=mkB s.data.toList:=(ZbD s).symm
 generalize hsl:s.data.toList=l at hl hz hp ⊢
 have hll:l.length≤1000000000:=by rw [← hsl,xf];exact hs
 subst hp
 have ho:yX (mkB l)=goQ Cg 0 (Yv 10 l):=by unfold yX;rw [WH]
 generalize yX (mkB l)=o at ho ⊢
 refine Zl (qI (hE.ext eV).env l 10 hll) ?_
 rintro _ w1 ⟨e1,rfl,oL⟩
 have NC:∀ u∈Yv 10 l,(10:UInt8) ∉ u∧u.length≤80000:=λ u hu=>⟨G2 hu,hz u hu⟩
 have YW:=VL 10 l
 generalize Yv 10 l=L at hl hz oL NC YW ho ⊢
 have hL0:0 < L.length:=List.length_pos_iff.2 YW
 unfold N9
 simp (disch:=try exact DI) only [↓PR,QR,simprocAttr]
 generalize hp2:w0.heap.size=p2 at oV ⊢
 have hP0:PS V.heap.size (((Xs 10 L).map mkB).map Value.string).toArray w0 w1 p2 w1.heap.size Cg (.slice none 0 0):=⟨oL,eV.trans e1,by omega,e1.obj oV,(eV.trans e1).size,Nat.le_refl _,[],[],ZT.nil _ _ _ _ _,⟨rfl,λ k x cs hx=>by simp [Cg] at hx⟩,⟨rfl,λ k x cs hx=>by simp [Cg] at hx⟩⟩
 refine WF (λ a b c w=>∃ (k:Nat) (st:PsD) (rv:Vl) (B:Nat),a = .int .i64 0∧b = .bool st.cur.isSome∧c = .int .i64 (k:Int)∧k < L.length∧PS V.heap.size (((Xs 10 L).map mkB).map Value.string).toArray w0 w p2 B st rv∧o=goQ st k (L.drop k)∧Cnt st k∧(k=0→st.cur=none)) (λ _ _ c _=>L.length - (intOf c).toNat) ⟨0,Cg,_,_,rfl,rfl,rfl,hL0,hP0,ho,⟨Nat.le_refl _,λ r hr=>by cases hr⟩,λ _=>rfl⟩ ?_
 rintro _ _ _ w ⟨k,st,rv,B,rfl,rfl,rfl,hk,hP,hok,hc,h0⟩
 have dk:decide ((k:Int) < L.length)=true:=by simp only [decide_eq_true_eq];omega
 obtain ⟨x,hx⟩:=getElem?_lt hk
 simp (disch:=try exact DI) only [↓PR,QR,simprocAttr,dk]
 refine M8 hE hP NC rfl hx (by omega) hc h0 hok (λ w' rv' B' st' hp ho'=>?_) (λ st' w' rv' B' hk1 ho' hc' hp=>?_)
 · exact Mk (n:=k+1) hp ho'
 · exact ⟨⟨k+1,st',rv',B',rfl,rfl,rfl,hk1,hp,ho',hc',λ h=>by omega⟩,Yf (by omega)⟩
def Sr:FrD:=⟨⟨#[110]⟩,7,⟨#[]⟩,0,0,[],[]⟩
def DP:FrD:=⟨⟨#[98]⟩,1,⟨#[98]⟩,0,0,[],[]⟩
def zh:FrD:=⟨⟨#[110]⟩,1,⟨#[98]⟩,0,0,[],[]⟩
def UR:YG:=⟨⟨#[109]⟩,[⟨⟨#[65]⟩,⟨#[65]⟩,[Sr,DP]⟩]⟩
def nF:Zt:=⟨⟨#[110]⟩,1,8,false,false,0,255,0,[],⟨#[]⟩,⟨#[]⟩,⟨#[]⟩,[],0,0⟩
def bF:Zt:=⟨⟨#[98]⟩,4,0,false,false,0,0,0,[⟨⟨#[110]⟩,1⟩],⟨#[]⟩,⟨#[]⟩,⟨#[]⟩,[],0,0⟩
def Yd:Qk:=⟨⟨#[100]⟩,[⟨⟨#[65]⟩,[nF,bF]⟩],⟨#[65]⟩⟩
theorem heap_alloc (w:Wd) (o:Obj) (k:Nat):(w.alloc o).heap[k]?=if k=w.heap.size then some o else w.heap[k]?:=by
 simp only [World.alloc,Array.getElem?_push]
theorem UA {α:Type} {w:Wd} {b n:Nat} {T:TypeId} {E:Wd→List Vl→α→Prop} {cs:AVl} {l:List α} (ho:w.heap[b]?=some (.cells cs T (0,0))) (hl:l.length≤1000) (h:∀ k x,l[k]?=some x→∃ c:List Vl,c.length=n∧(cs.toList.drop (k*n)).take n=c∧E w c x):Zd w n E (.slice (some ⟨b,0,none⟩) l.length l.length) l:=by
 refine ⟨_,_,rfl,Nat.le_refl _,by omega,λ _=>⟨b,0,rfl,λ k x hx=>?_⟩⟩
 obtain ⟨c,h1,h2,h3⟩:=h k x hx
 refine ⟨c,h1,λ j v hv=>?_,h3⟩
 rw [(Za ho).1,Nat.zero_add,← Array.getElem?_toList]
 have hj:j < n:=by rw [← h1];exact (List.getElem?_eq_some_iff.1 hv).1
 rw [← h2,List.getElem?_take,if_pos hj,List.getElem?_drop] at hv
 exact hv
abbrev XS:Vl := .slice none 0 0
structure Zbd (w0 w:Wd) (v:Vl) (bF bM:Nat):Prop where
 e:Ext w0 w
 lF:w0.heap.size≤bF
 lM:w0.heap.size≤bM
 ne:bF≠bM
 oF:w.heap[bF]?=some (.cells (ZB Sr XS XS++ZB DP XS XS).toArray 43 (0,0))
 oM:w.heap[bM]?=some (.cells #[.string ⟨#[65]⟩,.string ⟨#[65]⟩,.slice (some ⟨bF,0,none⟩) 2 2] 60 (0,0))
 v:v = .agg #[.string ⟨#[109]⟩,.slice (some ⟨bM,0,none⟩) 1 1]
theorem JN (w0:Wd):Ret Pg 30 #[] w0 λ r w'=>∃ bF bM,Zbd w0 w' r bF bM:=by
 refine Zhj (R:=ZJ _) ?_;unfold n53
 simp (disch:=try exact DI) only [↓PR,QR,simprocAttr]
 refine ⟨w0.heap.size+1,w0.heap.size+1+1,ee,by omega,by omega,by omega,?_,?_,rfl⟩
 · repeat (first | rw [heap_alloc,if_neg (by simp only [World.size_alloc];omega)] | rw [heap_alloc,if_pos (by simp only [World.size_alloc])])
   rfl
 · repeat (first | rw [heap_alloc,if_neg (by simp only [World.size_alloc];omega)] | rw [heap_alloc,if_pos (by simp only [World.size_alloc])])
theorem F0 (w:Wd) (x:FrD) (hb:x.bytes=[]) (ht:x.table=[]):EFr w (ZB x XS XS) x:=⟨_,_,rfl,by rw [hb];exact Zd.nil ..,by rw [ht];exact Zd.nil ..⟩
theorem ID {w:Wd} {b:Nat} {x y:FrD} (ho:w.heap[b]?=some (.cells (ZB x XS XS++ZB y XS XS).toArray 43 (0,0))) (hx:x.bytes=[]) (hx':x.table=[]) (hy:y.bytes=[]) (hy':y.table=[]):WB w (.slice (some ⟨b,0,none⟩) 2 2) [x,y]:=by
 refine UA (l:=[x,y]) ho (by simp) λ k z hz=>?_
 match k,hz with
 | 0,hz=>cases hz;exact ⟨_,rfl,rfl,F0 w _ hx hx'⟩
 | 1,hz=>cases hz;exact ⟨_,rfl,rfl,F0 w _ hy hy'⟩
 | _+2,hz=>simp at hz
theorem CV {w:Wd} {b:Nat} {r:MrD} {fv:Vl} (ho:w.heap[b]?=some (.cells (YY r fv).toArray 60 (0,0))) (hf:WB w fv r.fields):Kg w (.slice (some ⟨b,0,none⟩) 1 1) [r]:=by
 refine UA (l:=[r]) ho (by simp) λ k z hz=>?_
 match k,hz with
 | 0,hz=>cases hz;exact ⟨_,rfl,rfl,fv,rfl,hf⟩
 | _+1,hz=>simp at hz
theorem Zbd.val {w0 w:Wd} {v:Vl} {bF bM:Nat} (h:Zbd w0 w v bF bM):Y3 w v UR:=⟨_,h.v,CV h.oM (ID h.oF rfl rfl rfl rfl)⟩
theorem Xh (w0:Wd):Ret Pg 31 #[] w0 λ r w'=>XU w' r Yd∧Ext w0 w':=by
 refine Zhk (R:=ZJ _) ?_;unfold n54
 simp (disch:=try exact DI) only [↓PR,QR,simprocAttr]
 refine ⟨⟨_,rfl,?_⟩,ee⟩
 generalize hW:World.alloc _ _=W
 have o1:W.heap[w0.heap.size+1+1]?=some (.cells #[.string ⟨#[110]⟩,.int .i64 1] 128 (0,0)):=by rw [← hW]; (repeat (first | rw [heap_alloc,if_neg (by simp only [World.size_alloc];omega)] | rw [heap_alloc,if_pos (by simp only [World.size_alloc])]));try rfl
 have o2:W.heap[w0.heap.size+1+1+1+1]?=some (.cells (Zv nF XS XS++Zv bF (.slice (some ⟨w0.heap.size+1+1,0,none⟩) 1 1) XS).toArray 123 (0,0)):=by rw [← hW]; (repeat (first | rw [heap_alloc,if_neg (by simp only [World.size_alloc];omega)] | rw [heap_alloc,if_pos (by simp only [World.size_alloc])]));try rfl
 have o3:W.heap[w0.heap.size+1+1+1+1+1]?=some (.cells (Yc ⟨⟨#[65]⟩,[nF,bF]⟩ (.slice (some ⟨w0.heap.size+1+1+1+1,0,none⟩) 2 2)).toArray 74 (0,0)):=by rw [← hW]; (repeat (first | rw [heap_alloc,if_neg (by simp only [World.size_alloc];omega)] | rw [heap_alloc,if_pos (by simp only [World.size_alloc])]));try rfl
 refine UA (l:=Yd.msgs) o3 (by decide) λ k z hz=>?_
 match k,hz with
 | 0,hz=>
  cases hz
  refine ⟨_,rfl,rfl,_,rfl,UA (l:=[nF,bF]) o2 (by simp) λ k z hz=>?_⟩
  match k,hz with
  | 0,hz=>cases hz;exact ⟨_,rfl,rfl,_,_,rfl,Zd.nil ..,Zd.nil ..⟩
  | 1,hz=>
   cases hz
   refine ⟨_,rfl,rfl,_,_,rfl,UA (l:=bF.terms) o1 (by decide) λ k z hz=>?_,Zd.nil ..⟩
   match k,hz with
   | 0,hz=>cases hz;exact ⟨_,rfl,rfl,rfl⟩
   | _+1,hz=>simp [bF] at hz
  | _+2,hz=>simp at hz
 | _+1,hz=>simp [Yd] at hz
def Du:YG:=⟨⟨#[109]⟩,[⟨⟨#[65]⟩,⟨#[65]⟩,[Sr]⟩]⟩
def DD:YG:=⟨⟨#[109]⟩,[⟨⟨#[65]⟩,⟨#[65]⟩,[zh,DP]⟩]⟩
theorem Zbs:Ro UR=⟨#[109,97,112,112,105,110,103,32,109,10,109,97,112,32,65,32,65,10,110,32,102,105,116,10,98,32,99,111,112,121,32,98,10,101,110,100,10]⟩:=by rfl
theorem Zbr:D3 UR=true:=by rfl
theorem Sd:JS UR Yd Yd=none:=by rfl
theorem IE:JS Du Yd Yd=some (0,-1,10):=by rfl
theorem IF:JS DD Yd Yd=some (0,0,5):=by rfl
theorem S6:Yv 10 [109,97,112,112,105,110,103,32,109,10,109,97,112,32,65]=[[109,97,112,112,105,110,103,32,109],[109,97,112,32,65]]:=by rfl
theorem Sc:yX ⟨#[109,97,112,112,105,110,103,32,109,10,109,97,112,32,65]⟩=(none,2):=by
 unfold yX
 rw [show (⟨#[109,97,112,112,105,110,103,32,109,10,109,97,112,32,65]⟩:BAr).data.toList=[109,97,112,112,105,110,103,32,109,10,109,97,112,32,65] from rfl,S6,D7 (by simp) (s':=⟨⟨#[109]⟩,[],none⟩) (by rfl)]
 rfl
def ZcB:FrD:=⟨⟨#[]⟩,2,⟨#[]⟩,5,0,[],[]⟩
def zP:FrD:=⟨⟨#[]⟩,5,⟨#[]⟩,0,0,[],[⟨1,2,9⟩]⟩
theorem ZgD:Aa (JU ZcB 3) = .tuple #[.int .i64 8,.bool true]:=by rfl
theorem ZgE:Aa (JU zP 2) = .tuple #[.int .i64 9,.bool true]:=by rfl
theorem ZgF:Aa (JU zP 3) = .tuple #[.int .i64 0,.bool false]:=by rfl
theorem Sb:∀ m∈[UR,Du,DD],∀ r∈m.rules,∀ x∈r.fields,inF x=true:=by decide
theorem ZgG:SmM UR:=by
 refine ⟨by decide,by decide,by decide⟩
def Zaf (d e f:Vl) (R:RT) (w:Wd):Prop:=
 ZD e f (.bool false) λ b=>
 Zq (λ (a:Vl) (w:Wd)=>
 ZD b a (.bool false) λ g=>
 R (.returned g) w) λ c=>
 Zp b true (
 opV Pg (Zh .eql 49 true d (.int .i64 6)) (Zb R) w λ a w=>
 c a w) (
 c undef w)
def Zag (d e f g:Vl) (R:RT) (w:Wd):Prop:=
 ZD f g (.bool false) λ b=>
 Zq (λ (a:Vl) (w:Wd)=>
 Zaf e b a R w) λ c=>
 Zp b true (
 opV Pg (Zh .eql 3 true d (.int .i64 2)) (Zb R) w λ a w=>
 c a w) (
 c undef w)
def Zah (d e f g h:Vl) (R:RT) (w:Wd):Prop:=
 ZD g h (.bool false) λ b=>
 Zq (λ (a:Vl) (w:Wd)=>
 Zag e f b a R w) λ c=>
 Zp b true (
 opV Pg (Op.unary .not d) (Zb R) w λ a w=>
 c a w) (
 c undef w)
def Zai (c d e f g h:Vl) (R:RT) (w:Wd):Prop:=
 ZD g h (.bool false) λ a=>
 Zq (λ (i:Vl) (w:Wd)=>
 Zah d e f a i R w) λ b=>
 Zp a true (
 b c w) (
 b undef w)
def Zaj (d e f g h i j:Vl) (R:RT) (w:Wd):Prop:=
 ZD i j (.bool false) λ b=>
 Zq (λ (a:Vl) (w:Wd)=>
 Zai e f g h b a R w) λ c=>
 Zp b true (
 opV Pg (Zh .eql 3 true d (.int .i64 9)) (Zb R) w λ a w=>
 c a w) (
 c undef w)
def Zak (d e f g h a:Vl) (R:RT) (w:Wd):Prop:=
 opV Pg (Instr.extract a 0) (Zb R) w λ i w=>
 opV Pg (Instr.extract a 1) (Zb R) w λ j w=>
 opV Pg (Instr.extract a 2) (Zb R) w λ k w=>
 opV Pg (Instr.alloc 24 true (.tuple #[])) (Zb R) w λ l w=>
 opU Pg (storeAt 24 l i) (Zb R) w λ w=>
 opV Pg (Zh .eql 3 true d (.int .i64 8)) (Zb R) w λ b w=>
 Zq (λ (m:Vl) (w:Wd)=>
 Zaj f g h j k b m R w) λ c=>
 Zp b true (
 c e w) (
 c undef w)
def Zal (b c d e a:Vl) (R:RT) (w:Wd):Prop:=
 opV Pg (Instr.extract a 0) (Zb R) w λ h w=>
 opV Pg (Instr.extract a 1) (Zb R) w λ f w=>
 Zg Pg 22 #[(.string { data := #[109,97,112,112,105,110,103,32,109,10,109,97,112,32,65] })] (Zb R) w λ g w=>
 Zak b c d e f g R w
def Zam (b c d a:Vl) (R:RT) (w:Wd):Prop:=
 opV Pg (Instr.extract a 0) (Zb R) w λ e w=>
 opV Pg (Instr.extract a 1) (Zb R) w λ f w=>
 opV Pg (loadAt 43 b) (Zb R) w λ g w=>
 Zg Pg 18 #[g,(.int .i64 3)] (Zb R) w λ h w=>
 Zal c d e f h R w
def O9 (a b:Vl) (R:RT) (w:Wd):Prop:=
 opV Pg (Instr.extract b 0) (Zb R) w λ c w=>
 opV Pg (Instr.extract b 1) (Zb R) w λ d w=>
 opV Pg (loadAt 43 a) (Zb R) w λ e w=>
 Zg Pg 18 #[e,(.int .i64 2)] (Zb R) w λ f w=>
 Zam a c d f R w
def OW (R:RT) (w:Wd):Prop:=
 opV Pg (Instr.build 78 #[(0,(.int .i64 1)),(1,(.int .i64 2)),(2,(.int .i64 9))]) (Zb R) w λ b w=>
 opV Pg (buildSlice 41 1 #[(0,b)]) (Zb R) w λ c w=>
 opV Pg (Instr.build 43 #[(1,(.int .i64 5)),(6,c)]) (Zb R) w λ d w=>
 opV Pg (Instr.alloc 43 true (.tuple #[])) (Zb R) w λ a w=>
 opU Pg (storeAt 43 a d) (Zb R) w λ w=>
 opV Pg (Instr.build 43 #[(1,(.int .i64 2)),(3,(.int .i64 5))]) (Zb R) w λ e w=>
 Zg Pg 18 #[e,(.int .i64 3)] (Zb R) w λ f w=>
 O9 a f R w
def OX (d e f:Vl) (R:RT) (w:Wd):Prop:=
 ZD e (.bool true) f λ b=>
 Zq (λ (a:Vl) (w:Wd)=>
 ZD b (.bool true) a λ g=>
 Zu g (
 R (.returned (.bool false)) w) (
 OW R w)) λ c=>
 Zp b false (
 opV Pg (Op.unary .not d) (Zb R) w λ a w=>
 c a w) (
 c undef w)
def OY (d e f g:Vl) (R:RT) (w:Wd):Prop:=
 ZD f (.bool true) g λ b=>
 Zq (λ (a:Vl) (w:Wd)=>
 OX e b a R w) λ c=>
 Zp b false (
 opV Pg (Op.unary .not d) (Zb R) w λ a w=>
 c a w) (
 c undef w)
def Hn (d e f g:Vl) (R:RT) (w:Wd):Prop:=
 opV Pg (loadAt 34 d) (Zb R) w λ h w=>
 opV Pg (Instr.build 34 #[(0,(.int .i64 0)),(1,(.int .i64 (-1))),(2,(.int .i64 10))]) (Zb R) w λ i w=>
 opV Pg (Zh .neq 34 false h i) (Zb R) w λ b w=>
 Zq (λ (a:Vl) (w:Wd)=>
 OY e g b a R w) λ c=>
 Zp b false (
 opV Pg (loadAt 34 f) (Zb R) w λ j w=>
 opV Pg (Instr.build 34 #[(2,(.int .i64 5))]) (Zb R) w λ k w=>
 opV Pg (Zh .neq 34 false j k) (Zb R) w λ a w=>
 c a w) (
 c undef w)
def OZ (b:Vl) (a:WPr) (d:KW) (R:RT) (w:Wd):Prop:=
 qV Pg a (Instr.extract b 0) λ e=>
 qV Pg a (Instr.extract b 1) λ f=>
 opV Pg (Instr.alloc 34 true (.tuple #[])) (Zb R) w λ c w=>
 a w∧(
 opU Pg (storeAt 34 c e) (Zb R) w λ w=>
 a w∧(
 d c f w))
def Ho (b c:Vl) (a:WPr) (d:KW) (R:RT) (w:Wd):Prop:=
 a w∧(
 qV Pg a (Instr.extract c 0) λ e=>
 qV Pg a (Instr.extract c 1) λ f=>
 opU Pg (storeAt 34 b e) (Zb R) w λ w=>
 a w∧(
 d b f w))
def Hp (c d e:Vl) (a:WPr) (f:KW) (R:RT) (w:Wd):Prop:=
 (
 Zg Pg 14 #[c,d,e] (Zb R) w λ b w=>
 a w∧(
 OZ b a f R w))∧(
 opV Pg (Instr.alloc 34 true (.tuple #[])) (Zb R) w λ g w=>
 a w∧(
 Zg Pg 14 #[c,d,e] (Zb R) w λ b w=>
 Ho g b a f R w))
def Hq (b c:Vl) (a:WPr) (d:KW) (R:RT) (w:Wd):Prop:=
 a w∧(
 qV Pg a (Instr.extract c 0) λ e=>
 qV Pg a (Instr.extract c 1) λ f=>
 opU Pg (storeAt 34 b e) (Zb R) w λ w=>
 a w∧(
 d b f w))
def Da (c d:Vl) (a:WPr) (e:KW) (R:RT) (w:Wd):Prop:=
 (
 Zg Pg 31 #[] (Zb R) w λ b w=>
 a w∧(
 Hp c d b a e R w))∧(
 opV Pg (Instr.alloc 34 true (.tuple #[])) (Zb R) w λ f w=>
 a w∧(
 Zg Pg 31 #[] (Zb R) w λ b w=>
 a w∧(
 Zg Pg 14 #[c,d,b] (Zb R) w λ g w=>
 Hq f g a e R w)))
def Hr (b c:Vl) (a:WPr) (d:KW) (R:RT) (w:Wd):Prop:=
 a w∧(
 qV Pg a (Instr.extract c 0) λ e=>
 qV Pg a (Instr.extract c 1) λ f=>
 opU Pg (storeAt 34 b e) (Zb R) w λ w=>
 a w∧(
 d b f w))
def Hs (b c:Vl) (a:WPr) (d:KW) (R:RT) (w:Wd):Prop:=
 Zg Pg 31 #[] (Zb R) w λ e w=>
 a w∧(
 Zg Pg 31 #[] (Zb R) w λ f w=>
 a w∧(
 Zg Pg 14 #[c,e,f] (Zb R) w λ g w=>
 Hr b g a d R w))
def Ht (e f g:Vl) (a:WPr) (R:RT) (w:Wd):Prop:=
 qV Pg a (loadAt 24 e) λ c=>
 Zq (λ (b:Vl) (h:Vl) (w:Wd)=>
 Hn f g b h R w) λ d=>
 (
 Zg Pg 31 #[] (Zb R) w λ i w=>
 a w∧(
 Da c i a d R w))∧(
 opV Pg (Instr.alloc 34 true (.tuple #[])) (Zb R) w λ b w=>
 a w∧(
 Hs b c a d R w))
def O0 (b:Vl) (a:WPr) (d:KW) (R:RT) (w:Wd):Prop:=
 qV Pg a (Instr.extract b 0) λ e=>
 qV Pg a (Instr.extract b 1) λ f=>
 opV Pg (Instr.alloc 34 true (.tuple #[])) (Zb R) w λ c w=>
 a w∧(
 opU Pg (storeAt 34 c e) (Zb R) w λ w=>
 a w∧(
 d c f w))
def Hu (b c:Vl) (a:WPr) (d:KW) (R:RT) (w:Wd):Prop:=
 a w∧(
 qV Pg a (Instr.extract c 0) λ e=>
 qV Pg a (Instr.extract c 1) λ f=>
 opU Pg (storeAt 34 b e) (Zb R) w λ w=>
 a w∧(
 d b f w))
def Hv (c d e:Vl) (a:WPr) (f:KW) (R:RT) (w:Wd):Prop:=
 (
 Zg Pg 14 #[c,d,e] (Zb R) w λ b w=>
 a w∧(
 O0 b a f R w))∧(
 opV Pg (Instr.alloc 34 true (.tuple #[])) (Zb R) w λ g w=>
 a w∧(
 Zg Pg 14 #[c,d,e] (Zb R) w λ b w=>
 Hu g b a f R w))
def Hw (b c:Vl) (a:WPr) (d:KW) (R:RT) (w:Wd):Prop:=
 a w∧(
 qV Pg a (Instr.extract c 0) λ e=>
 qV Pg a (Instr.extract c 1) λ f=>
 opU Pg (storeAt 34 b e) (Zb R) w λ w=>
 a w∧(
 d b f w))
def Db (c d:Vl) (a:WPr) (e:KW) (R:RT) (w:Wd):Prop:=
 (
 Zg Pg 31 #[] (Zb R) w λ b w=>
 a w∧(
 Hv c d b a e R w))∧(
 opV Pg (Instr.alloc 34 true (.tuple #[])) (Zb R) w λ f w=>
 a w∧(
 Zg Pg 31 #[] (Zb R) w λ b w=>
 a w∧(
 Zg Pg 14 #[c,d,b] (Zb R) w λ g w=>
 Hw f g a e R w)))
def Hx (b c:Vl) (a:WPr) (d:KW) (R:RT) (w:Wd):Prop:=
 a w∧(
 qV Pg a (Instr.extract c 0) λ e=>
 qV Pg a (Instr.extract c 1) λ f=>
 opU Pg (storeAt 34 b e) (Zb R) w λ w=>
 a w∧(
 d b f w))
def Hy (b c:Vl) (a:WPr) (d:KW) (R:RT) (w:Wd):Prop:=
 Zg Pg 31 #[] (Zb R) w λ e w=>
 a w∧(
 Zg Pg 31 #[] (Zb R) w λ f w=>
 a w∧(
 Zg Pg 14 #[c,e,f] (Zb R) w λ g w=>
 Hx b g a d R w))
def O1 (e f:Vl) (a:WPr) (R:RT) (w:Wd):Prop:=
 qV Pg a (loadAt 24 e) λ c=>
 Zq (λ (b:Vl) (g:Vl) (w:Wd)=>
 Ye w λ h w=>
 Ht f b g h R w) λ d=>
 (
 Zg Pg 31 #[] (Zb R) w λ i w=>
 a w∧(
 Db c i a d R w))∧(
 opV Pg (Instr.alloc 34 true (.tuple #[])) (Zb R) w λ b w=>
 a w∧(
 Hy b c a d R w))
def O2 (b a:Vl) (R:RT) (w:Wd):Prop:=
 opV Pg (fieldAt 24 a 1) (Zb R) w λ c w=>
 opV Pg (loadAt 22 c) (Zb R) w λ d w=>
 opV Pg (indexAt 22 d (.int .i64 0)) (Zb R) w λ e w=>
 opV Pg (fieldAt 60 e 2) (Zb R) w λ f w=>
 opV Pg (loadAt 58 f) (Zb R) w λ g w=>
 opV Pg (Instr.build 43 #[(0,(.string { data := #[110] })),(1,(.int .i64 1)),(2,(.string { data := #[98] }))]) (Zb R) w λ h w=>
 opV Pg (indexAt 58 g (.int .i64 0)) (Zb R) w λ i w=>
 opU Pg (storeAt 43 i h) (Zb R) w λ w=>
 Ye w λ j w=>
 O1 b a j R w
def O3 (b c:Vl) (a:WPr) (R:RT) (w:Wd):Prop:=
 qV Pg a (fieldAt 24 b 1) λ d=>
 qV Pg a (loadAt 22 d) λ e=>
 qV Pg a (fieldAt 24 b 1) λ f=>
 qV Pg a (loadAt 22 f) λ g=>
 qV Pg a (indexAt 22 g (.int .i64 0)) λ h=>
 qV Pg a (fieldAt 60 h 2) λ i=>
 qV Pg a (loadAt 58 i) λ j=>
 qV Pg a (Instr.sliceAt 58 j none (some (.int .i64 1)) none) λ k=>
 qV Pg a (indexAt 22 e (.int .i64 0)) λ l=>
 qV Pg a (fieldAt 60 l 2) λ m=>
 opU Pg (storeAt 58 m k) (Zb R) w λ w=>
 VY w λ n w=>
 O2 b c R w
def O4 (c d:Vl) (R:RT) (w:Wd):Prop:=
 opV Pg (Instr.alloc 24 true (.tuple #[])) (Zb R) w λ a w=>
 opV Pg (Instr.alloc 24 true (.tuple #[])) (Zb R) w λ b w=>
 opU Pg (storeAt 24 a c) (Zb R) w λ w=>
 opU Pg (storeAt 24 b d) (Zb R) w λ w=>
 Ye w λ e w=>
 O3 a b e R w
def O5 (a b:Vl) (R:RT) (w:Wd):Prop:=
 ZD a (.bool true) b λ c=>
 Zu c (
 R (.returned (.bool false)) w) (
 Zg Pg 30 #[] (Zb R) w λ d w=>
 Zg Pg 30 #[] (Zb R) w λ e w=>
 O4 d e R w)
def O6 (a:Vl) (b:KV) (R:RT) (w:Wd):Prop:=
 Zg Pg 31 #[] (Zb R) w λ c w=>
 Zg Pg 31 #[] (Zb R) w λ d w=>
 Zg Pg 16 #[a,c,d] (Zb R) w λ e w=>
 opV Pg (Op.unary .not e) (Zb R) w λ f w=>
 b f w
def O7 (c d:Vl) (R:RT) (w:Wd):Prop:=
 ZD c (.bool true) d λ a=>
 Zq (λ (e:Vl) (w:Wd)=>
 O5 a e R w) λ b=>
 Zp a false (
 Zg Pg 30 #[] (Zb R) w λ f w=>
 O6 f b R w) (
 b undef w)
def O8 (b:Vl) (R:RT) (w:Wd):Prop:=
 opV Pg (Instr.extract b 0) (Zb R) w λ e w=>
 opV Pg (Instr.extract b 1) (Zb R) w λ f w=>
 opV Pg (Zh .neq 9 true e (.string { data := #[109,97,112,112,105,110,103,32,109,10,109,97,112,32,65,32,65,10,110,32,102,105,116,10,98,32,99,111,112,121,32,98,10,101,110,100,10] })) (Zb R) w λ c w=>
 Zq (λ (a:Vl) (w:Wd)=>
 O7 c a R w) λ d=>
 Zp c false (
 opV Pg (Zh .neq 49 true f (.int .i64 0)) (Zb R) w λ a w=>
 d a w) (
 d undef w)
def n51 (R:RT) (w:Wd):Prop:=
 Zg Pg 30 #[] (Zb R) w λ a w=>
 Zg Pg 25 #[a] (Zb R) w λ b w=>
 O8 b R w
set_option maxHeartbeats 40000000 in
theorem Zhh {R:RT} {w:Wd} (h:n51 R w):Calls Pg 12 #[] w R:=by
 refine yD func12 ?_
 refine zs<|zr<|zm<|zn<|zk<|zs<|zr<|yc h c30 λ _ w h=>yc h c25 λ _ w h=>zm<|yv h λ _ w h=>yv h λ _ w h=>zm<|zm<|zn ?_
 refine zk<|zs<|zs<|Zr<|yG 3<|zm<|yb h λ _ w h=>zm<|zn<|yg1 2 2 false [27,28] 28 h (λ _ T hT h=>?_) λ σ w h=>?_
 · refine zm<|yb h λ _ w h=>zn ?_
   exact zt hT h
 refine yG 2<|yp h λ _ h=>zm<|zn<|yg1 5 6 false [31,32,33,34,35] 35 h (λ _ T hT h=>?_) λ σ w h=>?_
 · refine yc h c30 λ _ w h=>yc h c31 λ _ w h=>yc h c31 λ _ w h=>yc h c16 λ _ w h=>yv h λ _ w h=>zn ?_
   exact zt hT h
 refine yG 1<|yp h λ _ h=>zn<|ZK<|zk<|yC h (λ h=>zs<|zr<|zm<|zn<|zk<|Zi<|Zc<|Zk rfl rfl h) λ h=>Zo<|zk<|zs<|zr<|yc h c30 λ _ w h=>yc h c30 λ _ w h=>yv h λ _ w h=>yv h λ _ w h=>?_
 refine yu h λ w h=>yu h λ w h=>zn<|zk<|zs<|yh [39,40,41,42,43,44,45,46,47,48] h λ C hC h=>ye 0 hC h λ _ h=>?_
 refine ye 1 hC h λ _ h=>?_
 refine ye 2 hC h λ _ h=>?_
 refine ye 3 hC h λ _ h=>?_
 refine ye 4 hC h λ _ h=>?_
 refine ye 5 hC h λ _ h=>?_
 refine ye 6 hC h λ _ h=>?_
 refine ye 7 hC h λ _ h=>?_
 refine ye 8 hC h λ _ h=>?_
 refine ye 9 hC h λ _ h=>?_
 refine yq 10 2 ?_
 refine yu h λ w h=>zn ?_
 obtain ⟨C4,hC,h⟩:=h
 refine ⟨C4,hC,?_⟩
 refine yz<|zk<|zs<|zr<|yv h λ _ w h=>yv h λ _ w h=>yv h λ _ w h=>yv h λ _ w h=>yv h λ _ w h=>yB h λ _ w h=>yv h λ _ w h=>yu h λ w h=>zn<|zk<|zs ?_
 refine yh [5,6,56,57,58,59,60,61,62] h λ C hC h=>ye 0 hC h λ _ h=>?_
 refine Qr h (λ K6 hK h=>?_)
 refine Q5 [5,6,56,58,59,60,61,62] (λ ρ w=>K6 (ρ 5) (ρ 6) w) (λ T hT=>?_) (λ σ w h=>?_)
 · obtain ⟨h0,h1⟩:=h
   refine Y7 1 7 rfl rfl (by kernel_rfl) (λ _ _=>rfl) (λ _ _=>rfl) ?_ ?_
   · have h:=h0
     refine yc h c31 λ _ w h=>zn ?_
     obtain ⟨hC,h⟩:=h
     refine ⟨_,λ _ h=>h,hC,?_⟩
     obtain ⟨h0,h1⟩:=h
     refine Y7 2 7 rfl rfl (by kernel_rfl) (λ _ _=>rfl) (λ _ _=>rfl) ?_ ?_
     · have h:=h0
       refine yc h c31 λ _ w h=>zn ?_
       obtain ⟨hC,h⟩:=h
       refine ⟨_,λ _ h=>h,hC,?_⟩
       obtain ⟨h0,h1⟩:=h
       refine Y7 3 7 rfl rfl (by kernel_rfl) (λ _ _=>rfl) (λ _ _=>rfl) ?_ ?_
       · have h:=h0
         refine yc h c14 λ _ w h=>zn ?_
         obtain ⟨hC,h⟩:=h
         refine ⟨_,λ _ h=>h,hC,?_⟩
         refine yw 4 hC ?_
         refine ye 5 hC h λ _ h=>?_
         refine ye 6 hC h λ _ h=>?_
         refine yo 7 ?_
         refine yv h λ _ w h=>zn ?_
         obtain ⟨hC,h⟩:=h
         refine ⟨hC,?_⟩
         refine yo 8 ?_
         refine yu h λ w h=>zn ?_
         obtain ⟨hC,h⟩:=h
         refine ⟨hC,?_⟩
         refine yw 9 hC ?_
         refine yz ?_
         exact zt hT h
       have h:=h1
       refine yv h λ _ w h=>zn ?_
       obtain ⟨hC,h⟩:=h
       refine ⟨_,λ _ h=>h,hC,?_⟩
       refine yo 3 ?_
       refine yc h c14 λ _ w h=>zn ?_
       obtain ⟨hC,h⟩:=h
       refine ⟨hC,?_⟩
       refine yw 4 hC ?_
       refine ye 5 hC h λ _ h=>?_
       refine ye 6 hC h λ _ h=>?_
       refine yo 8 ?_
       refine yu h λ w h=>zn ?_
       obtain ⟨hC,h⟩:=h
       refine ⟨hC,?_⟩
       refine yw 9 hC ?_
       refine yz ?_
       exact zt hT h
     have h:=h1
     refine yv h λ _ w h=>zn ?_
     obtain ⟨hC,h⟩:=h
     refine ⟨_,λ _ h=>h,hC,?_⟩
     refine yo 2 ?_
     refine yc h c31 λ _ w h=>zn ?_
     obtain ⟨hC,h⟩:=h
     refine ⟨hC,?_⟩
     refine yo 3 ?_
     refine yc h c14 λ _ w h=>zn ?_
     obtain ⟨hC,h⟩:=h
     refine ⟨hC,?_⟩
     refine yw 4 hC ?_
     refine ye 5 hC h λ _ h=>?_
     refine ye 6 hC h λ _ h=>?_
     refine yo 8 ?_
     refine yu h λ w h=>zn ?_
     obtain ⟨hC,h⟩:=h
     refine ⟨hC,?_⟩
     refine yw 9 hC ?_
     refine yz ?_
     exact zt hT h
   have h:=h1
   refine yv h λ _ w h=>zn ?_
   obtain ⟨hC,h⟩:=h
   refine ⟨_,λ _ h=>h,hC,?_⟩
   refine yo 1 ?_
   refine yc h c31 λ _ w h=>zn ?_
   obtain ⟨hC,h⟩:=h
   refine ⟨hC,?_⟩
   refine yo 2 ?_
   refine yc h c31 λ _ w h=>zn ?_
   obtain ⟨hC,h⟩:=h
   refine ⟨hC,?_⟩
   refine yo 3 ?_
   refine yc h c14 λ _ w h=>zn ?_
   obtain ⟨hC,h⟩:=h
   refine ⟨hC,?_⟩
   refine yw 4 hC ?_
   refine ye 5 hC h λ _ h=>?_
   refine ye 6 hC h λ _ h=>?_
   refine yo 8 ?_
   refine yu h λ w h=>zn ?_
   obtain ⟨hC,h⟩:=h
   refine ⟨hC,?_⟩
   refine yw 9 hC ?_
   refine yz ?_
   exact zt hT h
 subst hK
 refine zk<|zs<|yh [7,8,63,64,65,66,67,68,69] h λ C hC h=>ye 0 hC h λ _ h=>?_
 refine Qr h (λ K8 hK h=>?_)
 refine Q5 [7,8,63,65,66,67,68,69] (λ ρ w=>K8 (ρ 7) (ρ 8) w) (λ T hT=>?_) (λ σ w h=>?_)
 · obtain ⟨h0,h1⟩:=h
   refine Y7 1 7 rfl rfl (by kernel_rfl) (λ _ _=>rfl) (λ _ _=>rfl) ?_ ?_
   · have h:=h0
     refine yc h c31 λ _ w h=>zn ?_
     obtain ⟨hC,h⟩:=h
     refine ⟨_,λ _ h=>h,hC,?_⟩
     obtain ⟨h0,h1⟩:=h
     refine Y7 2 7 rfl rfl (by kernel_rfl) (λ _ _=>rfl) (λ _ _=>rfl) ?_ ?_
     · have h:=h0
       refine yc h c31 λ _ w h=>zn ?_
       obtain ⟨hC,h⟩:=h
       refine ⟨_,λ _ h=>h,hC,?_⟩
       obtain ⟨h0,h1⟩:=h
       refine Y7 3 7 rfl rfl (by kernel_rfl) (λ _ _=>rfl) (λ _ _=>rfl) ?_ ?_
       · have h:=h0
         refine yc h c14 λ _ w h=>zn ?_
         obtain ⟨hC,h⟩:=h
         refine ⟨_,λ _ h=>h,hC,?_⟩
         refine yw 4 hC ?_
         refine ye 5 hC h λ _ h=>?_
         refine ye 6 hC h λ _ h=>?_
         refine yo 7 ?_
         refine yv h λ _ w h=>zn ?_
         obtain ⟨hC,h⟩:=h
         refine ⟨hC,?_⟩
         refine yo 8 ?_
         refine yu h λ w h=>zn ?_
         obtain ⟨hC,h⟩:=h
         refine ⟨hC,?_⟩
         refine yw 9 hC ?_
         refine yz ?_
         exact zt hT h
       have h:=h1
       refine yv h λ _ w h=>zn ?_
       obtain ⟨hC,h⟩:=h
       refine ⟨_,λ _ h=>h,hC,?_⟩
       refine yo 3 ?_
       refine yc h c14 λ _ w h=>zn ?_
       obtain ⟨hC,h⟩:=h
       refine ⟨hC,?_⟩
       refine yw 4 hC ?_
       refine ye 5 hC h λ _ h=>?_
       refine ye 6 hC h λ _ h=>?_
       refine yo 8 ?_
       refine yu h λ w h=>zn ?_
       obtain ⟨hC,h⟩:=h
       refine ⟨hC,?_⟩
       refine yw 9 hC ?_
       refine yz ?_
       exact zt hT h
     have h:=h1
     refine yv h λ _ w h=>zn ?_
     obtain ⟨hC,h⟩:=h
     refine ⟨_,λ _ h=>h,hC,?_⟩
     refine yo 2 ?_
     refine yc h c31 λ _ w h=>zn ?_
     obtain ⟨hC,h⟩:=h
     refine ⟨hC,?_⟩
     refine yo 3 ?_
     refine yc h c14 λ _ w h=>zn ?_
     obtain ⟨hC,h⟩:=h
     refine ⟨hC,?_⟩
     refine yw 4 hC ?_
     refine ye 5 hC h λ _ h=>?_
     refine ye 6 hC h λ _ h=>?_
     refine yo 8 ?_
     refine yu h λ w h=>zn ?_
     obtain ⟨hC,h⟩:=h
     refine ⟨hC,?_⟩
     refine yw 9 hC ?_
     refine yz ?_
     exact zt hT h
   have h:=h1
   refine yv h λ _ w h=>zn ?_
   obtain ⟨hC,h⟩:=h
   refine ⟨_,λ _ h=>h,hC,?_⟩
   refine yo 1 ?_
   refine yc h c31 λ _ w h=>zn ?_
   obtain ⟨hC,h⟩:=h
   refine ⟨hC,?_⟩
   refine yo 2 ?_
   refine yc h c31 λ _ w h=>zn ?_
   obtain ⟨hC,h⟩:=h
   refine ⟨hC,?_⟩
   refine yo 3 ?_
   refine yc h c14 λ _ w h=>zn ?_
   obtain ⟨hC,h⟩:=h
   refine ⟨hC,?_⟩
   refine yw 4 hC ?_
   refine ye 5 hC h λ _ h=>?_
   refine ye 6 hC h λ _ h=>?_
   refine yo 8 ?_
   refine yu h λ w h=>zn ?_
   obtain ⟨hC,h⟩:=h
   refine ⟨hC,?_⟩
   refine yw 9 hC ?_
   refine yz ?_
   exact zt hT h
 subst hK
 refine zk<|zs<|zs<|Zr<|yG 4<|yv h λ _ w h=>yB h λ _ w h=>yb h λ _ w h=>zm<|zn<|yg1 3 3 false [74,75,76] 76 h (λ _ T hT h=>?_) λ σ w h=>?_
 · refine yv h λ _ w h=>yB h λ _ w h=>yb h λ _ w h=>zn ?_
   exact zt hT h
 refine yG 2<|yp h λ _ h=>zm<|zn<|yg1 2 8 false [79,80] 80 h (λ _ T hT h=>?_) λ σ w h=>?_
 · refine zm<|yv h λ _ w h=>zn ?_
   exact zt hT h
 refine yG 2<|yp h λ _ h=>zm<|zn<|yg1 2 12 false [83,84] 84 h (λ _ T hT h=>?_) λ σ w h=>?_
 · refine zm<|yv h λ _ w h=>zn ?_
   exact zt hT h
 refine yG 1<|yp h λ _ h=>zn<|ZK<|zk<|yC h (λ h=>zs<|zr<|zm<|zn<|zk<|Zi<|Zc<|Zk rfl rfl h) λ h=>Zo<|zk<|zs<|zr<|yB h λ _ w h=>yS h λ _ w h=>yB h λ _ w h=>yv h λ _ w h=>?_
 refine yu h λ w h=>zn<|zk<|zs<|zr<|yB h λ _ w h=>yc h c18 λ _ w h=>zm<|yv h λ _ w h=>yv h λ _ w h=>zm<|zm<|zn<|zk<|zs ?_
 refine zr<|yv h λ _ w h=>yc h c18 λ _ w h=>zm<|yv h λ _ w h=>yv h λ _ w h=>zm<|zm<|zn<|zk<|zs<|zr<|yv h λ _ w h=>yc h c18 λ _ w h=>zm ?_
 refine yv h λ _ w h=>yv h λ _ w h=>zm<|zm<|zn<|zk<|zs<|zr<|yc h c22 λ _ w h=>zm<|yv h λ _ w h=>yv h λ _ w h=>yv h λ _ w h=>yv h λ _ w h=>yu h λ w h=>?_
 refine zm<|zm<|zn<|zk<|zs<|Zr<|yG 3<|zm<|yb h λ _ w h=>zm<|zn<|yg1 1 2 true [112] 112 h (λ _ T hT h=>?_) λ σ w h=>?_
 · refine zm<|zn ?_
   exact zt hT h
 refine yG 2<|yp h λ _ h=>zm<|zn<|yg1 2 5 true [115,116] 116 h (λ _ T hT h=>?_) λ σ w h=>?_
 · refine zm<|yb h λ _ w h=>zn ?_
   exact zt hT h
 refine yG 2<|yp h λ _ h=>zm<|zn<|yg1 1 9 true [119] 119 h (λ _ T hT h=>?_) λ σ w h=>?_
 · refine zm<|zn ?_
   exact zt hT h
 refine yG 2<|yp h λ _ h=>zm<|zn<|yg1 2 12 true [122,123] 123 h (λ _ T hT h=>?_) λ σ w h=>?_
 · refine zm<|yv h λ _ w h=>zn ?_
   exact zt hT h
 refine yG 2<|yp h λ _ h=>zm<|zn<|yg1 2 16 true [126,127] 127 h (λ _ T hT h=>?_) λ σ w h=>?_
 · refine zm<|yb h λ _ w h=>zn ?_
   exact zt hT h
 refine yG 2<|yp h λ _ h=>zm<|zn<|yg1 2 20 true [130,131] 131 h (λ _ T hT h=>?_) λ σ w h=>?_
 · refine zm<|yb h λ _ w h=>zn ?_
   exact zt hT h
 exact yG 2<|yp h λ _ h=>zm<|zn<|ZK<|zk<|Zi<|Zk rfl rfl h
theorem Se:yZ UR = .tuple #[.string ⟨#[109,97,112,112,105,110,103,32,109,10,109,97,112,32,65,32,65,10,110,32,102,105,116,10,98,32,99,111,112,121,32,98,10,101,110,100,10]⟩,.int .i64 0]:=by
 unfold yZ
 rw [Zbr,Zbs]
 rfl
theorem NE:Yv 10 (⟨#[109,97,112,112,105,110,103,32,109,10,109,97,112,32,65]⟩:BAr).data.toList=[[109,97,112,112,105,110,103,32,109],[109,97,112,32,65]]:=S6
theorem flV (a f c:Int):CR (some (a,f,c)) = .tuple #[.agg #[.int .i64 a,.int .i64 f,.int .i64 c],.bool true]:=rfl
def FlR (D w:Wd) (p:Nat) (a f c:Int):Prop:=Ext D w∧w.heap[p]?=some (.cells #[.int .i64 a,.int .i64 f,.int .i64 c] 34 (0,0))
section
variable {D w:Wd} {a f c:Int} {K:KW} {R:RT}
theorem Zbv {w1:Wd} {p:Nat} (e1:Ext D w1) (hp:D.heap.size≤p) (o1:w1.heap[p]?=some (.cells #[.int .i64 0,.int .i64 0,.int .i64 0] 34 (0,0))) (hK:∀ w' p,FlR D w' p a f c→K (.pointer (some ⟨p,0,none⟩)) (.bool true) w'):Hu (.pointer (some ⟨p,0,none⟩)) (CR (some (a,f,c))) (EC D) K R w1:=by
 rw [flV]
 unfold Hu
 simp (disch:=try exact DI) only [↓PR,QR,simprocAttr,(Za o1).1,(Za o1).2]
 have e3:Ext D (((w1.setCell ⟨p,0,none⟩ (.int .i64 a)).setCell ⟨p,1,none⟩ (.int .i64 f)).setCell ⟨p,2,none⟩ (.int .i64 c)):=((e1.setCell (p:=⟨p,0,none⟩) hp _).setCell (p:=⟨p,1,none⟩) hp _).setCell (p:=⟨p,2,none⟩) hp _
 exact ⟨e1,e3,hK _ _ ⟨e3,Zw (o:=2) (Zw (o:=1) (Zw (o:=0) o1 (.int .i64 a)) (.int .i64 f)) (.int .i64 c)⟩⟩
theorem Zbw {w1:Wd} {p:Nat} (e1:Ext D w1) (hp:D.heap.size≤p) (o1:w1.heap[p]?=some (.cells #[.int .i64 0,.int .i64 0,.int .i64 0] 34 (0,0))) (hK:∀ w' p,FlR D w' p a f c→K (.pointer (some ⟨p,0,none⟩)) (.bool true) w'):Hw (.pointer (some ⟨p,0,none⟩)) (CR (some (a,f,c))) (EC D) K R w1:=by
 rw [flV]
 unfold Hw
 simp (disch:=try exact DI) only [↓PR,QR,simprocAttr,(Za o1).1,(Za o1).2]
 have e3:Ext D (((w1.setCell ⟨p,0,none⟩ (.int .i64 a)).setCell ⟨p,1,none⟩ (.int .i64 f)).setCell ⟨p,2,none⟩ (.int .i64 c)):=((e1.setCell (p:=⟨p,0,none⟩) hp _).setCell (p:=⟨p,1,none⟩) hp _).setCell (p:=⟨p,2,none⟩) hp _
 exact ⟨e1,e3,hK _ _ ⟨e3,Zw (o:=2) (Zw (o:=1) (Zw (o:=0) o1 (.int .i64 a)) (.int .i64 f)) (.int .i64 c)⟩⟩
theorem Zbx {w1:Wd} {p:Nat} (e1:Ext D w1) (hp:D.heap.size≤p) (o1:w1.heap[p]?=some (.cells #[.int .i64 0,.int .i64 0,.int .i64 0] 34 (0,0))) (hK:∀ w' p,FlR D w' p a f c→K (.pointer (some ⟨p,0,none⟩)) (.bool true) w'):Hx (.pointer (some ⟨p,0,none⟩)) (CR (some (a,f,c))) (EC D) K R w1:=by
 rw [flV]
 unfold Hx
 simp (disch:=try exact DI) only [↓PR,QR,simprocAttr,(Za o1).1,(Za o1).2]
 have e3:Ext D (((w1.setCell ⟨p,0,none⟩ (.int .i64 a)).setCell ⟨p,1,none⟩ (.int .i64 f)).setCell ⟨p,2,none⟩ (.int .i64 c)):=((e1.setCell (p:=⟨p,0,none⟩) hp _).setCell (p:=⟨p,1,none⟩) hp _).setCell (p:=⟨p,2,none⟩) hp _
 exact ⟨e1,e3,hK _ _ ⟨e3,Zw (o:=2) (Zw (o:=1) (Zw (o:=0) o1 (.int .i64 a)) (.int .i64 f)) (.int .i64 c)⟩⟩
theorem Zct {v1 v2 v3:Vl} {m:YG} (e:Ext D w) (h1:Y3 w v1 m) (h2:XU w v2 Yd) (h3:XU w v3 Yd) (hin:∀ r∈m.rules,∀ x∈r.fields,inF x=true) (hm:JS m Yd Yd=some (a,f,c)) (hK:∀ w' p,FlR D w' p a f c→K (.pointer (some ⟨p,0,none⟩)) (.bool true) w') :
 Hv v1 v2 v3 (EC D) K R w:=by
 unfold Hv
 constructor
 · refine zcr (X3 w _ _ _ m Yd Yd h1 h2 h3 hin) λ w1 e1=>?_
   refine ⟨e.trans e1,?_⟩
   rw [hm,flV]
   unfold O0
   simp (disch:=try exact DI) only [↓PR,QR,simprocAttr]
   have oV:=Zz w1 #[.int .i64 a,.int .i64 f,.int .i64 c] 34
   have e3:=e.trans e1
   exact ⟨e3.alloc _,e3.alloc _,hK _ _ ⟨e3.alloc _,oV⟩⟩
 · 
   simp (disch:=try exact DI) only [↓PR,QR,simprocAttr]
   have oV:=Zz w #[.int .i64 0,.int .i64 0,.int .i64 0] 34
   have eV:Ext w (w.alloc (.cells #[.int .i64 0,.int .i64 0,.int .i64 0] 34)):=(Ext.refl w).alloc _
   generalize (w.alloc (.cells #[.int .i64 0,.int .i64 0,.int .i64 0] 34))=V at oV eV ⊢
   refine ⟨e.trans eV,?_⟩
   refine zcr (X3 V _ _ _ m Yd Yd (h1.ext eV) (h2.ext eV) (h3.ext eV) hin) λ w1 e1=>?_
   rw [hm]
   exact Zbv (e.trans (eV.trans e1)) e.size (e1.obj oV) hK
theorem ZjY {v1 v2:Vl} {m:YG} (e:Ext D w) (h1:Y3 w v1 m) (h2:XU w v2 Yd) (hin:∀ r∈m.rules,∀ x∈r.fields,inF x=true) (hm:JS m Yd Yd=some (a,f,c)) (hK:∀ w' p,FlR D w' p a f c→K (.pointer (some ⟨p,0,none⟩)) (.bool true) w') :
 Db v1 v2 (EC D) K R w:=by
 unfold Db
 constructor
 · refine Zl (Xh w) ?_
   rintro v3 w1 ⟨h3,e1⟩
   exact ⟨e.trans e1,Zct (e.trans e1) (h1.ext e1) (h2.ext e1) h3 hin hm hK⟩
 · 
   simp (disch:=try exact DI) only [↓PR,QR,simprocAttr]
   have oV:=Zz w #[.int .i64 0,.int .i64 0,.int .i64 0] 34
   have eV:Ext w (w.alloc (.cells #[.int .i64 0,.int .i64 0,.int .i64 0] 34)):=(Ext.refl w).alloc _
   generalize (w.alloc (.cells #[.int .i64 0,.int .i64 0,.int .i64 0] 34))=V at oV eV ⊢
   refine ⟨e.trans eV,?_⟩
   refine Zl (Xh V) ?_
   rintro v3 w2 ⟨h3,e2⟩
   refine ⟨e.trans (eV.trans e2),?_⟩
   have e02:=eV.trans e2
   refine zcr (X3 w2 _ _ _ m Yd Yd (h1.ext e02) (h2.ext e02) h3 hin) λ w1 e1=>?_
   rw [hm]
   exact Zbw (e.trans (e02.trans e1)) e.size (e1.obj (e2.obj oV)) hK
theorem Ze8 {v1:Vl} {m:YG} (e:Ext D w) (h1:Y3 w v1 m) (hin:∀ r∈m.rules,∀ x∈r.fields,inF x=true) (hm:JS m Yd Yd=some (a,f,c)) (hK:∀ w' p,FlR D w' p a f c→K (.pointer (some ⟨p,0,none⟩)) (.bool true) w') :
 Zg Pg 31 #[] (Zb R) w λ t58 w=>EC D w∧Db v1 t58 (EC D) K R w:=by
 refine Zl (Xh w) ?_
 rintro v2 w1 ⟨h2,e1⟩
 exact ⟨e.trans e1,ZjY (e.trans e1) (h1.ext e1) h2 hin hm hK⟩
theorem Ze9 {v1:Vl} {m:YG} (e:Ext D w) (h1:Y3 w v1 m) (hin:∀ r∈m.rules,∀ x∈r.fields,inF x=true) (hm:JS m Yd Yd=some (a,f,c)) (hK:∀ w' p,FlR D w' p a f c→K (.pointer (some ⟨p,0,none⟩)) (.bool true) w') :
 EC D (w.alloc (.cells #[.int .i64 0,.int .i64 0,.int .i64 0] 34))∧Hy (.pointer (some ⟨w.heap.size,0,none⟩)) v1 (EC D) K R (w.alloc (.cells #[.int .i64 0,.int .i64 0,.int .i64 0] 34)):=by
 have oV:=Zz w #[.int .i64 0,.int .i64 0,.int .i64 0] 34
 have eV:Ext w (w.alloc (.cells #[.int .i64 0,.int .i64 0,.int .i64 0] 34)):=(Ext.refl w).alloc _
 generalize (w.alloc (.cells #[.int .i64 0,.int .i64 0,.int .i64 0] 34))=V at oV eV ⊢
 refine ⟨e.trans eV,?_⟩
 unfold Hy
 refine Zl (Xh V) ?_
 rintro v2 w2 ⟨h2,e2⟩
 refine ⟨e.trans (eV.trans e2),?_⟩
 refine Zl (Xh w2) ?_
 rintro v3 w3 ⟨h3,e3⟩
 have e03:=eV.trans (e2.trans e3)
 refine ⟨e.trans e03,?_⟩
 refine zcr (X3 w3 _ _ _ m Yd Yd (h1.ext e03) (h2.ext e3) h3 hin) λ w1 e1=>?_
 rw [hm]
 exact Zbx (e.trans (e03.trans e1)) e.size (e1.obj (e3.obj (e2.obj oV))) hK
theorem Zby {w1:Wd} {p:Nat} (e1:Ext D w1) (hp:D.heap.size≤p) (o1:w1.heap[p]?=some (.cells #[.int .i64 0,.int .i64 0,.int .i64 0] 34 (0,0))) (hK:∀ w' p,FlR D w' p a f c→K (.pointer (some ⟨p,0,none⟩)) (.bool true) w'):Ho (.pointer (some ⟨p,0,none⟩)) (CR (some (a,f,c))) (EC D) K R w1:=by
 rw [flV]
 unfold Ho
 simp (disch:=try exact DI) only [↓PR,QR,simprocAttr,(Za o1).1,(Za o1).2]
 have e3:Ext D (((w1.setCell ⟨p,0,none⟩ (.int .i64 a)).setCell ⟨p,1,none⟩ (.int .i64 f)).setCell ⟨p,2,none⟩ (.int .i64 c)):=((e1.setCell (p:=⟨p,0,none⟩) hp _).setCell (p:=⟨p,1,none⟩) hp _).setCell (p:=⟨p,2,none⟩) hp _
 exact ⟨e1,e3,hK _ _ ⟨e3,Zw (o:=2) (Zw (o:=1) (Zw (o:=0) o1 (.int .i64 a)) (.int .i64 f)) (.int .i64 c)⟩⟩
theorem Zbz {w1:Wd} {p:Nat} (e1:Ext D w1) (hp:D.heap.size≤p) (o1:w1.heap[p]?=some (.cells #[.int .i64 0,.int .i64 0,.int .i64 0] 34 (0,0))) (hK:∀ w' p,FlR D w' p a f c→K (.pointer (some ⟨p,0,none⟩)) (.bool true) w'):Hq (.pointer (some ⟨p,0,none⟩)) (CR (some (a,f,c))) (EC D) K R w1:=by
 rw [flV]
 unfold Hq
 simp (disch:=try exact DI) only [↓PR,QR,simprocAttr,(Za o1).1,(Za o1).2]
 have e3:Ext D (((w1.setCell ⟨p,0,none⟩ (.int .i64 a)).setCell ⟨p,1,none⟩ (.int .i64 f)).setCell ⟨p,2,none⟩ (.int .i64 c)):=((e1.setCell (p:=⟨p,0,none⟩) hp _).setCell (p:=⟨p,1,none⟩) hp _).setCell (p:=⟨p,2,none⟩) hp _
 exact ⟨e1,e3,hK _ _ ⟨e3,Zw (o:=2) (Zw (o:=1) (Zw (o:=0) o1 (.int .i64 a)) (.int .i64 f)) (.int .i64 c)⟩⟩
theorem ZbA {w1:Wd} {p:Nat} (e1:Ext D w1) (hp:D.heap.size≤p) (o1:w1.heap[p]?=some (.cells #[.int .i64 0,.int .i64 0,.int .i64 0] 34 (0,0))) (hK:∀ w' p,FlR D w' p a f c→K (.pointer (some ⟨p,0,none⟩)) (.bool true) w'):Hr (.pointer (some ⟨p,0,none⟩)) (CR (some (a,f,c))) (EC D) K R w1:=by
 rw [flV]
 unfold Hr
 simp (disch:=try exact DI) only [↓PR,QR,simprocAttr,(Za o1).1,(Za o1).2]
 have e3:Ext D (((w1.setCell ⟨p,0,none⟩ (.int .i64 a)).setCell ⟨p,1,none⟩ (.int .i64 f)).setCell ⟨p,2,none⟩ (.int .i64 c)):=((e1.setCell (p:=⟨p,0,none⟩) hp _).setCell (p:=⟨p,1,none⟩) hp _).setCell (p:=⟨p,2,none⟩) hp _
 exact ⟨e1,e3,hK _ _ ⟨e3,Zw (o:=2) (Zw (o:=1) (Zw (o:=0) o1 (.int .i64 a)) (.int .i64 f)) (.int .i64 c)⟩⟩
theorem Zcu {v1 v2 v3:Vl} {m:YG} (e:Ext D w) (h1:Y3 w v1 m) (h2:XU w v2 Yd) (h3:XU w v3 Yd) (hin:∀ r∈m.rules,∀ x∈r.fields,inF x=true) (hm:JS m Yd Yd=some (a,f,c)) (hK:∀ w' p,FlR D w' p a f c→K (.pointer (some ⟨p,0,none⟩)) (.bool true) w') :
 Hp v1 v2 v3 (EC D) K R w:=by
 unfold Hp
 constructor
 · refine zcr (X3 w _ _ _ m Yd Yd h1 h2 h3 hin) λ w1 e1=>?_
   refine ⟨e.trans e1,?_⟩
   rw [hm,flV]
   unfold OZ
   simp (disch:=try exact DI) only [↓PR,QR,simprocAttr]
   have oV:=Zz w1 #[.int .i64 a,.int .i64 f,.int .i64 c] 34
   have e3:=e.trans e1
   exact ⟨e3.alloc _,e3.alloc _,hK _ _ ⟨e3.alloc _,oV⟩⟩
 · 
   simp (disch:=try exact DI) only [↓PR,QR,simprocAttr]
   have oV:=Zz w #[.int .i64 0,.int .i64 0,.int .i64 0] 34
   have eV:Ext w (w.alloc (.cells #[.int .i64 0,.int .i64 0,.int .i64 0] 34)):=(Ext.refl w).alloc _
   generalize (w.alloc (.cells #[.int .i64 0,.int .i64 0,.int .i64 0] 34))=V at oV eV ⊢
   refine ⟨e.trans eV,?_⟩
   refine zcr (X3 V _ _ _ m Yd Yd (h1.ext eV) (h2.ext eV) (h3.ext eV) hin) λ w1 e1=>?_
   rw [hm]
   exact Zby (e.trans (eV.trans e1)) e.size (e1.obj oV) hK
theorem ZjZ {v1 v2:Vl} {m:YG} (e:Ext D w) (h1:Y3 w v1 m) (h2:XU w v2 Yd) (hin:∀ r∈m.rules,∀ x∈r.fields,inF x=true) (hm:JS m Yd Yd=some (a,f,c)) (hK:∀ w' p,FlR D w' p a f c→K (.pointer (some ⟨p,0,none⟩)) (.bool true) w') :
 Da v1 v2 (EC D) K R w:=by
 unfold Da
 constructor
 · refine Zl (Xh w) ?_
   rintro v3 w1 ⟨h3,e1⟩
   exact ⟨e.trans e1,Zcu (e.trans e1) (h1.ext e1) (h2.ext e1) h3 hin hm hK⟩
 · 
   simp (disch:=try exact DI) only [↓PR,QR,simprocAttr]
   have oV:=Zz w #[.int .i64 0,.int .i64 0,.int .i64 0] 34
   have eV:Ext w (w.alloc (.cells #[.int .i64 0,.int .i64 0,.int .i64 0] 34)):=(Ext.refl w).alloc _
   generalize (w.alloc (.cells #[.int .i64 0,.int .i64 0,.int .i64 0] 34))=V at oV eV ⊢
   refine ⟨e.trans eV,?_⟩
   refine Zl (Xh V) ?_
   rintro v3 w2 ⟨h3,e2⟩
   refine ⟨e.trans (eV.trans e2),?_⟩
   have e02:=eV.trans e2
   refine zcr (X3 w2 _ _ _ m Yd Yd (h1.ext e02) (h2.ext e02) h3 hin) λ w1 e1=>?_
   rw [hm]
   exact Zbz (e.trans (e02.trans e1)) e.size (e1.obj (e2.obj oV)) hK
theorem Zfa {v1:Vl} {m:YG} (e:Ext D w) (h1:Y3 w v1 m) (hin:∀ r∈m.rules,∀ x∈r.fields,inF x=true) (hm:JS m Yd Yd=some (a,f,c)) (hK:∀ w' p,FlR D w' p a f c→K (.pointer (some ⟨p,0,none⟩)) (.bool true) w') :
 Zg Pg 31 #[] (Zb R) w λ t58 w=>EC D w∧Da v1 t58 (EC D) K R w:=by
 refine Zl (Xh w) ?_
 rintro v2 w1 ⟨h2,e1⟩
 exact ⟨e.trans e1,ZjZ (e.trans e1) (h1.ext e1) h2 hin hm hK⟩
theorem Zfb {v1:Vl} {m:YG} (e:Ext D w) (h1:Y3 w v1 m) (hin:∀ r∈m.rules,∀ x∈r.fields,inF x=true) (hm:JS m Yd Yd=some (a,f,c)) (hK:∀ w' p,FlR D w' p a f c→K (.pointer (some ⟨p,0,none⟩)) (.bool true) w') :
 EC D (w.alloc (.cells #[.int .i64 0,.int .i64 0,.int .i64 0] 34))∧Hs (.pointer (some ⟨w.heap.size,0,none⟩)) v1 (EC D) K R (w.alloc (.cells #[.int .i64 0,.int .i64 0,.int .i64 0] 34)):=by
 have oV:=Zz w #[.int .i64 0,.int .i64 0,.int .i64 0] 34
 have eV:Ext w (w.alloc (.cells #[.int .i64 0,.int .i64 0,.int .i64 0] 34)):=(Ext.refl w).alloc _
 generalize (w.alloc (.cells #[.int .i64 0,.int .i64 0,.int .i64 0] 34))=V at oV eV ⊢
 refine ⟨e.trans eV,?_⟩
 unfold Hs
 refine Zl (Xh V) ?_
 rintro v2 w2 ⟨h2,e2⟩
 refine ⟨e.trans (eV.trans e2),?_⟩
 refine Zl (Xh w2) ?_
 rintro v3 w3 ⟨h3,e3⟩
 have e03:=eV.trans (e2.trans e3)
 refine ⟨e.trans e03,?_⟩
 refine zcr (X3 w3 _ _ _ m Yd Yd (h1.ext e03) (h2.ext e3) h3 hin) λ w1 e1=>?_
 rw [hm]
 exact ZbA (e.trans (e03.trans e1)) e.size (e1.obj (e3.obj (e2.obj oV))) hK
end
theorem Zbu (w0:Wd) (hE:VE w0):Ret Pg 12 #[] w0 λ r w'=>r = .bool true∧Ext w0 w':=by
 refine Zhh (R:=ZJ _) ?_;unfold n51
 refine Zl (JN w0) ?_
 rintro v1 w1 ⟨_,_,hP1⟩
 refine zcr (Ha w1 (hE.ext hP1.e) v1 UR hP1.val (Sb _ (by simp)) ZgG) λ w2 e2=>?_
 rw [Se]
 have E2:=hP1.e.trans e2
 clear hP1 e2
 unfold O8 Zq
 simp (disch:=try exact DI) only [↓PR,QR,simprocAttr]
 unfold O7 Zq
 simp (disch:=try exact DI) only [↓PR,QR,simprocAttr]
 refine Zl (JN w2) ?_
 rintro v3 w3 ⟨_,_,hP3⟩
 unfold O6
 refine Zl (Xh w3) ?_
 rintro v4 w4 ⟨hD4,e4⟩
 refine Zl (Xh w4) ?_
 rintro v5 w5 ⟨hD5,e5⟩
 refine zcr (Hb w5 _ _ _ UR Yd Yd (hP3.val.ext (e4.trans e5)) (hD4.ext e5) hD5 (Sb _ (by simp))) λ w6 e6=>?_
 rw [Sd]
 have E6:=E2.trans (hP3.e.trans (e4.trans (e5.trans e6)))
 clear hP3 hD4 hD5 e4 e5 e6 E2
 simp (disch:=try exact DI) only [↓PR,QR,simprocAttr]
 unfold O5
 simp (disch:=try exact DI) only [↓PR,QR,simprocAttr]
 refine Zl (JN w6) ?_
 rintro v7 w7 ⟨bF1,bM1,hP7⟩
 refine Zl (JN w7) ?_
 rintro v8 w8 ⟨bF2,bM2,hP8⟩
 unfold O4
 rw [hP7.v,hP8.v]
 simp (disch:=try exact DI) only [↓PR,QR,simprocAttr]
 have a1:=Zz w8 #[.string ⟨#[109]⟩,.slice (some ⟨bM1,0,none⟩) 1 1] 24
 have ea:Ext w8 (w8.alloc (.cells #[.string ⟨#[109]⟩,.slice (some ⟨bM1,0,none⟩) 1 1] 24)):=(Ext.refl w8).alloc _
 have sa:(w8.alloc (.cells (Value.agg #[.string ByteArray.empty,.slice none 0 0]).cells 24)).heap.size=w8.heap.size+1:=World.size_alloc ..
 have sa':(w8.alloc (.cells #[.string ⟨#[109]⟩,.slice (some ⟨bM1,0,none⟩) 1 1] 24)).heap.size=w8.heap.size+1:=World.size_alloc ..
 rw [sa]
 generalize (w8.alloc (.cells #[.string ⟨#[109]⟩,.slice (some ⟨bM1,0,none⟩) 1 1] 24))=A at a1 ea sa' ⊢
 have a2:=Zz A #[.string ⟨#[109]⟩,.slice (some ⟨bM2,0,none⟩) 1 1] 24
 have eb:Ext A (A.alloc (.cells #[.string ⟨#[109]⟩,.slice (some ⟨bM2,0,none⟩) 1 1] 24)):=(Ext.refl A).alloc _
 rw [sa'] at a2
 generalize (A.alloc (.cells #[.string ⟨#[109]⟩,.slice (some ⟨bM2,0,none⟩) 1 1] 24))=B at a2 eb ⊢
 refine ZG ?_
 have eD:Ext B (Sw.drew B):=(Ext.refl B).drew
 generalize (Sw.drew B)=D at eD ⊢
 have l8:=hP8.e.size
 have l7:=hP7.e.size
 have lF1:=hP7.lF
 have lM1:=hP7.lM
 have lF2:=hP8.lF
 have lM2:=hP8.lM
 have nF1:=(Array.getElem?_eq_some_iff.1 hP7.oF).1
 have nM1:=(Array.getElem?_eq_some_iff.1 hP7.oM).1
 have nF2:=(Array.getElem?_eq_some_iff.1 hP8.oF).1
 have nM2:=(Array.getElem?_eq_some_iff.1 hP8.oM).1
 have nn1:=hP7.ne
 have nn2:=hP8.ne
 have eBD:=(ea.trans eb).trans eD
 have o3:=(eb.trans eD).obj a1
 have o4:=eD.obj a2
 have oM1:=(hP8.e.trans eBD).obj hP7.oM
 have oF1:=(hP8.e.trans eBD).obj hP7.oF
 have oM2:=eBD.obj hP8.oM
 have oF2:D.heap[bF2]?=some (.cells #[.string ⟨#[110]⟩,.int .i64 7,.string ⟨#[]⟩,.int .i64 0,.int .i64 0,XS,XS,.string ⟨#[98]⟩,.int .i64 1,.string ⟨#[98]⟩,.int .i64 0,.int .i64 0,XS,XS] 43 (0,0)):=eBD.obj hP8.oF
 have E0:Ext w0 D:=E6.trans (hP7.e.trans (hP8.e.trans eBD))
 have h06:=E6.size
 generalize w8.heap.size=p3 at *
 unfold O3
 simp (disch:=try exact DI) only [↓PR,QR,simprocAttr,(Za o3).1]
 rw [Ym λ QP w' k'=>Yl (k:=k') underlying22 AL bM1 0 1 1 .i64 0 (by decide) (by decide),show 0+(0:Int).toNat*3=0 from rfl]
 simp (disch:=try exact DI) only [↓PR,QR,simprocAttr,(Za oM1).1]
 refine (Ym (s:=Instr.sliceAt 58 (.slice (some ⟨bF1,0,none⟩) 2 2) none (some (.int .i64 1)) none) λ QP w' k'=>Vv underlying58 Ua bF1 0 2 2 .i64 1 (by decide)).mpr ?_
 simp (disch:=try exact DI) only [↓PR,QR,simprocAttr]
 rw [Ym λ QP w' k'=>Yl (k:=k') underlying22 AL bM1 0 1 1 .i64 0 (by decide) (by decide),show 0+(0:Int).toNat*3=0 from rfl]
 simp (disch:=try exact DI) only [↓PR,QR,simprocAttr,(Za oM1).1,(Za oM1).2]
 refine Xb ?_
 have k1:∀ b,b≠bM1→(D.setCell ⟨bM1,2,none⟩ (.slice (some ⟨bF1,0,none⟩) 1 2)).heap[b]?=D.heap[b]?:=λ b hb=>YH.setCell D bM1 2 _ b hb
 have E1:Ext w0 (D.setCell ⟨bM1,2,none⟩ (.slice (some ⟨bF1,0,none⟩) 1 2)):=E0.setCell (p:=⟨bM1,2,none⟩) (show w0.heap.size≤bM1 by omega) _
 replace oM1:=Zw (o:=2) oM1 (.slice (some ⟨bF1,0,none⟩) 1 2)
 replace oF1:=(k1 bF1 (by omega)).trans oF1
 replace oM2:=(k1 bM2 (by omega)).trans oM2
 replace oF2:=(k1 bF2 (by omega)).trans oF2
 replace o3:=(k1 p3 (by omega)).trans o3
 replace o4:=(k1 (p3+1) (by omega)).trans o4
 clear k1 E0 eD eBD
 generalize (D.setCell ⟨bM1,2,none⟩ (.slice (some ⟨bF1,0,none⟩) 1 2))=S at *
 unfold O2
 simp (disch:=try exact DI) only [↓PR,QR,simprocAttr,(Za o4).1]
 try unfold X0
 rw [Yl underlying22 AL bM2 0 1 1 .i64 0 (by decide) (by decide),show 0+(0:Int).toNat*3=0 from rfl]
 simp (disch:=try exact DI) only [↓PR,QR,simprocAttr,(Za oM2).1]
 try unfold X0
 rw [Yl underlying58 Ua bF2 0 2 2 .i64 0 (by decide) (by decide),show 0+(0:Int).toNat*7=0 from rfl]
 simp (disch:=try exact DI) only [↓PR,QR,simprocAttr,(Za oF2).1,(Za oF2).2]
 refine (Uu Ua oF2 (vs:=ZB zh XS XS) rfl (by decide) (by intro v hv;simp only [List.mem_cons,List.not_mem_nil,or_false] at hv;rcases hv with rfl | rfl | rfl | rfl | rfl | rfl | rfl<;>rfl)).mpr ?_
 have kk:∀ b,b≠bF2→(Yt S bF2 0 (ZB zh XS XS)).heap[b]?=S.heap[b]?:=λ b hb=>Wz _ _ _ b hb
 have E2:Ext w0 (Yt S bF2 0 (ZB zh XS XS)):=UU _ _ _ _ E1 (by omega)
 have oF2':(Yt S bF2 0 (ZB zh XS XS)).heap[bF2]?=some (.cells (ZB zh XS XS++ZB DP XS XS).toArray 43 (0,0)):=(QO (ZB zh XS XS) 0 oF2).trans rfl
 replace oF1:=(kk bF1 (by omega)).trans oF1
 replace oM1:=(kk bM1 (by omega)).trans oM1
 replace oM2:=(kk bM2 (by omega)).trans oM2
 replace o3:=(kk p3 (by omega)).trans o3
 replace o4:=(kk (p3+1) (by omega)).trans o4
 clear kk E1 oF2
 generalize (Yt S bF2 0 (ZB zh XS XS))=Q at *
 have hM3:Y3 Q (.agg #[.string ⟨#[109]⟩,.slice (some ⟨bM1,0,none⟩) 1 1]) Du:=⟨_,rfl,CV (r:=⟨⟨#[65]⟩,⟨#[65]⟩,[Sr]⟩) oM1 ⟨_,_,rfl,by decide,by decide,λ _=>⟨bF1,0,rfl,λ k x hx=>by
  match k,hx with
  | 0,hx=>
   cases hx
   exact ⟨_,rfl,λ j v hv=>by
    rw [(Za oF1).1]
    have hj:j < 7:=(List.getElem?_eq_some_iff.1 hv).1
    have hs:0+0*7+j=j:=by omega
    rw [hs,List.getElem?_toArray,List.getElem?_append_left hj]
    exact hv,F0 _ _ rfl rfl⟩
  | _+1,hx=>simp at hx⟩⟩⟩
 have hM4:Y3 Q (.agg #[.string ⟨#[109]⟩,.slice (some ⟨bM2,0,none⟩) 1 1]) DD:=⟨_,rfl,CV (r:=⟨⟨#[65]⟩,⟨#[65]⟩,[zh,DP]⟩) oM2 (ID oF2' rfl rfl rfl rfl)⟩
 refine ZG ?_
 have eH:Ext Q (Sw.drew Q):=(Ext.refl Q).drew
 generalize (Sw.drew Q)=H at eH ⊢
 unfold O1 Zq
 simp (disch:=try exact DI) only [↓PR,QR,simprocAttr,(Za (eH.obj o3)).1]
 have hin3:=Sb Du (by simp)
 have hin4:=Sb DD (by simp)
 have go2:∀ w' p,FlR H w' p 0 (-1) 10→Ye w' λ C7 w=>Ht (.pointer (some ⟨p3+1,0,none⟩)) (.pointer (some ⟨p,0,none⟩)) (.bool true) C7 (ZJ λ r w'=>r = .bool true∧Ext w0 w') w:=by
  rintro w9 p5 ⟨e9,o5⟩
  refine ZG ?_
  have eI:Ext w9 (Sw.drew w9):=(Ext.refl w9).drew
  generalize (Sw.drew w9)=I at eI ⊢
  have eQI:=eH.trans (e9.trans eI)
  replace o5:=eI.obj o5
  have oI4:=eQI.obj o4
  have hMI:=hM4.ext eQI
  have go3:∀ w' p,FlR I w' p 0 0 5→Hn (.pointer (some ⟨p5,0,none⟩)) (.bool true) (.pointer (some ⟨p,0,none⟩)) (.bool true) (ZJ λ r w'=>r = .bool true∧Ext w0 w') w':=by
   rintro w10 p7 ⟨e10,o7⟩
   replace o5:=e10.obj o5
   have E3:=E2.trans (eQI.trans e10)
   unfold Hn Zq
   have d1:(!(decide ((0:Int)=0)&&(decide ((-1:Int) = -1)&&(decide ((10:Int)=10)&&true))))=false:=by decide
   have d2:(!(decide ((0:Int)=0)&&(decide ((0:Int)=0)&&(decide ((5:Int)=5)&&true))))=false:=by decide
   simp (disch:=try exact DI) only [↓PR,QR,simprocAttr,(Za o5).1,(Za o7).1,d1,d2]
   unfold OY Zq
   simp (disch:=try exact DI) only [↓PR,QR,simprocAttr,d1,d2]
   unfold OX Zq
   simp (disch:=try exact DI) only [↓PR,QR,simprocAttr]
   unfold OW
   simp (disch:=try exact DI) only [↓PR,QR,simprocAttr]
   have r1:=Zz w10 (Z6 ⟨1,2,9⟩).toArray 78
   have er:Ext w10 (w10.alloc (.cells (Z6 ⟨1,2,9⟩).toArray 78)):=(Ext.refl w10).alloc _
   change Zg _ _ _ _ ((w10.alloc (.cells (Z6 ⟨1,2,9⟩).toArray 78)).alloc _) (λ t91 w=>O9 (.pointer (some ⟨(w10.alloc (.cells (Z6 ⟨1,2,9⟩).toArray 78)).heap.size,0,none⟩)) t91 _ w)
   generalize (w10.alloc (.cells (Z6 ⟨1,2,9⟩).toArray 78))=X at r1 er ⊢
   have r2:=Zz X (ZB zP XS (.slice (some ⟨w10.heap.size,0,none⟩) 1 1)).toArray 43
   have ex:Ext X (X.alloc (.cells (ZB zP XS (.slice (some ⟨w10.heap.size,0,none⟩) 1 1)).toArray 43)):=(Ext.refl X).alloc _
   change Zg _ _ _ _ (X.alloc (.cells (ZB zP XS (.slice (some ⟨w10.heap.size,0,none⟩) 1 1)).toArray 43)) _
   generalize (X.alloc (.cells (ZB zP XS (.slice (some ⟨w10.heap.size,0,none⟩) 1 1)).toArray 43))=Y at r2 ex ⊢
   have hRow:WR Y (.slice (some ⟨w10.heap.size,0,none⟩) 1 1) zP.table:=UA (l:=zP.table) (ex.obj r1) (by decide) λ k z hz=>by
    match k,hz with
    | 0,hz=>cases hz;exact ⟨_,rfl,rfl,rfl⟩
    | _+1,hz=>simp [zP] at hz
   have hTab:QH Y (.agg (ZB zP XS (.slice (some ⟨w10.heap.size,0,none⟩) 1 1)).toArray) zP:=⟨_,_,rfl,Zd.nil ..,hRow⟩
   generalize X.heap.size=p9 at *
   refine zcr (VO Y _ ZcB 3 ⟨XS,XS,rfl,Zd.nil ..,Zd.nil ..⟩ (by decide)) λ w11 e11=>?_
   rw [ZgD]
   unfold O9
   simp (disch:=try exact DI) only [↓PR,QR,simprocAttr,(Za (e11.obj r2)).1]
   refine zcr (VO w11 _ zP 2 (hTab.ext e11) (by decide)) λ w12 e12=>?_
   rw [ZgE]
   unfold Zam
   simp (disch:=try exact DI) only [↓PR,QR,simprocAttr,(Za (e12.obj (e11.obj r2))).1]
   refine zcr (VO w12 _ zP 3 (hTab.ext (e11.trans e12)) (by decide)) λ w13 e13=>?_
   rw [ZgF]
   have E4:=E3.trans (er.trans (ex.trans (e11.trans (e12.trans e13))))
   unfold Zal
   simp (disch:=try exact DI) only [↓PR,QR,simprocAttr]
   refine Zl (Lj w13 (hE.ext E4) ⟨#[109,97,112,112,105,110,103,32,109,10,109,97,112,32,65]⟩ (by decide) (by rw [NE];decide) (by rw [NE];decide)) ?_
   rintro _ w14 ⟨e14,hr⟩
   rw [Sc] at hr
   rcases hr with ⟨m,v,ho,_⟩ | ⟨v,n,ho,rfl,hv⟩
   · cases ho
   injection ho with _ hn
   subst hn
   obtain ⟨rv,rfl,_,t1⟩:=hv.op
   unfold Zak Zq
   simp (disch:=try exact DI) only [↓PR,QR,simprocAttr]
   unfold Zaj Zq
   simp (disch:=try exact DI) only [↓PR,QR,simprocAttr]
   unfold Zai Zq
   simp (disch:=try exact DI) only [↓PR,QR,simprocAttr]
   unfold Zah Zq
   simp (disch:=try exact DI) only [↓PR,QR,simprocAttr]
   unfold Zag Zq
   simp (disch:=try exact DI) only [↓PR,QR,simprocAttr]
   unfold Zaf Zq
   simp (disch:=try exact DI) only [↓PR,QR,simprocAttr]
   refine ⟨by trivial,?_⟩
   exact (E4.trans e14).alloc _
  unfold Ht Zq
  simp (disch:=try exact DI) only [↓PR,QR,simprocAttr,(Za oI4).1]
  exact ⟨Zfa (Ext.refl I) hMI hin4 IF go3,Zfb (Ext.refl I) hMI hin4 IF go3⟩
 exact ⟨Ze8 (Ext.refl H) (hM3.ext eH) hin3 IE go2,Ze9 (Ext.refl H) (hM3.ext eH) hin3 IE go2⟩
def Zan (d e f g:Vl) (Qu:KV) (R:RT) (w:Wd):Prop:=
 ZD f (.bool true) g λ b=>
 Zq (λ (a:Vl) (w:Wd)=>
 ZD b (.bool true) a λ h=>
 Zu h (
 R (.returned (.bool true)) w) (
 opV Pg (Zh .add 3 true d (.int .i64 1)) (Zb R) w λ i w=>
 Qu i w)) λ c=>
 Zp b false (
 opV Pg (fieldAt 43 e 6) (Zb R) w λ j w=>
 opV Pg (loadAt 41 j) (Zb R) w λ k w=>
 opV Pg (Builtin.len_ #[41] 3 #[k]) (Zb R) w λ l w=>
 opV Pg (Zh .gtr 3 true l (.int .i64 50)) (Zb R) w λ a w=>
 c a w) (
 c undef w)
def Zao (e b f g:Vl) (Qu:KV) (R:RT) (w:Wd):Prop:=
 ZD f (.bool true) g λ c=>
 Zq (λ (a:Vl) (w:Wd)=>
 Zan e b c a Qu R w) λ d=>
 Zp c false (
 opV Pg (fieldAt 43 b 5) (Zb R) w λ h w=>
 opV Pg (loadAt 40 h) (Zb R) w λ i w=>
 opV Pg (Builtin.len_ #[40] 3 #[i]) (Zb R) w λ j w=>
 opV Pg (Zh .gtr 3 true j (.int .i64 1100)) (Zb R) w λ a w=>
 d a w) (
 d undef w)
def Zap (f c:Vl) (Qu:KV) (R:RT) (w:Wd):Prop:=
 opV Pg (fieldAt 60 f 2) (Zb R) w λ g w=>
 opV Pg (loadAt 58 g) (Zb R) w λ h w=>
 opV Pg (indexAt 58 h c) (Zb R) w λ i w=>
 opV Pg (loadAt 43 i) (Zb R) w λ j w=>
 opV Pg (Instr.alloc 43 true (.tuple #[])) (Zb R) w λ a w=>
 opU Pg (storeAt 43 a j) (Zb R) w λ w=>
 opV Pg (fieldAt 43 a 0) (Zb R) w λ k w=>
 opV Pg (loadAt 9 k) (Zb R) w λ l w=>
 opV Pg (Builtin.len_ #[9] 3 #[l]) (Zb R) w λ m w=>
 opV Pg (Zh .gtr 3 true m (.int .i64 1100)) (Zb R) w λ d w=>
 Zq (λ (b:Vl) (w:Wd)=>
 Zao c a d b Qu R w) λ e=>
 Zp d false (
 opV Pg (fieldAt 43 a 2) (Zb R) w λ n w=>
 opV Pg (loadAt 9 n) (Zb R) w λ o w=>
 opV Pg (Builtin.len_ #[9] 3 #[o]) (Zb R) w λ p w=>
 opV Pg (Zh .gtr 3 true p (.int .i64 1100)) (Zb R) w λ b w=>
 e b w) (
 e undef w)
def Zaq (c a b:Vl) (Yk:KV) (Qu:KV) (R:RT) (w:Wd):Prop:=
 opV Pg (fieldAt 60 a 2) (Zb R) w λ d w=>
 opV Pg (loadAt 58 d) (Zb R) w λ e w=>
 opV Pg (Builtin.len_ #[58] 3 #[e]) (Zb R) w λ f w=>
 opV Pg (Zh .lss 3 false b f) (Zb R) w λ g w=>
 Zu g (
 Zap a b Qu R w) (
 opV Pg (Zh .add 3 true c (.int .i64 1)) (Zb R) w λ h w=>
 Yk h w)
def Zar (e b f g:Vl) (Yk:KV) (R:RT) (w:Wd):Prop:=
 ZD f (.bool true) g λ c=>
 Zq (λ (a:Vl) (w:Wd)=>
 ZD c (.bool true) a λ h=>
 Zu h (
 R (.returned (.bool true)) w) (
 Xd (λ i w Qu=>
 Zaq e b i Yk Qu R w) (.int .i64 0) w)) λ d=>
 Zp c false (
 opV Pg (fieldAt 60 b 1) (Zb R) w λ j w=>
 opV Pg (loadAt 9 j) (Zb R) w λ k w=>
 opV Pg (Builtin.len_ #[9] 3 #[k]) (Zb R) w λ l w=>
 opV Pg (Zh .gtr 3 true l (.int .i64 1100)) (Zb R) w λ a w=>
 d a w) (
 d undef w)
def Zas (f c:Vl) (Yk:KV) (R:RT) (w:Wd):Prop:=
 opV Pg (fieldAt 24 f 1) (Zb R) w λ g w=>
 opV Pg (loadAt 22 g) (Zb R) w λ h w=>
 opV Pg (indexAt 22 h c) (Zb R) w λ i w=>
 opV Pg (loadAt 60 i) (Zb R) w λ j w=>
 opV Pg (Instr.alloc 60 true (.tuple #[])) (Zb R) w λ a w=>
 opU Pg (storeAt 60 a j) (Zb R) w λ w=>
 opV Pg (fieldAt 60 a 2) (Zb R) w λ k w=>
 opV Pg (loadAt 58 k) (Zb R) w λ l w=>
 opV Pg (Builtin.len_ #[58] 3 #[l]) (Zb R) w λ m w=>
 opV Pg (Zh .gtr 3 true m (.int .i64 50)) (Zb R) w λ d w=>
 Zq (λ (b:Vl) (w:Wd)=>
 Zar c a d b Yk R w) λ e=>
 Zp d false (
 opV Pg (fieldAt 60 a 0) (Zb R) w λ n w=>
 opV Pg (loadAt 9 n) (Zb R) w λ o w=>
 opV Pg (Builtin.len_ #[9] 3 #[o]) (Zb R) w λ p w=>
 opV Pg (Zh .gtr 3 true p (.int .i64 1100)) (Zb R) w λ b w=>
 e b w) (
 e undef w)
def Zat (a b:Vl) (Yk:KV) (R:RT) (w:Wd):Prop:=
 opV Pg (fieldAt 24 a 1) (Zb R) w λ c w=>
 opV Pg (loadAt 22 c) (Zb R) w λ d w=>
 opV Pg (Builtin.len_ #[22] 3 #[d]) (Zb R) w λ e w=>
 opV Pg (Zh .lss 3 false b e) (Zb R) w λ f w=>
 Zu f (
 Zas a b Yk R w) (
 R (.returned (.bool false)) w)
def n52 (e:Vl) (R:RT) (w:Wd):Prop:=
 opV Pg (Instr.box 24 e) (Zb R) w λ a w=>
 opV Pg (fieldAt 24 a 1) (Zb R) w λ f w=>
 opV Pg (loadAt 22 f) (Zb R) w λ g w=>
 opV Pg (Builtin.len_ #[22] 3 #[g]) (Zb R) w λ h w=>
 opV Pg (Zh .gtr 3 true h (.int .i64 65)) (Zb R) w λ c w=>
 Zq (λ (b:Vl) (w:Wd)=>
 ZD c (.bool true) b λ i=>
 Zu i (
 R (.returned (.bool true)) w) (
 Xd (λ j w Yk=>
 Zat a j Yk R w) (.int .i64 0) w)) λ d=>
 Zp c false (
 opV Pg (fieldAt 24 a 0) (Zb R) w λ k w=>
 opV Pg (loadAt 9 k) (Zb R) w λ l w=>
 opV Pg (Builtin.len_ #[9] 3 #[l]) (Zb R) w λ m w=>
 opV Pg (Zh .gtr 3 true m (.int .i64 1100)) (Zb R) w λ b w=>
 d b w) (
 d undef w)
set_option maxHeartbeats 40000000 in
theorem Zhi {t0:Vl} {R:RT} {w:Wd} (h:n52 t0 R w):Calls Pg 10 #[t0] w R:=by
 refine yD func10 ?_
 refine zs<|zr<|yv h λ _ w h=>zm<|zn<|zk<|zs<|zs<|Zr<|yG 5<|yv h λ _ w h=>yv h λ _ w h=>yx h λ _ w h=>yb h λ _ w h=>zm ?_
 refine zn<|yg1 4 4 false [12,13,14,15] 15 h (λ _ T hT h=>?_) λ σ w h=>?_
 · refine yv h λ _ w h=>yv h λ _ w h=>yx h λ _ w h=>yb h λ _ w h=>zn ?_
   exact zt hT h
 refine yG 1<|yp h λ _ h=>zn<|ZK<|zk<|yC h (λ h=>zs<|zr<|zm<|zn<|zk<|Zi<|Zc<|Zk rfl rfl h) λ h=>Zo<|zk<|zs<|zs<|zr<|zm<|zn<|zk ?_
 refine Zn<|yl1 [2,3,4,5,6,17,18,19,20,21,22,23,24,25,26,27,28,29,30,31,32,33,34,35,36,37,38,39,40,41,42,43,44,45,46,47,48,49,50,51,52,53,54,55,56,57,58,59,60,61,62,63,64,65,66,67,68,69,70,71,72,73,74,75,76,77,78] 3 h λ σ w next h=>zs<|zs<|zr<|zm<|yv h λ _ w h=>yv h λ _ w h=>yx h λ _ w h=>yb h λ _ w h=>zn<|zk<|yC h (λ h=>?_) λ h=>?_
 · refine Zo<|zk<|zs<|Zn<|zs<|zr<|yv h λ _ w h=>yv h λ _ w h=>zm<|yv h λ _ w h=>yv h λ _ w h=>yv h λ _ w h=>yu h λ w h=>zn<|zk ?_
   refine zs<|zs<|Zr<|yG 5<|yv h λ _ w h=>yv h λ _ w h=>yx h λ _ w h=>yb h λ _ w h=>zm<|zn<|yg1 4 4 false [34,35,36,37] 37 h (λ _ T hT h=>?_) λ σ w h=>?_
   · refine yv h λ _ w h=>yv h λ _ w h=>yx h λ _ w h=>yb h λ _ w h=>zn ?_
     exact zt hT h
   refine yG 2<|yp h λ _ h=>zm<|zn<|yg1 4 10 false [40,41,42,43] 43 h (λ _ T hT h=>?_) λ σ w h=>?_
   · refine yv h λ _ w h=>yv h λ _ w h=>yx h λ _ w h=>yb h λ _ w h=>zn ?_
     exact zt hT h
   refine yG 1<|yp h λ _ h=>zn<|ZK<|zk<|yC h (λ h=>zs<|zr<|zm<|zn<|zk<|Zi<|Zc<|Zj<|Zc<|Zc<|Zj<|Zc<|Zk rfl rfl h) λ h=>Zo<|zk<|zs<|zr<|zm<|zn<|zk<|Zn ?_
   refine yl1 [2,5,6,45,46,47,48,49,50,51,52,53,54,55,56,57,58,59,60,61,62,63,64,65,66,67,68,69,70,71,72,73,74,75,76,77,78] 5 h λ σ w next h=>zs<|zs<|zr<|zm<|yv h λ _ w h=>yv h λ _ w h=>yx h λ _ w h=>yb h λ _ w h=>zn<|zk<|yC h (λ h=>?_) λ h=>?_
   · refine Zo<|zk<|zs<|Zn<|zs<|zr<|yv h λ _ w h=>yv h λ _ w h=>zm<|yv h λ _ w h=>yv h λ _ w h=>yv h λ _ w h=>yu h λ w h=>zn<|zk ?_
     refine zs<|Zr<|yG 5<|yv h λ _ w h=>yv h λ _ w h=>yx h λ _ w h=>yb h λ _ w h=>zm<|zn<|yg1 4 4 false [62,63,64,65] 65 h (λ _ T hT h=>?_) λ σ w h=>?_
     · refine yv h λ _ w h=>yv h λ _ w h=>yx h λ _ w h=>yb h λ _ w h=>zn ?_
       exact zt hT h
     refine yG 2<|yp h λ _ h=>zm<|zn<|yg1 4 10 false [68,69,70,71] 71 h (λ _ T hT h=>?_) λ σ w h=>?_
     · refine yv h λ _ w h=>yv h λ _ w h=>yx h λ _ w h=>yb h λ _ w h=>zn ?_
       exact zt hT h
     refine yG 2<|yp h λ _ h=>zm<|zn<|yg1 4 16 false [74,75,76,77] 77 h (λ _ T hT h=>?_) λ σ w h=>?_
     · refine yv h λ _ w h=>yv h λ _ w h=>yx h λ _ w h=>yb h λ _ w h=>zn ?_
       exact zt hT h
     refine yG 1<|yp h λ _ h=>zn<|ZK<|zk<|yC h (λ h=>?_) λ h=>?_
     · refine zs<|zr<|zm<|zn<|zk<|Zi<|Zj<|Zc<|Zc<|Zj<|Zj<|Zc<|Zc<|Zj<|Zc ?_
       exact Zk rfl rfl h
     exact Zo<|Zf<|zk<|zr<|zm<|yb h λ _ w h=>zm<|zn<|zk<|⟨rfl,h⟩
   exact ZR<|Ze<|Ze<|Zx<|Zf<|zk<|zr<|zm<|yb h λ _ w h=>zm<|zn<|zk<|⟨rfl,h⟩
 exact ZR<|Ze<|Ze<|Zx<|zk<|zs<|zr<|zm<|zn<|zk<|Zi<|Zk rfl rfl h
def XW (n k:Nat):Bool:=decide ((n:Int) > (k:Int))
def zR (x:FrD):Bool:=XW x.to.size 1100||(XW x.fr.size 1100||(XW x.bytes.length 1100||XW x.table.length 50))
def jj (r:MrD):Bool:=(XW r.fields.length 50||(XW r.fr.size 1100||XW r.to.size 1100))||r.fields.any zR
def F6 (m:YG):Bool:=(XW m.rules.length 65||XW m.name.size 1100)||m.rules.any jj
theorem Iu {n k:Nat} (h:XW n k=false):n≤k:=by
 unfold XW at h
 simp only [decide_eq_false_iff_not] at h
 omega
theorem DM {α:Type} {p:α→Bool} {l:List α} {k:Nat} {x:α} (hx:l[k]?=some x) (h:(l.take k).any p=false):(l.take (k+1)).any p=p x:=by
 rw [X7 hx,List.any_append,h]
 simp
theorem FK {α:Type} {p:α→Bool} {l:List α} {k:Nat} {x:α} (hx:l[k]?=some x) (h:p x=true):l.any p=true:=List.any_eq_true.2 ⟨x,List.mem_of_getElem? hx,h⟩
theorem LU (w0:Wd) (v:Vl) (m:YG) (hm:Y3 w0 v m):Ret Pg 10 #[v] w0 λ r w'=>r = .bool (F6 m)∧Ext w0 w':=by
 obtain ⟨rv,rfl,hR,t1⟩:=hm.op
 obtain ⟨A,c,rfl,hlc,hcm,hlm,YV⟩:=Zd.open hR
 refine Zhi (R:=ZJ _) ?_;unfold n52
 rw [YS]
 have o1:=Zz w0 (Yb m (.slice A m.rules.length c)).toArray 24
 have eV:Ext w0 (w0.alloc (.cells (Yb m (.slice A m.rules.length c)).toArray 24)):=(Ext.refl w0).alloc _
 generalize (w0.alloc (.cells (Yb m (.slice A m.rules.length c)).toArray 24))=V at o1 eV ⊢
 generalize w0.heap.size=p1 at o1 ⊢
 have d1:decide ((m.rules.length:Int) > 65)=XW m.rules.length 65:=rfl
 have d2:decide ((m.name.size:Int) > 1100)=XW m.name.size 1100:=rfl
 unfold Zq
 simp (disch:=try exact DI) only [↓PR,QR,simprocAttr,(Za o1).1,d1,d2]
 have hM:F6 m=((XW m.rules.length 65||XW m.name.size 1100)||m.rules.any jj):=rfl
 cases hc0:(XW m.rules.length 65||XW m.name.size 1100) with
 | true=>
  rw [hc0,Bool.true_or] at hM
  rw [hM]
  simp (disch:=try exact DI) only [↓PR,QR,simprocAttr]
  exact ⟨by trivial,eV⟩
 | false=>
  rw [hc0,Bool.false_or] at hM
  rw [hM]
  have hle:m.rules.length≤65:=Iu (Bool.or_eq_false_iff.1 hc0).1
  simp (disch:=try exact DI) only [↓PR,QR,simprocAttr]
  clear hM
  refine ZQ (λ i w=>∃ k:Nat,i = .int .i64 k∧k≤m.rules.length∧(m.rules.take k).any jj=false∧Ext V w) (λ i _=>m.rules.length - (intOf i).toNat) ⟨0,rfl,by omega,rfl,Ext.refl _⟩ ?_
  rintro _ w1 ⟨k,rfl,hk,ht,e1⟩
  have q1:=Za (e1.obj o1)
  unfold Zat
  rcases ZY hk with ⟨r,hr,_,Yq,Z5⟩ | ⟨hke,_,Z5⟩
  · have hwk:IntKind.i64.wrap ((k:Int)+1)=(k:Int)+1:=Xf (by omega) (by omega)
    obtain ⟨b,o,cs,rfl,_,hA,fv,rfl,hF⟩:=YV k r hr
    have t2:=Zd.oneCell hF
    obtain ⟨A2,c2,rfl,hlc2,hcm2,hlm2,hel2⟩:=Zd.open hF
    have hq:=hA.c3 (eV.trans e1)
    simp (disch:=try exact DI) only [↓PR,QR,simprocAttr,q1.1,Z5]
    have d3:decide ((r.fields.length:Int) > 50)=XW r.fields.length 50:=rfl
    have d4:decide ((r.fr.size:Int) > 1100)=XW r.fr.size 1100:=rfl
    have d5:decide ((r.to.size:Int) > 1100)=XW r.to.size 1100:=rfl
    unfold Zas Zar Zq
    simp (disch:=try exact DI) only [↓PR,QR,simprocAttr,q1.1,hq,d3,d4,d5]
    generalize hW:World.setCell (World.setCell (World.setCell (World.alloc w1 _) _ _) _ _) _ _=W
    have eW:Ext w1 W:=by rw [← hW];exact ((((Ext.refl w1).alloc _).setCell (Nat.le_refl _) _).setCell (Nat.le_refl _) _).setCell (Nat.le_refl _) _
    have oW:W.heap[w1.heap.size]?=some (.cells (YY r (.slice A2 r.fields.length c2)).toArray 60 (0,0)):=by rw [← hW];exact Zw (o:=2) (Zw (o:=1) (Zw (o:=0) (Zz w1 _ _) (.string r.fr)) (.string r.to)) (.slice A2 r.fields.length c2)
    clear hW
    generalize w1.heap.size=p4 at oW ⊢
    have hR0:jj r=((XW r.fields.length 50||XW r.fr.size 1100||XW r.to.size 1100)||r.fields.any zR):=by unfold jj;simp only [Bool.or_assoc]
    cases hc1:(XW r.fields.length 50||XW r.fr.size 1100||XW r.to.size 1100) with
    | true=>
     rw [hc1,Bool.true_or] at hR0
     rw [FK hr hR0]
     simp (disch:=try exact DI) only [↓PR,QR,simprocAttr]
     exact ⟨by trivial,eV.trans (e1.trans eW)⟩
    | false=>
     rw [hc1,Bool.false_or] at hR0
     have hle2:r.fields.length≤50:=Iu (Bool.or_eq_false_iff.1 (Bool.or_eq_false_iff.1 hc1).1).1
     simp (disch:=try exact DI) only [↓PR,QR,simprocAttr]
     refine ZQ (λ i w=>∃ j:Nat,i = .int .i64 j∧j≤r.fields.length∧(r.fields.take j).any zR=false∧Ext W w) (λ i _=>r.fields.length - (intOf i).toNat) ⟨0,rfl,by omega,rfl,Ext.refl _⟩ ?_
     rintro _ w2 ⟨j,rfl,hj,htj,e2⟩
     have q2:=Za (e2.obj oW)
     unfold Zaq
     rcases ZY hj with ⟨x,hx,_,hlt2,Ny⟩ | ⟨hje,_,Ny⟩
     · have hwj:IntKind.i64.wrap ((j:Int)+1)=(j:Int)+1:=Xf (by omega) (by omega)
       obtain ⟨b3,o3,cs,rfl,_,hA3,bv,tv,rfl,hB,hT⟩:=hel2 j x hx
       have u1:=Zd.oneCell hB
       have u2:=Zd.oneCell hT
       obtain ⟨A3,c3,rfl,_,_,_,_⟩:=Zd.open hB
       obtain ⟨A4,c4,rfl,_,_,_,_⟩:=Zd.open hT
       have hq3:=hA3.c7 (eV.trans (e1.trans (eW.trans e2)))
       have f1:decide ((x.to.size:Int) > 1100)=XW x.to.size 1100:=rfl
       have f2:decide ((x.fr.size:Int) > 1100)=XW x.fr.size 1100:=rfl
       have f3:decide ((x.bytes.length:Int) > 1100)=XW x.bytes.length 1100:=rfl
       have f4:decide ((x.table.length:Int) > 50)=XW x.table.length 50:=rfl
       simp (disch:=try exact DI) only [↓PR,QR,simprocAttr,q2.1,Ny]
       unfold Zap Zao Zan Zq
       simp (disch:=try exact DI) only [↓PR,QR,simprocAttr,q2.1,hq3,f1,f2,f3,f4]
       have hX0:zR x=(XW x.to.size 1100||XW x.fr.size 1100||XW x.bytes.length 1100||XW x.table.length 50):=by unfold zR;simp only [Bool.or_assoc]
       rw [← hX0]
       cases hX:zR x with
       | true=>
        rw [FK hx hX] at hR0
        rw [FK hr hR0]
        simp (disch:=try exact DI) only [↓PR,QR,simprocAttr]
        exact ⟨by trivial,(eV.trans (e1.trans (eW.trans e2))).alloc _⟩
       | false=>
        simp (disch:=try exact DI) only [↓PR,QR,simprocAttr,hwj]
        exact ⟨⟨j+1,rfl,hlt2,by rw [DM hx htj,hX],e2.alloc _⟩,Yf (kd := .i64) hlt2⟩
     · rw [hje,List.take_length] at htj
       rw [htj] at hR0
       simp (disch:=try exact DI) only [↓PR,QR,simprocAttr,q2.1,Ny,hwk]
       exact ⟨⟨k+1,rfl,Yq,by rw [DM hr ht,hR0],e1.trans (eW.trans e2)⟩,Yf (kd := .i64) Yq⟩
  · rw [hke,List.take_length] at ht
    simp (disch:=try exact DI) only [↓PR,QR,simprocAttr,q1.1,Z5]
    exact ⟨by rw [ht],eV.trans e1⟩
def Jk (s:BAr):List MrD→Nat→Int
 | [],_ => -1
 | r::l,k=>if r.fr=s then (k:Int) else Jk s l (k+1)
def idxI (k:Nat):Option Nat→Int
 | some j=>((k+j:Nat):Int)
 | none => -1
theorem B7 (s:BAr):∀ (l:List MrD) (k:Nat),Jk s l k=idxI k (l.findIdx? λ r=>decide (r.fr=s))
 | [],k=>rfl
 | r::l,k=>by
  rw [Jk,List.findIdx?_cons,B7 s l (k+1)]
  by_cases h:r.fr=s
  · rw [if_pos h,decide_eq_true h]
    rfl
  · rw [if_neg h,decide_eq_false h]
    cases l.findIdx? λ r=>decide (r.fr=s) with
    | none=>rfl
    | some j=>
     show ((k+1+j:Nat):Int)=((k+(j+1):Nat):Int)
     omega
theorem Mn (w0:Wd) (v:Vl) (m:YG) (s:BAr) (hm:Y3 w0 v m):Ret Pg 21 #[v,.string s] w0 λ r w'=>r = .int .i64 (Jk s m.rules 0)∧Ext w0 w':=by
 obtain ⟨rv,rfl,hR,t1⟩:=hm.op
 obtain ⟨A,c,rfl,hlc,hcm,hlm,YV⟩:=Zd.open hR
 refine Zhm (R:=ZJ _) ?_;unfold n56
 rw [YS]
 have o1:=Zz w0 (Yb m (.slice A m.rules.length c)).toArray 24
 have eV:Ext w0 (w0.alloc (.cells (Yb m (.slice A m.rules.length c)).toArray 24)):=(Ext.refl w0).alloc _
 generalize (w0.alloc (.cells (Yb m (.slice A m.rules.length c)).toArray 24))=V at o1 eV ⊢
 generalize w0.heap.size=p1 at o1 ⊢
 refine ZQ (λ i w=>∃ k:Nat,i = .int .i64 k∧k≤m.rules.length∧Jk s m.rules 0=Jk s (m.rules.drop k) k∧Ext V w) (λ i _=>m.rules.length - (intOf i).toNat) ⟨0,rfl,by omega,rfl,Ext.refl _⟩ ?_
 rintro _ w1 ⟨k,rfl,hk,ht,e1⟩
 rw [ht]
 have q1:=Za (e1.obj o1)
 unfold ZaC
 rcases ZY hk with ⟨r,hr,hdr,Yq,Z5⟩ | ⟨hke,hdr,Z5⟩
 · have hwk:IntKind.i64.wrap ((k:Int)+1)=(k:Int)+1:=Xf (by omega) (by omega)
   obtain ⟨b,o,cs,rfl,_,hA,fv,rfl,hF⟩:=YV k r hr
   have hq:=hA.c3 (eV.trans e1)
   rw [hdr,Jk]
   simp (disch:=try exact DI) only [↓PR,QR,simprocAttr,q1.1,Z5]
   unfold ZaB
   by_cases hs:r.fr=s
   · rw [if_pos hs]
     simp (disch:=try exact DI) only [↓PR,QR,simprocAttr,q1.1,hq,hs]
     exact ⟨by trivial,eV.trans e1⟩
   · rw [if_neg hs]
     have ds:decide (r.fr=s)=false:=decide_eq_false hs
     simp (disch:=try exact DI) only [↓PR,QR,simprocAttr,q1.1,hq,ds,hwk]
     exact ⟨⟨k+1,rfl,Yq,rfl,e1⟩,Yf (kd := .i64) Yq⟩
 · rw [hdr]
   simp (disch:=try exact DI) only [↓PR,QR,simprocAttr,q1.1,Z5]
   exact ⟨rfl,eV.trans e1⟩
section
variable {w0 w:Wd} {r:FrD} {n:Int} {p:Nat} {bv tv:Vl}
theorem JK {o:Option Int} (e:Ext w0 w) (v:Int) (fine:Bool) (ho:o=if fine=true then Cc (some v) else none):Pa (.int .i64 v) (.bool fine) (ZJ λ u w'=>u=Aa o∧Ext w0 w') w:=by
 subst ho
 unfold Pa Zq
 cases fine with
 | false=>
  simp (disch:=try exact DI) only [↓PR,QR,simprocAttr]
  exact ⟨rfl,e⟩
 | true=>
  simp (disch:=try exact DI) only [↓PR,QR,simprocAttr]
  refine Zl (Fd w v) ?_
  rintro _ w1 ⟨rfl,rfl⟩
  unfold Cc
  cases hv:Qj v with
  | false=>
   simp (disch:=try exact DI) only [↓PR,QR,simprocAttr]
   exact ⟨by rw [hv];rfl,e⟩
  | true=>
   simp (disch:=try exact DI) only [↓PR,QR,simprocAttr]
   exact ⟨by rw [hv];rfl,e⟩
theorem CU (w0:Wd) (v:Vl) (r:FrD) (n:Int) (hr:QH w0 v r):Ret Pg 19 #[v,.int .i64 n] w0 λ u w'=>u=Aa (JU r n)∧Ext w0 w':=by
 obtain ⟨bv,tv,rfl,hB,hT,b1,b2⟩:=hr.op
 refine Zhl (R:=ZJ _) ?_;unfold n55
 rw [YS]
 have o1:=Zz w0 (ZB r bv tv).toArray 43
 have eV:Ext w0 (w0.alloc (.cells (ZB r bv tv).toArray 43)):=(Ext.refl w0).alloc _
 generalize (w0.alloc (.cells (ZB r bv tv).toArray 43))=V at o1 eV ⊢
 generalize w0.heap.size=p at o1 ⊢
 refine Zl (Fd V n) ?_
 rintro _ w1 ⟨rfl,rfl⟩
 unfold JU
 cases hn:Qj n with
 | false=>
  simp (disch:=try exact DI) only [↓PR,QR,simprocAttr]
  exact ⟨rfl,eV⟩
 | true=>
  rw [if_neg (by simp)]
  have q:=Za o1
  simp (disch:=try exact DI) only [↓PR,QR,simprocAttr]
  unfold ZaA Zq
  by_cases k1:r.kind=1
  · have b1:(r.kind == 1)=true:=by simp [k1]
    simp (disch:=try exact DI) only [↓PR,QR,simprocAttr,q.1,b1]
    exact JK eV n true (by unfold V5;rw [if_pos k1];rfl)
  have n1:(r.kind == 1)=false:=by simp [k1]
  by_cases k2:r.kind=2
  · have b2:(r.kind == 2)=true:=by simp [k2]
    simp (disch:=try exact DI) only [↓PR,QR,simprocAttr,q.1,n1,b2]
    unfold Zaz Zq
    have ha:V5 r n=if UX r.add=true then some (n+r.add) else none:=by unfold V5;rw [if_neg k1,if_pos k2]
    have d1:(decide (r.add > -34359738368)&&decide (r.add < 34359738368))=UX r.add:=rfl
    simp (disch:=try exact DI) only [↓PR,QR,simprocAttr,q.1,d1]
    have d2:(decide (-34359738368 < r.add)&&decide (r.add < 34359738368))=UX r.add:=rfl
    rw [d2]
    cases hd:UX r.add with
    | false=>
     rw [hd,if_neg (by simp)] at ha
     simp (disch:=try exact DI) only [↓PR,QR,simprocAttr]
     exact JK eV 0 false (by rw [ha];rfl)
    | true=>
     rw [hd,if_pos rfl] at ha
     have hw:IntKind.i64.wrap (n+r.add)=n+r.add:=by
      unfold UX at hd
      unfold Qj at hn
      simp only [Bool.and_eq_true,decide_eq_true_eq] at hd hn
      exact Xf (by omega) (by omega)
     unfold Zau
     simp (disch:=try exact DI) only [↓PR,QR,simprocAttr,q.1,hw]
     exact JK eV _ true (by rw [ha];rfl)
  have n2:(r.kind == 2)=false:=by simp [k2]
  by_cases k3:r.kind=3
  · have b3:(r.kind == 3)=true:=by simp [k3]
    simp (disch:=try exact DI) only [↓PR,QR,simprocAttr,q.1,n1,n2]
    unfold IS
    simp (disch:=try exact DI) only [↓PR,QR,simprocAttr,q.1,b3]
    exact JK eV r.value true (by unfold V5;rw [if_neg k1,if_neg k2,if_pos k3];rfl)
  have n3:(r.kind == 3)=false:=by simp [k3]
  by_cases k5:r.kind=5
  · have b5:(r.kind == 5)=true:=by simp [k5]
    simp (disch:=try exact DI) only [↓PR,QR,simprocAttr,q.1,n1,n2]
    unfold IS
    simp (disch:=try exact DI) only [↓PR,QR,simprocAttr,q.1,n3,b5]
    unfold Zay
    obtain ⟨A,c,rfl,hlc,hcm,hlm,YV⟩:=Zd.open hT
    have hwl:IntKind.i64.wrap ((r.table.length:Int) - 1)=(r.table.length:Int) - 1:=Xf (by omega) (by omega)
    simp (disch:=try exact DI) only [↓PR,QR,simprocAttr,q.1,hwl]
    have hV:V5 r n=(r.table.find? λ x=>decide (x.low≤n)&&decide (n≤x.high)).map (·.to):=by unfold V5;rw [if_neg k1,if_neg k2,if_neg k3,if_pos k5]
    rw [hV]
    refine WF (λ a b i w=>∃ (j:Nat) (o:Option Int),i = .int .i64 ((j:Int) - 1)∧j≤r.table.length∧o=((r.table.drop j).find? λ x=>decide (x.low≤n)&&decide (n≤x.high)).map (·.to)∧a = .int .i64 (o.getD 0)∧b = .bool o.isSome∧w=w1) (λ _ _ i _=>(intOf i+1).toNat) ⟨r.table.length,none,rfl,Nat.le_refl _,by rw [List.drop_length];rfl,rfl,rfl,rfl⟩ ?_
    rintro _ _ _ _ ⟨j,o,rfl,hj,ho,rfl,rfl,rfl⟩
    cases j with
    | zero=>
     rw [List.drop_zero] at ho
     rw [← ho]
     have d0:decide (((0:Nat):Int) - 1≥0)=false:=by decide
     simp (disch:=try exact DI) only [↓PR,QR,simprocAttr,d0]
     exact JK eV _ _ (by cases o<;>rfl)
    | succ j=>
     have d0:decide (((j+1:Nat):Int) - 1≥0)=true:=by simp only [decide_eq_true_eq];omega
     have hj1:((j+1:Nat):Int) - 1=(j:Int):=by omega
     rw [hj1] at d0 ⊢
     obtain ⟨x,hx⟩:=getElem?_lt (l:=r.table) (k:=j) (by omega)
     obtain ⟨b3,o3,cs,rfl,_,hA,rfl⟩:=YV j x hx
     have hq:=hA.c3 eV
     have hdr:r.table.drop j=x::r.table.drop (j+1):=by
      obtain ⟨h1,h2⟩:=List.getElem?_eq_some_iff.1 hx
      rw [← h2]
      exact List.drop_eq_getElem_cons h1
     have hwj:IntKind.i64.wrap ((j:Int) - 1)=(j:Int) - 1:=Xf (by omega) (by omega)
     have hm:((intOf (.int .i64 ((j:Int) - 1))+1).toNat) < ((intOf (.int .i64 (j:Int))+1).toNat):=by
      show ((j:Int) - 1+1).toNat < ((j:Int)+1).toNat
      omega
     simp (disch:=try exact DI) only [↓PR,QR,simprocAttr,d0]
     unfold Zax Zaw Zq
     simp (disch:=try exact DI) only [↓PR,QR,simprocAttr,q.1,hq]
     cases hp:(decide (x.low≤n)&&decide (n≤x.high)) with
     | true=>
      unfold Zav
      simp (disch:=try exact DI) only [↓PR,QR,simprocAttr,q.1,hq,hwj]
      exact ⟨⟨j,some x.to,rfl,by omega,by rw [hdr];simp only [List.find?_cons,hp];rfl,rfl,rfl,trivial⟩,hm⟩
     | false=>
      simp (disch:=try exact DI) only [↓PR,QR,simprocAttr,hwj]
      exact ⟨⟨j,o,rfl,by omega,by rw [hdr];simp only [List.find?_cons,hp];exact ho,rfl,rfl,trivial⟩,hm⟩
  have n5:(r.kind == 5)=false:=by simp [k5]
  simp (disch:=try exact DI) only [↓PR,QR,simprocAttr,q.1,n1,n2]
  unfold IS
  simp (disch:=try exact DI) only [↓PR,QR,simprocAttr,q.1,n3,n5]
  exact JK eV 0 false (by unfold V5;rw [if_neg k1,if_neg k2,if_neg k3,if_neg k5];rfl)
end
def T9 (d e:Vl) (R:RT) (w:Wd):Prop:=
 ZD d e (.bool false) λ b=>
 Zq (λ (a:Vl) (w:Wd)=>
 ZD b a (.bool false) λ f=>
 R (.returned f) w) λ c=>
 Zp b true (
 Zg Pg 12 #[] (Zb R) w λ a w=>
 c a w) (
 c undef w)
def Zaa (d e f g:Vl) (R:RT) (w:Wd):Prop:=
 ZD f g (.bool false) λ b=>
 Zq (λ (a:Vl) (w:Wd)=>
 T9 b a R w) λ c=>
 Zp b true (
 opV Pg (Builtin.max_ #[3,3] 3 #[e,(.int .i64 0)]) (Zb R) w λ h w=>
 opV Pg (Zh .eql 3 false d h) (Zb R) w λ a w=>
 c a w) (
 c undef w)
def Zab (e f b g h:Vl) (R:RT) (w:Wd):Prop:=
 ZD g h (.bool false) λ c=>
 Zq (λ (a:Vl) (w:Wd)=>
 Zaa e b c a R w) λ d=>
 Zp c true (
 opV Pg (Zh .geq 3 true b (.int .i64 0)) (Zb R) w λ i w=>
 opV Pg (Zh .eql 4 false f i) (Zb R) w λ a w=>
 d a w) (
 d undef w)
def Zac (d e f g h i j:Vl) (R:RT) (w:Wd):Prop:=
 opV Pg (Zh .eql 3 false d f) (Zb R) w λ b w=>
 Zq (λ (a:Vl) (w:Wd)=>
 Zab h i j b a R w) λ c=>
 Zp b true (
 opV Pg (Zh .eql 4 false e g) (Zb R) w λ a w=>
 c a w) (
 c undef w)
def Zad (b c d e f g a:Vl) (R:RT) (w:Wd):Prop:=
 opV Pg (Instr.extract a 0) (Zb R) w λ h w=>
 opV Pg (Instr.extract a 1) (Zb R) w λ i w=>
 opV Pg (loadAt 24 c) (Zb R) w λ j w=>
 Zg Pg 21 #[j,b] (Zb R) w λ k w=>
 Zac d e f g h i k R w
def Zae (a b d e c:Vl) (R:RT) (w:Wd):Prop:=
 opV Pg (Instr.extract c 0) (Zb R) w λ f w=>
 opV Pg (Instr.extract c 1) (Zb R) w λ g w=>
 opV Pg (loadAt 24 b) (Zb R) w λ h w=>
 Zg Pg 20 #[h,a] (Zb R) w λ i w=>
 Zad a b d e f g i R w
def OU (b c d e a:Vl) (R:RT) (w:Wd):Prop:=
 opV Pg (Instr.extract a 0) (Zb R) w λ f w=>
 opV Pg (Instr.extract a 1) (Zb R) w λ g w=>
 opV Pg (loadAt 43 d) (Zb R) w λ h w=>
 Zg Pg 19 #[h,b] (Zb R) w λ i w=>
 Zae c e f g i R w
def EB (a c b d e f:Vl) (R:RT) (w:Wd):Prop:=
 ZD e (.bool true) f λ g=>
 Zu g (
 Zg Pg 12 #[] (Zb R) w λ h w=>
 R (.returned h) w) (
 opV Pg (loadAt 43 b) (Zb R) w λ i w=>
 Zg Pg 18 #[i,a] (Zb R) w λ j w=>
 OU a c b d j R w)
def OV (e b f g h i:Vl) (R:RT) (w:Wd):Prop:=
 ZD h (.bool true) i λ c=>
 Zq (λ (a:Vl) (w:Wd)=>
 EB e b f g c a R w) λ d=>
 Zp c false (
 opV Pg (Builtin.len_ #[9] 3 #[b]) (Zb R) w λ j w=>
 opV Pg (Zh .gtr 3 true j (.int .i64 1100)) (Zb R) w λ a w=>
 d a w) (
 d undef w)
def n50 (f g h i:Vl) (R:RT) (w:Wd):Prop:=
 opV Pg (Instr.box 43 f) (Zb R) w λ b w=>
 opV Pg (Instr.box 24 h) (Zb R) w λ c w=>
 opV Pg (fieldAt 43 b 6) (Zb R) w λ j w=>
 opV Pg (loadAt 41 j) (Zb R) w λ k w=>
 opV Pg (Builtin.len_ #[41] 3 #[k]) (Zb R) w λ l w=>
 opV Pg (Zh .gtr 3 true l (.int .i64 50)) (Zb R) w λ d w=>
 Zq (λ (a:Vl) (w:Wd)=>
 OV g i b c d a R w) λ e=>
 Zp d false (
 opV Pg (loadAt 24 c) (Zb R) w λ m w=>
 Zg Pg 10 #[m] (Zb R) w λ a w=>
 e a w) (
 e undef w)
theorem Zhg {t0 t1 t2 t3:Vl} {R:RT} {w:Wd} (h:n50 t0 t1 t2 t3 R w):Calls Pg 4 #[t0,t1,t2,t3] w R:=by
 refine yD func4 ?_
 refine zs<|zr<|yv h λ _ w h=>yv h λ _ w h=>zm<|zn<|zk<|zs<|zs<|Zr<|yG 5<|yv h λ _ w h=>yv h λ _ w h=>yx h λ _ w h=>yb h λ _ w h=>?_
 refine zm<|zn<|yg1 2 4 false [21,22] 22 h (λ _ T hT h=>?_) λ σ w h=>?_
 · refine yv h λ _ w h=>yc h c10 λ _ w h=>zn ?_
   exact zt hT h
 refine yG 2<|yp h λ _ h=>zm<|zn<|yg1 3 8 false [25,26,27] 27 h (λ _ T hT h=>?_) λ σ w h=>?_
 · refine zm<|yx h λ _ w h=>yb h λ _ w h=>zn ?_
   exact zt hT h
 refine yG 1<|yp h λ _ h=>zn<|ZK<|zk<|yC h (λ h=>zs<|zr<|yc h c12 λ _ w h=>zm<|zn<|zk<|Zi<|Zc<|Zk rfl rfl h) λ h=>Zo<|zk<|zs<|zr<|yv h λ _ w h=>zm<|yc h c18 λ _ w h=>zm ?_
 refine yv h λ _ w h=>yv h λ _ w h=>zm<|zm<|zn<|zk<|zs<|zr<|yv h λ _ w h=>zm<|yc h c19 λ _ w h=>zm<|yv h λ _ w h=>yv h λ _ w h=>zm ?_
 refine zm<|zn<|zk<|zs<|zr<|yv h λ _ w h=>zm<|yc h c20 λ _ w h=>zm<|yv h λ _ w h=>yv h λ _ w h=>zm<|zm<|zn<|zk ?_
 refine zs<|zr<|yv h λ _ w h=>zm<|yc h c21 λ _ w h=>zm<|zn<|zk<|zs<|Zr<|yG 4<|zm<|zm<|yb h λ _ w h=>zm ?_
 refine zn<|yg1 3 3 true [55,56,57] 57 h (λ _ T hT h=>?_) λ σ w h=>?_
 · refine zm<|zm<|yb h λ _ w h=>zn ?_
   exact zt hT h
 refine yG 2<|yp h λ _ h=>zm<|zn<|yg1 4 8 true [60,61,62,63] 63 h (λ _ T hT h=>?_) λ σ w h=>?_
 · refine zm<|zm<|yb h λ _ w h=>yb h λ _ w h=>zn ?_
   exact zt hT h
 refine yG 2<|yp h λ _ h=>zm<|zn<|yg1 4 14 true [66,67,68,69] 69 h (λ _ T hT h=>?_) λ σ w h=>?_
 · refine zm<|zm<|yx h λ _ w h=>yb h λ _ w h=>zn ?_
   exact zt hT h
 refine yG 2<|yp h λ _ h=>zm<|zn<|yg1 1 20 true [72] 72 h (λ _ T hT h=>?_) λ σ w h=>?_
 · refine yc h c12 λ _ w h=>zn ?_
   exact zt hT h
 exact yG 2<|yp h λ _ h=>zm<|zn<|ZK<|zk<|Zi<|Zk rfl rfl h
theorem Gg (w0:Wd) (hE:VE w0) (v1 v2:Vl) (r:FrD) (m:YG) (n:Int) (s:BAr) (hr:QH w0 v1 r) (hm:Y3 w0 v2 m) (hin:inF r=true):Ret Pg 4 #[v1,.int .i64 n,v2,.string s] w0 λ u w'=>u = .bool true∧Ext w0 w':=by
 obtain ⟨bv,tv,rfl,hB,hT,b1,b2⟩:=hr.op
 obtain ⟨rv,rfl,hR,t1⟩:=hm.op
 obtain ⟨A,c,rfl,hlc,hcm,hlm,YV⟩:=Zd.open hT
 refine Zhg (R:=ZJ _) ?_;unfold n50
 rw [YS]
 have o1:=Zz w0 (ZB r bv (.slice A r.table.length c)).toArray 43
 have e1:Ext w0 (w0.alloc (.cells (ZB r bv (.slice A r.table.length c)).toArray 43)):=(Ext.refl w0).alloc _
 generalize (w0.alloc (.cells (ZB r bv (.slice A r.table.length c)).toArray 43))=W1 at o1 e1 ⊢
 rw [YS]
 have o2:=Zz W1 (Yb m rv).toArray 24
 have e2:Ext W1 (W1.alloc (.cells (Yb m rv).toArray 24)):=(Ext.refl W1).alloc _
 generalize (W1.alloc (.cells (Yb m rv).toArray 24))=W at o2 e2 ⊢
 replace o1:=e2.obj o1
 have e:=e1.trans e2
 generalize w0.heap.size=p1 at o1 ⊢
 generalize W1.heap.size=p2 at o2 ⊢
 have hm':Y3 W (.agg (Yb m rv).toArray) m:=⟨_,rfl,hR.ext e⟩
 have hr':QH W (.agg (ZB r bv (.slice A r.table.length c)).toArray) r:=⟨_,_,rfl,hB.ext e,hT.ext e⟩
 have q1:=Za o1
 have q2:=Za o2
 have kn:∀ w,Ext W w→Zg Pg 12 #[] (Zb (ZJ λ u w'=>u = .bool true∧Ext w0 w')) w λ t29 w=>ZJ (λ u w'=>u = .bool true∧Ext w0 w') (.returned t29) w:=by
  intro w ew
  refine zcr (Zbu w (hE.ext (e.trans ew))) λ w1 e9=>?_
  simp (disch:=try exact DI) only [↓PR,QR,simprocAttr]
  exact ⟨by trivial,e.trans (ew.trans e9)⟩
 have body:∀ w,Ext W w→opV Pg (loadAt 43 (.pointer (some ⟨p1,0,none⟩))) (Zb (ZJ λ u w'=>u = .bool true∧Ext w0 w')) w λ t31 w=>Zg Pg 18 #[t31,.int .i64 n] (Zb (ZJ λ u w'=>u = .bool true∧Ext w0 w')) w λ t33 w=>OU (.int .i64 n) (.string s) (.pointer (some ⟨p1,0,none⟩)) (.pointer (some ⟨p2,0,none⟩)) t33 (ZJ λ u w'=>u = .bool true∧Ext w0 w') w:=by
  intro w ew
  simp (disch:=try exact DI) only [↓PR,QR,simprocAttr,(Za (ew.obj o1)).1]
  refine zcr (VO w _ r n (hr'.ext ew) hin) λ w3 e3=>?_
  unfold Aa OU
  have e3:=ew.trans e3
  simp (disch:=try exact DI) only [↓PR,QR,simprocAttr,(Za (e3.obj o1)).1]
  refine zcr (CU w3 _ r n (hr'.ext e3)) λ w4 e4=>?_
  unfold Aa Zae
  have e4:=e3.trans e4
  simp (disch:=try exact DI) only [↓PR,QR,simprocAttr,(Za (e4.obj o2)).1]
  refine zcr (GV w4 _ m s (hm'.ext e4)) λ w5 e5=>?_
  unfold Zad
  have e5:=e4.trans e5
  simp (disch:=try exact DI) only [↓PR,QR,simprocAttr,(Za (e5.obj o2)).1]
  refine zcr (Mn w5 _ m s (hm'.ext e5)) λ w6 e6=>?_
  have e6:=e5.trans e6
  have hI:Jk s m.rules 0=match VA m s with
   | some j=>((0+j:Nat):Int)
   | none => -1:=B7 s m.rules 0
  have f1:((JU r n).getD 0 == (JU r n).getD 0)=true:=beq_self_eq_true _
  have f2:((JU r n).isSome == (JU r n).isSome)=true:=beq_self_eq_true _
  have f3:((VA m s).isSome == decide (Jk s m.rules 0≥0))=true:=by
   rw [hI]
   cases VA m s with
   | none=>rfl
   | some j=>simp
  have f4:((((VA m s).getD 0:Nat):Int) == if 0 > Jk s m.rules 0 then 0 else Jk s m.rules 0)=true:=by
   rw [hI]
   cases VA m s with
   | none=>rfl
   | some j=>
    simp only [Option.getD_some,Nat.zero_add,beq_iff_eq]
    split<;>omega
  unfold Zac Zq
  simp (disch:=try exact DI) only [↓PR,QR,simprocAttr,f1]
  unfold Zab Zq
  simp (disch:=try exact DI) only [↓PR,QR,simprocAttr,f1,f2]
  unfold Zaa Zq
  simp (disch:=try exact DI) only [↓PR,QR,simprocAttr,f1,f2,f3]
  rw [f4]
  unfold T9 Zq
  simp (disch:=try exact DI) only [↓PR,QR,simprocAttr]
  exact kn _ e6
 unfold Zq
 have d1:decide ((r.table.length:Int) > 50)=XW r.table.length 50:=rfl
 simp (disch:=try exact DI) only [↓PR,QR,simprocAttr,q1.1,d1]
 have d1':decide ((50:Int) < (r.table.length:Int))=XW r.table.length 50:=rfl
 rw [d1']
 cases hb:XW r.table.length 50 with
 | true=>
  unfold OV EB Zq
  simp (disch:=try exact DI) only [↓PR,QR,simprocAttr]
  exact kn _ (Ext.refl _)
 | false=>
  simp (disch:=try exact DI) only [↓PR,QR,simprocAttr,q2.1]
  refine Zl (LU W _ m hm') ?_
  rintro _ w2 ⟨rfl,e2'⟩
  have ds:decide ((s.size:Int) > 1100)=XW s.size 1100:=rfl
  unfold OV Zq
  cases hlg:F6 m with
  | true=>
   unfold EB
   simp (disch:=try exact DI) only [↓PR,QR,simprocAttr]
   exact kn _ e2'
  | false=>
   simp (disch:=try exact DI) only [↓PR,QR,simprocAttr,ds]
   cases JA:XW s.size 1100 with
   | true=>
    unfold EB
    simp (disch:=try exact DI) only [↓PR,QR,simprocAttr]
    exact kn _ e2'
   | false=>
    unfold EB
    exact body w2 e2'
end Go.Proofs.YtgalpdihjbinjaaGreatDoor
namespace Go.Sw
open Go.ChangeShapes Go.WideShapes Go.RowKit Go.ChangeAt Go.Deep
theorem IH {α:Type} {p:Nat→α→Prop}:∀ (n:Nat),(∀ i,i < n→∃ x,p i x)→∃ l:List α,l.length=n∧∀ k x,l[k]?=some x→p k x
 | 0,_=>⟨[],rfl,λ k x h=>by simp at h⟩
 | n+1,h=>by
  obtain ⟨l,hl,hp⟩:=IH n (λ i hi=>h i (by omega))
  obtain ⟨x,hx⟩:=h n (by omega)
  refine ⟨l++[x],by simp [hl],λ k y hy=>?_⟩
  rw [List.getElem?_append] at hy
  split at hy
  · exact hp k y hy
  · have hk:k=n:=by
     have:=(List.getElem?_eq_some_iff.1 hy).1
     simp at this
     omega
    subst hk
    simp [hl] at hy
    subst hy
    exact hx
section
variable {H:Type} {enc:TypeId×Vl→H} {P:Program} {w:Wd} {base:Nat} {spare:Nat→Bool} {held:Bool}
theorem Jw {e:TypeId} {m:Nat} {d:DataW H}:∀ {l:List (DataW H)},d∈l→m∈d.weights P e→m∈DataW.weightsAll P e l
 | [],h,_=>by cases h
 | a::l,h,hm=>by
  rw [DataW.weightsAll,List.mem_append]
  rcases List.mem_cons.1 h with rfl | h
  · exact .inl hm
  · exact .inr (Jw h hm)
def QQ (P:Program) (t:TypeId) (d:DataW H):Prop:=∀ m∈d.weights P t,m≤reachBytes
theorem Ao {ts:List TypeId} {ds:List (DataW H)} (h:(DataW.weightsEach P ts ds).all (· ≤ reachBytes)=true) {j:Nat} {t:TypeId} {d:DataW H} (ht:ts[j]?=some t) (hd:ds[j]?=some d):QQ P t d:=λ m hm=>by
 have:=List.all_eq_true.1 h _ (DataW.weights_mem_each ht hd m hm)
 simpa using this
theorem WA {α:Type} {E:Wd→List Vl→α→Prop} {Q:α→Prop} {t e:TypeId} {n fuel:Nat} {cs:List Vl} {x:DataW H×List MemPlace} (ht:P.underlying t=some (.slice e)) (hn:P.cellsOf e=n) (hb1:1≤P.bytesOf e) (h0:0 < n)
 (hE:∀ m cs' y,DataW.trod enc P w base spare held m e cs'=some y→QQ P e y.1→∃ x,E w cs' x∧Q x) (h:DataW.trod enc P w base spare held fuel t cs=some x) (hr:QQ P t x.1):∃ v l,cs=[v]∧Zd w n E v l∧(∀ x∈l,Q x)∧l.length≤140737488355328:=by
 rcases open_slice ht h with ⟨rfl,_⟩ | ⟨a,len,cap,m,k,D,Pl,rfl,hb,hl,hm,hmm,hx,YV⟩
 · exact ⟨_,[],rfl,Zd.nil _ _ _,λ x hx=>by (cases hx),Nat.zero_le _⟩
 · have hlm:len≤m:=by rw [hmm];split<;>omega
   subst hx
   have hw0:=hr ((len+(m - len))*P.bytesOf e) (by simp only [DataW.weights,ht];simp)
   have XA:len≤140737488355328:=by
    have:len*1≤(len+(m - len))*P.bytesOf e:=Nat.mul_le_mul (by omega) hb1
    simp only [reachBytes] at hw0
    omega
   have hD:∀ i,i < len→QQ P e (D i):=λ i hi q hq=>hr q (by
    simp only [DataW.weights,ht,List.mem_cons,List.mem_append]
    exact .inr (.inl (Jw (List.mem_map.2 ⟨i,List.mem_range.2 hi,rfl⟩) hq)))
   obtain ⟨l,hll,hp⟩:=IH (p:=λ i (x:α)=>∃ cs',w.cells? base (a.add (i*n)) n=some cs'∧E w cs' x∧Q x) len (λ i hi=>by
    obtain ⟨cs',h1,h2⟩:=YV i (by omega)
    rw [hn] at h1
    obtain ⟨x,hx⟩:=hE _ _ _ h2 (hD i hi)
    exact ⟨x,cs',h1,hx⟩)
   refine ⟨_,l,rfl,⟨some a,cap,by rw [hll],by rw [hll];exact hl,by simp only [maxLen] at hm;omega,λ YW=>?_⟩,λ x hx=>?_,by omega⟩
   · obtain ⟨b,o,spot⟩:=a
     have hspot:spot=none:=by
      have:0 < l.length:=List.length_pos_iff.2 YW
      obtain ⟨y,hy⟩:=getElem?_lt this
      obtain ⟨cs',h1,_⟩:=hp 0 y hy
      obtain ⟨_,h2,h3⟩:=World.cells?_some h1
      have h4:=h3 0 h0
      rw [List.getElem?_eq_getElem (by omega)] at h4
      simpa [Addr.add] using World.cell?_spot h4
     subst hspot
     refine ⟨b,o,rfl,λ k x hx=>?_⟩
     obtain ⟨cs',h1,h2,_⟩:=hp k x hx
     obtain ⟨_,h3,h4⟩:=World.cells?_some h1
     refine ⟨cs',h3,λ j v hv=>?_,h2⟩
     have h5:=h4 j (by have:=(List.getElem?_eq_some_iff.1 hv).1;omega)
     rw [hv] at h5
     simpa [Addr.add_lit] using h5
   · obtain ⟨k,hk⟩:=List.getElem?_of_mem hx
     obtain ⟨_,_,_,hq⟩:=hp k x hk
     exact hq
theorem Wh {fs:Array Field} {t:TypeId} {n fuel:Nat} {cs:List Vl} {x:DataW H×List MemPlace} (ht:P.underlying t=some (.struct fs)) (hn:P.cellsOf t=n) (h:DataW.trod enc P w base spare held fuel t cs=some x) (hr:QQ P t x.1) :
 cs.length=n∧∃ m,∀ (i:Nat) (ty off k:Nat),(fs[i]?).map (λ f=>(f.type,f.offset))=some (ty,off)→P.cellsOf ty=k→∃ y,DataW.trod enc P w base spare held m ty ((cs.drop off).take k)=some y∧QQ P ty y.1:=by
 obtain ⟨xs,m,_,rfl,hl,XA,hf⟩:=DataW.trod_struct ht h
 refine ⟨hl.trans hn,m,λ i ty off k hi hk=>?_⟩
 obtain ⟨f,hfi,he⟩:=Option.map_eq_some_iff.1 hi
 injection he with h1 h2
 subst h1 h2 hk
 have hil:i < xs.length:=by rw [XA];exact (Array.getElem?_eq_some_iff.1 hfi).1
 refine ⟨xs[i],(hf i f hfi).trans (List.getElem?_eq_getElem hil),λ q hq=>hr q ?_⟩
 simp only [DataW.weights,ht]
 refine DataW.weights_mem_each (j:=i) (t:=f.type) (d:=xs[i].1) ?_ ?_ q hq
 · rw [List.getElem?_map,Array.getElem?_toList,hfi];rfl
 · rw [List.getElem?_map,List.getElem?_eq_getElem hil];rfl
theorem PM {r:Reach} {b0:Nat} {t:TypeId} {v:Vl} {d:DataW H} {ps:List MemPlace} (ht:P.underlying t=some .string) (hval:Value.okWide P w r b0 t v) (hd:DataW.Trod enc P w base spare held t v d ps):∃ s:BAr,v = .string s∧d = .lit (.string s.data.toList):=by
 obtain ⟨s,rfl⟩:=okWide_string ht hval
 obtain ⟨fuel,hf⟩:=hd
 obtain ⟨s',h,hx,hs⟩:=DataW.trod_string ht hf
 simp [Value.cells] at h
 simp only [Prod.mk.injEq] at hx
 exact ⟨s,rfl,by rw [hx.1,h]⟩
theorem J9 (hl:laidOutB P=true) {W W':Wd} (he:Ext W W'):∀ {ts:List TypeId} {vs:List Vl} {ds:List (DataW H)} {ps:List MemPlace},(∀ t∈ts,P.readableRec t=true∧t < P.types.size)→(∀ x∈ps,x.block < W.heap.size) →
 DataW.TrodAll enc P W 0 (λ _=>true) true ts vs ds ps→DataW.TrodAll enc P W' 0 (λ b=>decide (b < W.heap.size)) true ts vs ds ps
 | [],_,_,_,_,_,h=>by obtain ⟨rfl,rfl,rfl⟩:=trodAll_nil h;exact trodAll_mk0
 | t::ts,_,_,_,hr,Yq,h=>by
  obtain ⟨v,vs1,d,ds1,a,b,rfl,rfl,rfl,h1,h2⟩:=trodAll_cons h
  refine ⟨a,b,?_,J9 hl he (λ t ht=>hr t (List.mem_cons_of_mem _ ht)) (λ x hx=>Yq x (List.mem_append_right _ hx)) h2,rfl⟩
  exact Below.trod hl (hr t (List.mem_cons_self ..)).1 (hr t (List.mem_cons_self ..)).2 h1 ⟨he.os,he.tape,he.output,he.size,he.block⟩ (λ x hx=>Yq x (List.mem_append_left _ hx))
theorem NI {f:Func} {s:ChangeSpec} {W W':Wd} {args:AVl} {ds gs:List (DataW H)} {before:List MemPlace} {tb:TypeId} (hl:laidOutB P=true) (hr:∀ t∈f.params.toList,P.readableRec t=true∧t < P.types.size) (hs:s.vars=[])
 (hW:DataW.Whole enc P f.params.toList s.vars false W args.toList ds gs before) (he:Ext W W') (hres:f.resultTypes = #[tb]) (htb:P.underlying tb=some .bool) (hfn:(s.fn H ds).results=[.lit (.bool true)]) (hargs:(s.fn H ds).args=ds) (hvars:(s.fn H ds).vars=[]) :
 s.post enc P f false true false false W args (.bool true) W':=by
 have hW':=hW
 obtain ⟨p,q,hA,hV,rfl,_,_⟩:=hW
 rw [hs] at hV
 obtain ⟨rfl,rfl⟩:=trodVars_none hV
 have Yq:∀ x∈p,x.block < W.heap.size:=λ x hx=>hW'.lt x (by simpa using hx)
 rw [List.append_nil] at hW'
 refine ⟨ds,[],p,[],p,[],hW',?_,?_,?_,Below.frame ⟨he.os,he.tape,he.output,he.size,he.block⟩ _,λ h=>by cases h⟩
 · rw [List.append_nil,hfn,hres]
   exact trodAll_mk1 (shut_bool htb _)
 · rw [List.append_nil,hargs]
   exact J9 hl he hr Yq hA
 · rw [List.append_nil,hvars,hs]
   exact rfl
end
end Go.Sw
namespace Go.Proofs.YtgalpdihjbinjaaGreatDoor
open Sw
open Go.ChangeShapes Go.WideShapes Go.RowKit Go.ChangeAt Go.Deep
theorem WC:Pg.cellsOf 9=1:=by kernel_rfl
theorem Kl:Pg.cellsOf 3=1:=by kernel_rfl
end Go.Proofs.YtgalpdihjbinjaaGreatDoor
namespace Go.Proofs.YtgalpdihjbinjaaGreatDoor
open Sw
open Go.ChangeShapes Go.WideShapes Go.RowKit Go.ChangeAt Go.Deep
theorem DS:Pg.cellsOf 78=3:=by kernel_rfl
theorem Iw:Pg.cellsOf 43=7:=by kernel_rfl
theorem Iy:Pg.cellsOf 60=3:=by kernel_rfl
theorem Nb:Pg.cellsOf 24=2:=by kernel_rfl
theorem RR:Pg.cellsOf 39=1:=by kernel_rfl
theorem RQ:Pg.cellsOf 40=1:=by kernel_rfl
theorem LA:Pg.cellsOf 41=1:=by kernel_rfl
theorem Na:Pg.cellsOf 58=1:=by kernel_rfl
theorem Nc:Pg.cellsOf 22=1:=by kernel_rfl
theorem Nd:Pg.cellsOf 5=1:=by kernel_rfl
theorem bytesRow:1≤Pg.bytesOf 78:=Nat.le_of_ble_eq_true (by kernel_rfl)
theorem RL:1≤Pg.bytesOf 43:=Nat.le_of_ble_eq_true (by kernel_rfl)
theorem RM:1≤Pg.bytesOf 60:=Nat.le_of_ble_eq_true (by kernel_rfl)
theorem M3:1≤Pg.bytesOf 5:=Nat.le_of_ble_eq_true (by kernel_rfl)
theorem Jh {n:Int} (h:(Lit.int .i64 n).wf=true):X6 n=true:=h
section
variable {H:Type} {enc:TypeId×Vl→H} {w:Wd} {base:Nat} {spare:Nat→Bool} {held:Bool}
theorem M2 {m:Nat} {cs:List Vl} {y:DataW H×List MemPlace} (h:DataW.trod enc Pg w base spare held m 5 cs=some y):∃ x:UInt8,Bk w cs x:=by
 obtain ⟨k,rfl,_,hw⟩:=DataW.trod_int underlying5 h
 have hk:0≤k∧k≤255:=by
  have h2:(decide (IntKind.u8.min≤k)&&decide (k≤IntKind.u8.max))=true:=hw
  rw [Bool.and_eq_true,decide_eq_true_eq,decide_eq_true_eq,show IntKind.u8.min=0 from rfl,show IntKind.u8.max=255 from rfl] at h2
  exact h2
 refine ⟨UInt8.ofNat k.toNat,?_⟩
 show [Value.int .u8 k]=[Value.int .u8 ((UInt8.ofNat k.toNat).toNat:Int)]
 rw [UInt8.toNat_ofNat',Nat.mod_eq_of_lt (by omega)]
 congr 2
 omega
theorem ZbY {m:Nat} {cs:List Vl} {y:DataW H×List MemPlace} (h:DataW.trod enc Pg w base spare held m 78 cs=some y) (hr:QQ Pg 78 y.1):∃ x,RD w cs x∧WW x=true:=by
 obtain ⟨hl,n,hf⟩:=Wh underlying78 DS h hr
 obtain ⟨y0,h0,r0⟩:=hf 0 3 0 1 rfl Kl
 obtain ⟨y1,h1,r1⟩:=hf 1 3 1 1 rfl Kl
 obtain ⟨y2,h2,r2⟩:=hf 2 3 2 1 rfl Kl
 match cs,hl with
 | [c0,c1,c2],_=>
  obtain ⟨a,e0,_,w0⟩:=DataW.trod_int underlying3 h0
  obtain ⟨b,e1,_,w1⟩:=DataW.trod_int underlying3 h1
  obtain ⟨c,e2,_,w2⟩:=DataW.trod_int underlying3 h2
  simp at e0 e1 e2
  subst e0 e1 e2
  refine ⟨⟨a,b,c⟩,rfl,?_⟩
  unfold WW
  rw [Jh w0,Jh w1,Jh w2]
  rfl
theorem S4 {m:Nat} {cs:List Vl} {y:DataW H×List MemPlace} (h:DataW.trod enc Pg w base spare held m 43 cs=some y) (hr:QQ Pg 43 y.1):∃ x,EFr w cs x∧inF x=true:=by
 obtain ⟨hl,n,hf⟩:=Wh underlying43 Iw h hr
 obtain ⟨y0,h0,r0⟩:=hf 0 9 0 1 rfl WC
 obtain ⟨y1,h1,r1⟩:=hf 1 39 1 1 rfl RR
 obtain ⟨y2,h2,r2⟩:=hf 2 9 2 1 rfl WC
 obtain ⟨y3,h3,r3⟩:=hf 3 3 3 1 rfl Kl
 obtain ⟨y4,h4,r4⟩:=hf 4 3 4 1 rfl Kl
 obtain ⟨y5,h5,r5⟩:=hf 5 40 5 1 rfl RQ
 obtain ⟨y6,h6,r6⟩:=hf 6 41 6 1 rfl LA
 match cs,hl with
 | [c0,c1,c2,c3,c4,c5,c6],_=>
  obtain ⟨x0,e0,_⟩:=DataW.trod_string underlying9 h0
  obtain ⟨x1,e1,_⟩:=DataW.trod_int underlying39 h1
  obtain ⟨x2,e2,_⟩:=DataW.trod_string underlying9 h2
  obtain ⟨x3,e3,_,w3⟩:=DataW.trod_int underlying3 h3
  obtain ⟨x4,e4,_,w4⟩:=DataW.trod_int underlying3 h4
  obtain ⟨v5,l5,e5,hS5,_,_⟩:=WA (E:=Bk) (Q:=λ _=>True) underlying40 Nd M3 (by decide) (λ _ _ _ h hr=>let ⟨x,hx⟩:=M2 h; ⟨x,hx,trivial⟩) h5 r5
  obtain ⟨v6,l6,e6,hS6,hQ6,_⟩:=WA (E:=RD) (Q:=λ x=>WW x=true) underlying41 DS bytesRow (by decide) (λ _ _ _ h hr=>ZbY h hr) h6 r6
  simp at e0 e1 e2 e3 e4 e5 e6
  subst e0 e1 e2 e3 e4 e5 e6
  refine ⟨⟨x0,x1,x2,x3,x4,l5,l6⟩,⟨_,_,rfl,hS5,hS6⟩,?_⟩
  unfold inF
  simp only [Jh w3,Jh w4,Bool.true_and,List.all_eq_true]
  exact hQ6
theorem ZcF {m:Nat} {cs:List Vl} {y:DataW H×List MemPlace} (h:DataW.trod enc Pg w base spare held m 60 cs=some y) (hr:QQ Pg 60 y.1):∃ x,EMr w cs x∧∀ z∈x.fields,inF z=true:=by
 obtain ⟨hl,n,hf⟩:=Wh underlying60 Iy h hr
 obtain ⟨y0,h0,r0⟩:=hf 0 9 0 1 rfl WC
 obtain ⟨y1,h1,r1⟩:=hf 1 9 1 1 rfl WC
 obtain ⟨y2,h2,r2⟩:=hf 2 58 2 1 rfl Na
 match cs,hl with
 | [c0,c1,c2],_=>
  obtain ⟨a,e0,_⟩:=DataW.trod_string underlying9 h0
  obtain ⟨b,e1,_⟩:=DataW.trod_string underlying9 h1
  obtain ⟨v,l,e2,hS,hQ,_⟩:=WA (E:=EFr) (Q:=λ x=>inF x=true) underlying58 Iw RL (by decide) (λ _ _ _ h hr=>S4 h hr) h2 r2
  simp at e0 e1 e2
  subst e0 e1 e2
  exact ⟨⟨a,b,l⟩,⟨_,rfl,hS⟩,hQ⟩
def MX (m:YG):Prop:=∀ r∈m.rules,∀ x∈r.fields,inF x=true
theorem ZbC {m:Nat} {cs:List Vl} {y:DataW H×List MemPlace} (h:DataW.trod enc Pg w base spare held m 24 cs=some y) (hr:QQ Pg 24 y.1):∃ d rv,cs=Yb d rv∧Kg w rv d.rules∧MX d:=by
 obtain ⟨hl,n,hf⟩:=Wh underlying24 Nb h hr
 obtain ⟨y0,h0,r0⟩:=hf 0 9 0 1 rfl WC
 obtain ⟨y1,h1,r1⟩:=hf 1 22 1 1 rfl Nc
 match cs,hl with
 | [c0,c1],_=>
  obtain ⟨a,e0,_⟩:=DataW.trod_string underlying9 h0
  obtain ⟨v,l,e1,hS,hQ,_⟩:=WA (E:=EMr) (Q:=λ x=>∀ z∈x.fields,inF z=true) underlying22 Iy RM (by decide) (λ _ _ _ h hr=>ZcF h hr) h1 r1
  simp at e0 e1
  subst e0 e1
  exact ⟨⟨a,l⟩,_,rfl,hS,hQ⟩
theorem Zbo {r:Reach} {b0:Nat} {v:Vl} {d:DataW H} {ps:List MemPlace} (hval:Value.okWide Pg w r b0 43 v) (h:DataW.Trod enc Pg w base spare held 43 v d ps) (hr:QQ Pg 43 d):∃ f,QH w v f∧inF f=true:=by
 obtain ⟨cs,rfl,_⟩:=okWide_struct underlying43 hval
 obtain ⟨fuel,hf⟩:=h
 obtain ⟨f,⟨tv,cv,h1,h2,h3⟩,hs⟩:=S4 hf hr
 exact ⟨f,⟨tv,cv,congrArg Value.agg (by rw [← h1,ZC]),h2,h3⟩,hs⟩
theorem Sm {r:Reach} {b0:Nat} {v:Vl} {d:DataW H} {ps:List MemPlace} (hval:Value.okWide Pg w r b0 24 v) (h:DataW.Trod enc Pg w base spare held 24 v d ps) (hr:QQ Pg 24 d):∃ f,Y3 w v f∧MX f:=by
 obtain ⟨cs,rfl,_⟩:=okWide_struct underlying24 hval
 obtain ⟨fuel,hf⟩:=h
 obtain ⟨f,tv,h1,h2,hs⟩:=ZbC hf hr
 exact ⟨f,⟨tv,congrArg Value.agg (by rw [← h1,ZC]),h2⟩,hs⟩
end
end Go.Proofs.YtgalpdihjbinjaaGreatDoor
namespace Go.Proofs.YtgalpdihjbinjaaGreatDoor
open Sw
open Go.RowKit Go.Deep
def QD:List (String×DataW Unit):=[("math/bits.deBruijn32tab", Rows.laid_math_bits_deBruijn32tab),("math/bits.deBruijn64tab", Rows.laid_math_bits_deBruijn64tab),("internal/strconv.uint64pow10", Rows.laid_internal_strconv_uint64pow10),("unicode/utf8.acceptRanges", Rows.laid_unicode_utf8_acceptRanges),("strconv.ErrRange", Rows.laid_strconv_ErrRange),("strconv.ErrSyntax", Rows.laid_strconv_ErrSyntax),("unicode/utf8.first", Rows.laid_unicode_utf8_first)]
theorem role_own:ownKnob Pg.godebug=none:=by kernel_rfl
theorem role_laidOut:laidOutB Pg=true:=by kernel_rfl
theorem P0 (os:Os) (args:AVl):laidMetH Pg QD ((World.laidAll Pg os QD).forCall (λ _ _=>0) ⟨#[],args,[]⟩).memory:=by
 rw [MakeChecks.laidMetH_plain _ _ _ (by kernel_rfl)]
 exact laidMet_laidAll _ (by kernel_rfl) (by kernel_rfl)
theorem P1 {W:Wd} (h:laidMetH Pg QD W):Ug W:=by
 rw [MakeChecks.laidMetH_plain _ _ _ (by kernel_rfl)] at h
 have h3:=laidMet.tail (laidMet.tail h)
 have he:(Rows.laid_internal_strconv_uint64pow10:DataW Unit)=Go.Lib.tabData .u64 Go.Lib.pow10Tab:=by kernel_rfl
 rw [he] at h3
 obtain ⟨g,hg⟩:=Option.isSome_iff_exists.1 Zcz
 have hty:(Pg.globals[g]?).map (·.type)=some 281:=by
  have h1:(Pg.globalNamed "internal/strconv.uint64pow10").bind (λ g=>(Pg.globals[g]?).map (·.type))=some 281:=by kernel_rfl
  rw [hg] at h1
  exact h1
 exact Go.Lib.tabIs_of_head hg hty underlying281 underlying191 (by kernel_rfl) (by kernel_rfl) h3
theorem B5 : "*" ++ "errors.errorString" = "*errors.errorString" := by decide
theorem xZ (u:TypeId) (h:Pg.typeName? 3 u=some "*errors.errorString"):u=292:=
 typeName_ptr_named (nm := "errors.errorString") (by rw [B5];kernel_rfl) (by kernel_rfl) (by decide) u (by rw [B5];exact h)
theorem PZ {W:Wd} (hs:W.ShapedOpen Pg) (h:laidMetH Pg QD W):Uc W:=by
 refine ⟨P1 h,Go.Proofs.cell_of_shapedOpen_int (k := .i64) hs (of_decide_eq_true (by kernel_rfl)) (zero := #[.int .i64 0]) (t:=3) (by kernel_rfl) rfl (by kernel_rfl) (by kernel_rfl) underlying3,?_,?_⟩
 · rw [MakeChecks.laidMetH_plain _ _ _ (by kernel_rfl)] at h
   have h5:=h.tail.tail.tail.tail.tail
   obtain ⟨a,s,hv,_⟩:=laid_sentinel (g:=3) h5 (by kernel_rfl) (by kernel_rfl) underlying162 xZ underlying292 underlying294 rfl rfl underlying9 (by kernel_rfl) (by kernel_rfl)
   refine ⟨_,by rw [World.var?_cell (show Pg.globalNamed "strconv.ErrSyntax" = some 3 by kernel_rfl) hv 0];rfl,.inr ⟨_,_,rfl⟩⟩
 · rw [MakeChecks.laidMetH_plain _ _ _ (by kernel_rfl)] at h
   have h5:=h.tail.tail.tail.tail
   obtain ⟨a,s,hv,_⟩:=laid_sentinel (g:=4) h5 (by kernel_rfl) (by kernel_rfl) underlying162 xZ underlying292 underlying294 rfl rfl underlying9 (by kernel_rfl) (by kernel_rfl)
   refine ⟨_,by rw [World.var?_cell (show Pg.globalNamed "strconv.ErrRange" = some 4 by kernel_rfl) hv 0];rfl,.inr ⟨_,_,rfl⟩⟩
def Zcv:List Int:=[0,1,56,2,57,49,28,3,61,58,42,50,38,29,17,4,62,47,59,36,45,43,51,22,53,39,33,30,24,18,12,5,63,55,48,27,60,41,37,16,46,35,44,21,52,32,23,11,54,26,40,15,34,20,31,10,25,14,19,9,13,8,7,6]
theorem Sk {W:Wd} (hs:W.ShapedOpen Pg) (h:laidMetH Pg QD W):VE W:=by
 refine ⟨PZ hs h,?_⟩
 rw [MakeChecks.laidMetH_plain _ _ _ (by kernel_rfl)] at h
 have h2:=laidMet.tail h
 have he:(Rows.laid_math_bits_deBruijn64tab:DataW Unit)=Go.Lib.tabData .u8 Zcv:=by kernel_rfl
 rw [he] at h2
 have hg:Pg.globalNamed "math/bits.deBruijn64tab" = some 7:=by kernel_rfl
 have hv:=Go.Lib.tabIs_of_head hg (t:=306) (by kernel_rfl) underlying306 underlying5 (by kernel_rfl) (by kernel_rfl) h2
 rw [World.var?_cell hg hv 15]
 rfl
theorem F3 {H:Type} {enc:TypeId×Vl→H} {a:Assume} {C:Checked} {os:Os} {f:FuncId} {fn:Func} {s:ChangeSpec} {conds:List PathCond} {apart fresh handsOn again:Bool} {X:Wd→AVl→Prop}
 (hX:∀ (w w':Wd) (args:AVl),w.heap=w'.heap→X w args→X w' args)
 (own:ownKnob C.prog.godebug=none) (started:os.Started) (noInit:C.prog.inits.idxOf? f=none) (hfn:C.prog.funcs[f]?=some fn)
 (witness:∃ (w:Wd) (tape:Tape) (i:Input),w.os=os∧(w.forCall tape i).Shaped C.prog∧i.vars=[]∧Input.okWide C.prog (w.forCall tape i) .any w.heap.size f i ∧
  ((s.pre enc C.prog fn conds apart (w.forCall tape i).memory i.args∧X (w.forCall tape i).memory i.args)∧sizedMet enc C.prog fn (OpenSpec.ofChange s) apart (w.forCall tape i).memory i.args)∧a.holds C.prog (lone (Frame.enter C.prog f i.args .normal) [] (w.forCall tape i)))
 (contract:∀ (W:Wd) (base:Nat) (args:AVl) (ds gs:List (DataW H)) (before:List MemPlace),
  (∀ (j:Nat) t v,fn.params[j]?=some t→args[j]?=some v→Value.okWide C.prog W .any base t v) →
  DataW.Whole enc C.prog fn.params.toList s.vars apart W args.toList ds gs before →
  conds.all (PathCond.test C.prog ⟨fn.params.toList,ds,s.plain.varTypes C.prog,gs⟩)=true →
  (DataW.weightsEach C.prog (fn.params.toList++s.plain.varTypes C.prog) (ds++gs)).all (· ≤ reachBytes)=true→X W args→W.ShapedOpen C.prog →
  a.holds C.prog (lone (Frame.enter C.prog f args .normal) [] W) →
  Calls C.prog f args W λ e W'=>∃ v,e = .returned v∧s.post enc C.prog fn apart fresh handsOn again W args v W') :
 ReturnsInHanded a C os f .any (λ w args=>(s.pre enc C.prog fn conds apart w args∧X w args)∧sizedMet enc C.prog fn (OpenSpec.ofChange s) apart w args) (s.post enc C.prog fn apart fresh handsOn again):=by
 refine returnsInHanded_of_calls own started noInit witness ?_
 intro w tape i _ hsh _ hok hpre hholds
 obtain ⟨_,_,_,fn',hfn',_,_,_,_,hval⟩:=hok
 have e:fn'=fn:=Option.some.inj (hfn'.symm.trans hfn)
 subst e
 obtain ⟨⟨⟨ds,gs,before,hw,hc⟩,hx⟩,hz⟩:=hpre
 have hw':=DataW.Whole.of_heap (w':=w.forCall tape i) (by rfl) hw
 refine (contract (w.forCall tape i) w.heap.size i.args ds gs before hval hw' hc (hz.weights hw) (hX _ _ _ (by rfl) hx) hsh hholds).mono λ e W' ⟨v,he,hp⟩=>?_
 subst he
 exact ChangeSpec.post_blind hp
end Go.Proofs.YtgalpdihjbinjaaGreatDoor
namespace Go.Proofs.YtgalpdihjbinjaaGreatDoor
open Sw
open Go.ChangeShapes Go.WideShapes Go.RowKit Go.ChangeAt Go.Deep
theorem GT (W:Wd) (v0:Vl) (f0:FrD) (n1:Int) (v2:Vl) (f2:YG) (s3:BAr) (hf0:QH W v0 f0) (hs0:inF f0=true) (hf2:Y3 W v2 f2) (hs2:MX f2) (hE:VE W):Ret Pg 4 #[v0,.int .i64 n1,v2,.string s3] W λ r w'=>r = .bool true∧Ext W w':=Gg W hE v0 v2 f0 f2 n1 s3 hf0 hf2 hs0
theorem mnumbers_lifted (os:Os) (started:os.Started) (H:Type) (enc:TypeId×Vl→H) :
 ReturnsInHanded {} Tryz.checked os 4 .any (λ w args=>(Rows.mappingNumbersSpec.pre enc Pg Tryz.f4 Rows.mappingNumbersRow.domain false w args∧laidMetH Pg QD w)∧sizedMet enc Pg Tryz.f4 (OpenSpec.ofChange Rows.mappingNumbersSpec) false w args) (Rows.mappingNumbersSpec.post enc Pg Tryz.f4 false true false false):=by
 refine F3 (C:=Tryz.checked) (X:=λ w _=>laidMetH Pg QD w) (λ _ _ _ hh h=>h.of_heap hh) role_own started (by kernel_rfl) func4
  (ChangeSpec.witness_shaped (enc:=enc) (C:=Tryz.checked) (os:=os) (X:=λ w _=>laidMetH Pg QD w) false (World.laidAll Pg os QD) #[.agg #[.string ByteArray.empty,.int .i64 0,.string ByteArray.empty,.int .i64 0,.int .i64 0,.slice none 0 0,.slice none 0 0],.int .i64 0,.agg #[.string ByteArray.empty,.slice none 0 0],.string ByteArray.empty] 8 (World.laidAll_os _ _ _) (World.shaped_of_ZipB (by kernel_rfl) (by kernel_rfl)) (by kernel_rfl) (by kernel_rfl) (by kernel_rfl) (P0 os _)) ?_
 intro W base args ds gs before hval hW _ JA hL hsh _
 have hW':=hW
 obtain ⟨p,q,hA0,hV,rfl,_,_⟩:=hW
 have hA:DataW.TrodAll enc Pg W 0 (λ _=>true) true Tryz.f4.params.toList args.toList ds p:=hA0
 rw [Tryz.params4] at hA hval JA
 obtain ⟨v0,vs0,d0,ds0,p0,q0,ha0,rfl,rfl,h0,r0⟩:=trodAll_cons hA
 obtain ⟨v1,vs1,d1,ds1,p1,q1,ha1,rfl,rfl,h1,r1⟩:=trodAll_cons r0
 obtain ⟨v2,vs2,d2,ds2,p2,q2,ha2,rfl,rfl,h2,r2⟩:=trodAll_cons r1
 obtain ⟨v3,vs3,d3,ds3,p3,q3,ha3,rfl,rfl,h3,r3⟩:=trodAll_cons r2
 obtain ⟨rfl,rfl,rfl⟩:=trodAll_nil r3
 subst ha3 ha2 ha1
 obtain rfl:args = #[v0,v1,v2,v3]:=by cases args;simp_all
 obtain ⟨f0,hf0,hs0⟩:=Zbo (hval 0 _ v0 rfl rfl) h0 (Ao (j:=0) JA rfl rfl)
 obtain ⟨n1,rfl,_,_,hw1⟩:=open_int underlying3 (hval 1 _ v1 rfl rfl) h1
 obtain ⟨f2,hf2,hs2⟩:=Sm (hval 2 _ v2 rfl rfl) h2 (Ao (j:=2) JA rfl rfl)
 obtain ⟨s3,rfl,_⟩:=PM underlying9 (hval 3 _ v3 rfl rfl) h3
 refine Calls.mono (GT W v0 f0 n1 v2 f2 s3 hf0 hs0 hf2 hs2 (Sk hsh hL)) λ e W' ⟨v,he,hv,hx⟩=>?_
 subst he hv
 exact ⟨_,rfl,NI role_laidOut (by decide +kernel) rfl hW' hx rfl underlying4 rfl rfl rfl⟩
theorem zY:Pg.inPlace 4=Rows.mappingNumbersRow.inPlace:=by kernel_rfl
theorem JT:Pg.unfollowed 4=Rows.mappingNumbersRow.unfollowed:=by kernel_rfl
theorem zd:Pg.recurses 4=Rows.mappingNumbersRow.recurses:=by kernel_rfl
theorem Gp:Pg.varsNamed 4=Rows.mappingNumbersRow.named:=by kernel_rfl
theorem jq:joinedFacts Pg 4 Tryz.f4 Rows.mappingNumbersSpec Rows.mappingNumbersRow=true:=by
 unfold joinedFacts
 rw [zY,JT,zd,Gp]
 kernel_rfl
theorem mnumbers_holds:Rows.MappingNumbersSaid:=
 OpenClaim.holds_of_wide 4 Tryz.f4 rfl rfl rfl rfl rfl rfl rfl ⟨rfl,rfl,rfl,rfl,rfl⟩ rfl rfl rfl rfl rfl (by kernel_rfl) func4 jq
  (of_decide_eq_true (by kernel_rfl)) (by unfold Func.isWrapper;first | (rw [if_pos (by decide +kernel)];kernel_rfl) | (rw [if_neg (by decide +kernel)];exact ⟨rfl,rfl⟩))
  (λ os started H enc _=>mnumbers_lifted os started H enc)
theorem RB:Rows.MappingNumbersCardSaid:=
 Claim7.holds_tied_plain_at .later [] [.data,.data,.data,.data,.sentinel,.sentinel,.pinned] true (true, "cedc2496089f77d4df55280aa44dc215bf5ea19b61a6b8ccb76ab88a333a5715") true
  mnumbers_holds (λ _ h=>by cases h) (by kernel_rfl) (λ _ h=>by cases h) mappingNumbers_row_tie rfl ⟨rfl,rfl⟩ (by kernel_rfl) rfl
  (λ f fn hf hfn=>by
   obtain rfl:f=4:=Option.some.inj ((show Pg.funcNamed "phrasebook/phrasebooklaw45.MappingNumbers" = some 4 by kernel_rfl).symm.trans hf) |>.symm
   obtain rfl:fn=Tryz.f4:=(Option.some.inj (func4.symm.trans hfn)).symm
   exact ⟨by kernel_rfl,λ j t ht=>by
    rw [Tryz.params4] at ht
    have hm:t∈[43,3,24,9]:=by simpa using Array.mem_of_getElem? ht
    have hall:([43,3,24,9].all λ u=>!Pg.wantsStandIn u)=true:=by kernel_rfl
    exact (show Pg.wantsStandIn t=false by simpa using List.all_eq_true.1 hall t hm)⟩)
  (by kernel_rfl)
end Go.Proofs.YtgalpdihjbinjaaGreatDoor
