/-
  phrasebooklaw45.MappingParses returns true for every text, and leaves its arguments as they were; no condition is asked but that the tables of the library lie as the program lays them (the card ties them).
-/
import Derived.Test.YtgalpdihjbinjaaGreatDoorXc5
set_option linter.all false
set_option maxHeartbeats 40000000
set_option maxRecDepth 100000
open Go.Instr (loadAt storeAt fieldAt indexAt buildSlice mapUpdate makeFunc alloc build box extract fill sliceAt lookup makeInterface)
open Go.Proofs.Tryz
namespace Go.Proofs.YtgalpdihjbinjaaGreatDoor
open Sw
def ZcY d e f (R:RT) w:=
 Zx e f (.bool false) λ b=>
 Zp (λ (a:Vl) (w:Wd)=>
 Zx b a (.bool false) λ g=>
 R (.returned g) w) λ c=>
 Zm b true (
 B0 .eql 49 true d (QqQ 6) R w λ a w=>
 c a w) (
 c undef w)
def ZcZ d e f g R w:=
 Zx f g (.bool false) λ b=>
 Zp (λ (a:Vl) (w:Wd)=>
 ZcY e b a R w) λ c=>
 Zm b true (
 B0 .eql 3 true d (QqQ 2) R w λ a w=>
 c a w) (
 c undef w)
def Zc0 d e f g h R w:=
 Zx g h (.bool false) λ b=>
 Zp (λ (a:Vl) (w:Wd)=>
 ZcZ e f b a R w) λ c=>
 Zm b true (
 N0 d R w λ a w=>
 c a w) (
 c undef w)
def Zc1 c d e f g h R w:=
 Zx g h (.bool false) λ a=>
 Zp (λ (i:Vl) (w:Wd)=>
 Zc0 d e f a i R w) λ b=>
 Zm a true (
 b c w) (
 b undef w)
def Zc2 d e f g h i j R w:=
 Zx i j (.bool false) λ b=>
 Zp (λ (a:Vl) (w:Wd)=>
 Zc1 e f g h b a R w) λ c=>
 Zm b true (
 B0 .eql 3 true d (QqQ 9) R w λ a w=>
 c a w) (
 c undef w)
def Zc3 d e f g h a R w:=
 E0q a 0 R w λ i w=>
 E0q a 1 R w λ j w=>
 E0q a 2 R w λ k w=>
 opV Pg (alloc 24 true (.tuple #[])) (Zc R) w λ l w=>
 S0 24 l i R w λ w=>
 B0 .eql 3 true d (QqQ 8) R w λ b w=>
 Zp (λ (m:Vl) (w:Wd)=>
 Zc2 f g h j k b m R w) λ c=>
 Zm b true (
 c e w) (
 c undef w)
def Zc4 b c d e a R w:=
 E0q a 0 R w λ h w=>
 E0q a 1 R w λ f w=>
 ZU Pg 22 #[(.string { data := #[109,97,112,112,105,110,103,32,109,10,109,97,112,32,65] })] (Zc R) w λ g w=>
 Zc3 b c d e f g R w
def Zc5 b c d a R w:=
 E0q a 0 R w λ e w=>
 E0q a 1 R w λ f w=>
 L0 43 b R w λ g w=>
 C0 18 #[g,(QqQ 3)] R w λ h w=>
 Zc4 c d e f h R w
def SA a b R w:=
 E0q b 0 R w λ c w=>
 E0q b 1 R w λ d w=>
 L0 43 a R w λ e w=>
 C0 18 #[e,(QqQ 2)] R w λ f w=>
 Zc5 a c d f R w
def Sm R w:=
 opV Pg (build 78 #[(0,(QqQ 1)),(1,(QqQ 2)),(2,(QqQ 9))]) (Zc R) w λ b w=>
 opV Pg (buildSlice 41 1 #[(0,b)]) (Zc R) w λ c w=>
 opV Pg (build 43 #[(1,(QqQ 5)),(6,c)]) (Zc R) w λ d w=>
 opV Pg (alloc 43 true (.tuple #[])) (Zc R) w λ a w=>
 S0 43 a d R w λ w=>
 opV Pg (build 43 #[(1,(QqQ 2)),(3,(QqQ 5))]) (Zc R) w λ e w=>
 C0 18 #[e,(QqQ 3)] R w λ f w=>
 SA a f R w
def Sn d e f (R:RT) w:=
 Zx e (.bool true) f λ b=>
 Zp (λ (a:Vl) (w:Wd)=>
 Zx b (.bool true) a λ g=>
 Zr g (
 R (.returned (.bool false)) w) (
 Sm R w)) λ c=>
 Zm b false (
 N0 d R w λ a w=>
 c a w) (
 c undef w)
def So d e f g R w:=
 Zx f (.bool true) g λ b=>
 Zp (λ (a:Vl) (w:Wd)=>
 Sn e b a R w) λ c=>
 Zm b false (
 N0 d R w λ a w=>
 c a w) (
 c undef w)
def Lj d e f g R w:=
 L0 34 d R w λ h w=>
 opV Pg (build 34 #[(0,(QqQ 0)),(1,(.int .i64 (-1))),(2,(QqQ 10))]) (Zc R) w λ i w=>
 B0 .neq 34 false h i R w λ b w=>
 Zp (λ (a:Vl) (w:Wd)=>
 So e g b a R w) λ c=>
 Zm b false (
 L0 34 f R w λ j w=>
 opV Pg (build 34 #[(2,(QqQ 5))]) (Zc R) w λ k w=>
 B0 .neq 34 false j k R w λ a w=>
 c a w) (
 c undef w)
def Sp b (a:WPr) (d:KW) R w:=
 qV Pg a (extract b 0) λ e=>
 qV Pg a (extract b 1) λ f=>
 opV Pg (alloc 34 true (.tuple #[])) (Zc R) w λ c w=>
 a w∧(
 S0 34 c e R w λ w=>
 a w∧(
 d c f w))
def Lk b c (a:WPr) (d:KW) R w:=
 a w∧(
 qV Pg a (extract c 0) λ e=>
 qV Pg a (extract c 1) λ f=>
 S0 34 b e R w λ w=>
 a w∧(
 d b f w))
def Ll c d e (a:WPr) (f:KW) (R:RT) w:=
 (
 C0 14 #[c,d,e] R w λ b w=>
 a w∧(
 Sp b a f R w))∧(
 opV Pg (alloc 34 true (.tuple #[])) (Zc R) w λ g w=>
 a w∧(
 C0 14 #[c,d,e] R w λ b w=>
 Lk g b a f R w))
def Lm b c (a:WPr) (d:KW) R w:=
 a w∧(
 qV Pg a (extract c 0) λ e=>
 qV Pg a (extract c 1) λ f=>
 S0 34 b e R w λ w=>
 a w∧(
 d b f w))
def EL c d (a:WPr) (e:KW) (R:RT) w:=
 (
 C0 31 #[] R w λ b w=>
 a w∧(
 Ll c d b a e R w))∧(
 opV Pg (alloc 34 true (.tuple #[])) (Zc R) w λ f w=>
 a w∧(
 C0 31 #[] R w λ b w=>
 a w∧(
 C0 14 #[c,d,b] R w λ g w=>
 Lm f g a e R w)))
def Ln b c (a:WPr) (d:KW) R w:=
 a w∧(
 qV Pg a (extract c 0) λ e=>
 qV Pg a (extract c 1) λ f=>
 S0 34 b e R w λ w=>
 a w∧(
 d b f w))
def Lo b c (a:WPr) (d:KW) (R:RT) w:=
 C0 31 #[] R w λ e w=>
 a w∧(
 C0 31 #[] R w λ f w=>
 a w∧(
 C0 14 #[c,e,f] R w λ g w=>
 Ln b g a d R w))
def Lp e f g (a:WPr) R w:=
 I0 24 e a λ c=>
 Zp (λ (b:Vl) (h:Vl) (w:Wd)=>
 Lj f g b h R w) λ d=>
 (
 C0 31 #[] R w λ i w=>
 a w∧(
 EL c i a d R w))∧(
 opV Pg (alloc 34 true (.tuple #[])) (Zc R) w λ b w=>
 a w∧(
 Lo b c a d R w))
def Sq b (a:WPr) (d:KW) R w:=
 qV Pg a (extract b 0) λ e=>
 qV Pg a (extract b 1) λ f=>
 opV Pg (alloc 34 true (.tuple #[])) (Zc R) w λ c w=>
 a w∧(
 S0 34 c e R w λ w=>
 a w∧(
 d c f w))
def Lq b c (a:WPr) (d:KW) R w:=
 a w∧(
 qV Pg a (extract c 0) λ e=>
 qV Pg a (extract c 1) λ f=>
 S0 34 b e R w λ w=>
 a w∧(
 d b f w))
def Lr c d e (a:WPr) (f:KW) (R:RT) w:=
 (
 C0 14 #[c,d,e] R w λ b w=>
 a w∧(
 Sq b a f R w))∧(
 opV Pg (alloc 34 true (.tuple #[])) (Zc R) w λ g w=>
 a w∧(
 C0 14 #[c,d,e] R w λ b w=>
 Lq g b a f R w))
def Ls b c (a:WPr) (d:KW) R w:=
 a w∧(
 qV Pg a (extract c 0) λ e=>
 qV Pg a (extract c 1) λ f=>
 S0 34 b e R w λ w=>
 a w∧(
 d b f w))
def EM c d (a:WPr) (e:KW) (R:RT) w:=
 (
 C0 31 #[] R w λ b w=>
 a w∧(
 Lr c d b a e R w))∧(
 opV Pg (alloc 34 true (.tuple #[])) (Zc R) w λ f w=>
 a w∧(
 C0 31 #[] R w λ b w=>
 a w∧(
 C0 14 #[c,d,b] R w λ g w=>
 Ls f g a e R w)))
def Lt b c (a:WPr) (d:KW) R w:=
 a w∧(
 qV Pg a (extract c 0) λ e=>
 qV Pg a (extract c 1) λ f=>
 S0 34 b e R w λ w=>
 a w∧(
 d b f w))
def Lu b c (a:WPr) (d:KW) (R:RT) w:=
 C0 31 #[] R w λ e w=>
 a w∧(
 C0 31 #[] R w λ f w=>
 a w∧(
 C0 14 #[c,e,f] R w λ g w=>
 Lt b g a d R w))
def Sr e f (a:WPr) R w:=
 I0 24 e a λ c=>
 Zp (λ (b:Vl) (g:Vl) (w:Wd)=>
 Z4 w λ h w=>
 Lp f b g h R w) λ d=>
 (
 C0 31 #[] R w λ i w=>
 a w∧(
 EM c i a d R w))∧(
 opV Pg (alloc 34 true (.tuple #[])) (Zc R) w λ b w=>
 a w∧(
 Lu b c a d R w))
def Ss b a R w:=
 F0 24 a 1 R w λ c w=>
 L0 22 c R w λ d w=>
 opV Pg (indexAt 22 d (QqQ 0)) (Zc R) w λ e w=>
 F0 60 e 2 R w λ f w=>
 L0 58 f R w λ g w=>
 opV Pg (build 43 #[(0,(.string { data := #[110] })),(1,(QqQ 1)),(2,(.string { data := #[98] }))]) (Zc R) w λ h w=>
 opV Pg (indexAt 58 g (QqQ 0)) (Zc R) w λ i w=>
 S0 43 i h R w λ w=>
 Z4 w λ j w=>
 Sr b a j R w
def St b c (a:WPr) R w:=
 J0 24 b 1 a λ d=>
 I0 22 d a λ e=>
 J0 24 b 1 a λ f=>
 I0 22 f a λ g=>
 qV Pg a (indexAt 22 g (QqQ 0)) λ h=>
 J0 60 h 2 a λ i=>
 I0 58 i a λ j=>
 qV Pg a (sliceAt 58 j none (some (QqQ 1)) none) λ k=>
 qV Pg a (indexAt 22 e (QqQ 0)) λ l=>
 J0 60 l 2 a λ m=>
 S0 58 m k R w λ w=>
 WB w λ n w=>
 Ss b c R w
def Su c d R w:=
 opV Pg (alloc 24 true (.tuple #[])) (Zc R) w λ a w=>
 opV Pg (alloc 24 true (.tuple #[])) (Zc R) w λ b w=>
 S0 24 a c R w λ w=>
 S0 24 b d R w λ w=>
 Z4 w λ e w=>
 St a b e R w
def Sv a b (R:RT) w:=
 Zx a (.bool true) b λ c=>
 Zr c (
 R (.returned (.bool false)) w) (
 C0 30 #[] R w λ d w=>
 C0 30 #[] R w λ e w=>
 Su d e R w)
def Sx a (b:KV) (R:RT) w:=
 C0 31 #[] R w λ c w=>
 C0 31 #[] R w λ d w=>
 C0 16 #[a,c,d] R w λ e w=>
 N0 e R w λ f w=>
 b f w
def Sy c d R w:=
 Zx c (.bool true) d λ a=>
 Zp (λ (e:Vl) (w:Wd)=>
 Sv a e R w) λ b=>
 Zm a false (
 C0 30 #[] R w λ f w=>
 Sx f b R w) (
 b undef w)
def Sz b R w:=
 E0q b 0 R w λ e w=>
 E0q b 1 R w λ f w=>
 opV Pg (ZA .neq 9 true e (.string { data := #[109,97,112,112,105,110,103,32,109,10,109,97,112,32,65,32,65,10,110,32,102,105,116,10,98,32,99,111,112,121,32,98,10,101,110,100,10] })) (Zc R) w λ c w=>
 Zp (λ (a:Vl) (w:Wd)=>
 Sy c a R w) λ d=>
 Zm c false (
 B0 .neq 49 true f (QqQ 0) R w λ a w=>
 d a w) (
 d undef w)
def n52 (R:RT) w:=
 C0 30 #[] R w λ a w=>
 C0 25 #[a] R w λ b w=>
 Sz b R w
def Zk7:QqX0 12 n52:=λ h=>by
 refine yD func12 ?_
 refine zs<|zr<|zm<|zn<|zk<|zs<|zr<|yc h c30 λ h=>yc h c25 λ h=>zm<|yv h λ h=>yv h λ h=>zm<|zm<|zn ?_
 refine zk<|zs<|zs<|Zq<|yG 3<|zm<|yb h λ h=>zm<|zn<|yg1 2 2 false [27,28] 28 h (λ _ T hT h=>?_) λ σ w h=>?_
 · refine zm<|yb h λ h=>zn ?_
   exact zt hT h
 refine yG 2<|yp h λ h=>zm<|zn<|yg1 5 6 false [31,32,33,34,35] 35 h (λ _ T hT h=>?_) λ σ w h=>?_
 · refine yc h c30 λ h=>yc h c31 λ h=>yc h c31 λ h=>yc h c16 λ h=>yv h λ h=>zn ?_
   exact zt hT h
 refine yG 1<|yp h λ h=>zn<|ZG<|zk<|yC h (λ h=>zs<|zr<|zm<|zn<|zk<|Zg<|Zb<|Zj rfl rfl h) λ h=>Zk<|zk<|zs<|zr<|yc h c30 λ h=>yc h c30 λ h=>yv h λ h=>yv h λ h=>?_
 refine yu h λ h=>yu h λ h=>zn<|zk<|zs<|yh [39,40,41,42,43,44,45,46,47,48] h λ C hC h=>ye 0 hC h λ h=>?_
 refine ye 1 hC h λ h=>?_
 refine ye 2 hC h λ h=>?_
 refine ye 3 hC h λ h=>?_
 refine ye 4 hC h λ h=>?_
 refine ye 5 hC h λ h=>?_
 refine ye 6 hC h λ h=>?_
 refine ye 7 hC h λ h=>?_
 refine ye 8 hC h λ h=>?_
 refine ye 9 hC h λ h=>?_
 refine yq 10 2 ?_
 refine yu h λ h=>zn ?_
 obtain ⟨C4,hC,h⟩:=h
 refine ⟨C4,hC,?_⟩
 refine yz<|zk<|zs<|zr<|yv h λ h=>yv h λ h=>yv h λ h=>yv h λ h=>yv h λ h=>yB h λ h=>yv h λ h=>yu h λ h=>zn<|zk<|zs ?_
 refine yh [5,6,56,57,58,59,60,61,62] h λ C hC h=>ye 0 hC h λ h=>?_
 refine X1 h (λ K6 hK h=>?_)
 refine Qx [5,6,56,58,59,60,61,62] (λ ρ w=>K6 (ρ 5) (ρ 6) w) (λ T hT=>?_) (λ σ w h=>?_)
 · obtain ⟨h0,h1⟩:=h
   refine Y5 1 7 rfl rfl K5 (λ _ _=>rfl) (λ _ _=>rfl) ?_ ?_
   · have h:=h0
     refine yc h c31 λ h=>zn ?_
     obtain ⟨hC,h⟩:=h
     refine ⟨_,λ _ h=>h,hC,?_⟩
     obtain ⟨h0,h1⟩:=h
     refine Y5 2 7 rfl rfl K5 (λ _ _=>rfl) (λ _ _=>rfl) ?_ ?_
     · have h:=h0
       refine yc h c31 λ h=>zn ?_
       obtain ⟨hC,h⟩:=h
       refine ⟨_,λ _ h=>h,hC,?_⟩
       obtain ⟨h0,h1⟩:=h
       refine Y5 3 7 rfl rfl K5 (λ _ _=>rfl) (λ _ _=>rfl) ?_ ?_
       · have h:=h0
         refine yc h c14 λ h=>zn ?_
         obtain ⟨hC,h⟩:=h
         refine ⟨_,λ _ h=>h,hC,?_⟩
         refine yw 4 hC ?_
         refine ye 5 hC h λ h=>?_
         refine ye 6 hC h λ h=>?_
         refine yo 7 ?_
         refine yv h λ h=>zn ?_
         obtain ⟨hC,h⟩:=h
         refine ⟨hC,?_⟩
         refine yo 8 ?_
         refine yu h λ h=>zn ?_
         obtain ⟨hC,h⟩:=h
         refine ⟨hC,?_⟩
         refine yw 9 hC ?_
         refine yz ?_
         exact zt hT h
       have h:=h1
       refine yv h λ h=>zn ?_
       obtain ⟨hC,h⟩:=h
       refine ⟨_,λ _ h=>h,hC,?_⟩
       refine yo 3 ?_
       refine yc h c14 λ h=>zn ?_
       obtain ⟨hC,h⟩:=h
       refine ⟨hC,?_⟩
       refine yw 4 hC ?_
       refine ye 5 hC h λ h=>?_
       refine ye 6 hC h λ h=>?_
       refine yo 8 ?_
       refine yu h λ h=>zn ?_
       obtain ⟨hC,h⟩:=h
       refine ⟨hC,?_⟩
       refine yw 9 hC ?_
       refine yz ?_
       exact zt hT h
     have h:=h1
     refine yv h λ h=>zn ?_
     obtain ⟨hC,h⟩:=h
     refine ⟨_,λ _ h=>h,hC,?_⟩
     refine yo 2 ?_
     refine yc h c31 λ h=>zn ?_
     obtain ⟨hC,h⟩:=h
     refine ⟨hC,?_⟩
     refine yo 3 ?_
     refine yc h c14 λ h=>zn ?_
     obtain ⟨hC,h⟩:=h
     refine ⟨hC,?_⟩
     refine yw 4 hC ?_
     refine ye 5 hC h λ h=>?_
     refine ye 6 hC h λ h=>?_
     refine yo 8 ?_
     refine yu h λ h=>zn ?_
     obtain ⟨hC,h⟩:=h
     refine ⟨hC,?_⟩
     refine yw 9 hC ?_
     refine yz ?_
     exact zt hT h
   have h:=h1
   refine yv h λ h=>zn ?_
   obtain ⟨hC,h⟩:=h
   refine ⟨_,λ _ h=>h,hC,?_⟩
   refine yo 1 ?_
   refine yc h c31 λ h=>zn ?_
   obtain ⟨hC,h⟩:=h
   refine ⟨hC,?_⟩
   refine yo 2 ?_
   refine yc h c31 λ h=>zn ?_
   obtain ⟨hC,h⟩:=h
   refine ⟨hC,?_⟩
   refine yo 3 ?_
   refine yc h c14 λ h=>zn ?_
   obtain ⟨hC,h⟩:=h
   refine ⟨hC,?_⟩
   refine yw 4 hC ?_
   refine ye 5 hC h λ h=>?_
   refine ye 6 hC h λ h=>?_
   refine yo 8 ?_
   refine yu h λ h=>zn ?_
   obtain ⟨hC,h⟩:=h
   refine ⟨hC,?_⟩
   refine yw 9 hC ?_
   refine yz ?_
   exact zt hT h
 subst hK
 refine zk<|zs<|yh [7,8,63,64,65,66,67,68,69] h λ C hC h=>ye 0 hC h λ h=>?_
 refine X1 h (λ K8 hK h=>?_)
 refine Qx [7,8,63,65,66,67,68,69] (λ ρ w=>K8 (ρ 7) (ρ 8) w) (λ T hT=>?_) (λ σ w h=>?_)
 · obtain ⟨h0,h1⟩:=h
   refine Y5 1 7 rfl rfl K5 (λ _ _=>rfl) (λ _ _=>rfl) ?_ ?_
   · have h:=h0
     refine yc h c31 λ h=>zn ?_
     obtain ⟨hC,h⟩:=h
     refine ⟨_,λ _ h=>h,hC,?_⟩
     obtain ⟨h0,h1⟩:=h
     refine Y5 2 7 rfl rfl K5 (λ _ _=>rfl) (λ _ _=>rfl) ?_ ?_
     · have h:=h0
       refine yc h c31 λ h=>zn ?_
       obtain ⟨hC,h⟩:=h
       refine ⟨_,λ _ h=>h,hC,?_⟩
       obtain ⟨h0,h1⟩:=h
       refine Y5 3 7 rfl rfl K5 (λ _ _=>rfl) (λ _ _=>rfl) ?_ ?_
       · have h:=h0
         refine yc h c14 λ h=>zn ?_
         obtain ⟨hC,h⟩:=h
         refine ⟨_,λ _ h=>h,hC,?_⟩
         refine yw 4 hC ?_
         refine ye 5 hC h λ h=>?_
         refine ye 6 hC h λ h=>?_
         refine yo 7 ?_
         refine yv h λ h=>zn ?_
         obtain ⟨hC,h⟩:=h
         refine ⟨hC,?_⟩
         refine yo 8 ?_
         refine yu h λ h=>zn ?_
         obtain ⟨hC,h⟩:=h
         refine ⟨hC,?_⟩
         refine yw 9 hC ?_
         refine yz ?_
         exact zt hT h
       have h:=h1
       refine yv h λ h=>zn ?_
       obtain ⟨hC,h⟩:=h
       refine ⟨_,λ _ h=>h,hC,?_⟩
       refine yo 3 ?_
       refine yc h c14 λ h=>zn ?_
       obtain ⟨hC,h⟩:=h
       refine ⟨hC,?_⟩
       refine yw 4 hC ?_
       refine ye 5 hC h λ h=>?_
       refine ye 6 hC h λ h=>?_
       refine yo 8 ?_
       refine yu h λ h=>zn ?_
       obtain ⟨hC,h⟩:=h
       refine ⟨hC,?_⟩
       refine yw 9 hC ?_
       refine yz ?_
       exact zt hT h
     have h:=h1
     refine yv h λ h=>zn ?_
     obtain ⟨hC,h⟩:=h
     refine ⟨_,λ _ h=>h,hC,?_⟩
     refine yo 2 ?_
     refine yc h c31 λ h=>zn ?_
     obtain ⟨hC,h⟩:=h
     refine ⟨hC,?_⟩
     refine yo 3 ?_
     refine yc h c14 λ h=>zn ?_
     obtain ⟨hC,h⟩:=h
     refine ⟨hC,?_⟩
     refine yw 4 hC ?_
     refine ye 5 hC h λ h=>?_
     refine ye 6 hC h λ h=>?_
     refine yo 8 ?_
     refine yu h λ h=>zn ?_
     obtain ⟨hC,h⟩:=h
     refine ⟨hC,?_⟩
     refine yw 9 hC ?_
     refine yz ?_
     exact zt hT h
   have h:=h1
   refine yv h λ h=>zn ?_
   obtain ⟨hC,h⟩:=h
   refine ⟨_,λ _ h=>h,hC,?_⟩
   refine yo 1 ?_
   refine yc h c31 λ h=>zn ?_
   obtain ⟨hC,h⟩:=h
   refine ⟨hC,?_⟩
   refine yo 2 ?_
   refine yc h c31 λ h=>zn ?_
   obtain ⟨hC,h⟩:=h
   refine ⟨hC,?_⟩
   refine yo 3 ?_
   refine yc h c14 λ h=>zn ?_
   obtain ⟨hC,h⟩:=h
   refine ⟨hC,?_⟩
   refine yw 4 hC ?_
   refine ye 5 hC h λ h=>?_
   refine ye 6 hC h λ h=>?_
   refine yo 8 ?_
   refine yu h λ h=>zn ?_
   obtain ⟨hC,h⟩:=h
   refine ⟨hC,?_⟩
   refine yw 9 hC ?_
   refine yz ?_
   exact zt hT h
 subst hK
 refine zk<|zs<|zs<|Zq<|yG 4<|yv h λ h=>yB h λ h=>yb h λ h=>zm<|zn<|yg1 3 3 false [74,75,76] 76 h (λ _ T hT h=>?_) λ σ w h=>?_
 · refine yv h λ h=>yB h λ h=>yb h λ h=>zn ?_
   exact zt hT h
 refine yG 2<|yp h λ h=>zm<|zn<|yg1 2 8 false [79,80] 80 h (λ _ T hT h=>?_) λ σ w h=>?_
 · refine zm<|yv h λ h=>zn ?_
   exact zt hT h
 refine yG 2<|yp h λ h=>zm<|zn<|yg1 2 12 false [83,84] 84 h (λ _ T hT h=>?_) λ σ w h=>?_
 · refine zm<|yv h λ h=>zn ?_
   exact zt hT h
 refine yG 1<|yp h λ h=>zn<|ZG<|zk<|yC h (λ h=>zs<|zr<|zm<|zn<|zk<|Zg<|Zb<|Zj rfl rfl h) λ h=>Zk<|zk<|zs<|zr<|yB h λ h=>yS h λ h=>yB h λ h=>yv h λ h=>?_
 refine yu h λ h=>zn<|zk<|zs<|zr<|yB h λ h=>yc h c18 λ h=>zm<|yv h λ h=>yv h λ h=>zm<|zm<|zn<|zk<|zs ?_
 refine zr<|yv h λ h=>yc h c18 λ h=>zm<|yv h λ h=>yv h λ h=>zm<|zm<|zn<|zk<|zs<|zr<|yv h λ h=>yc h c18 λ h=>zm ?_
 refine yv h λ h=>yv h λ h=>zm<|zm<|zn<|zk<|zs<|zr<|yc h c22 λ h=>zm<|yv h λ h=>yv h λ h=>yv h λ h=>yv h λ h=>yu h λ h=>?_
 refine zm<|zm<|zn<|zk<|zs<|Zq<|yG 3<|zm<|yb h λ h=>zm<|zn<|yg1 1 2 true [112] 112 h (λ _ T hT h=>?_) λ σ w h=>?_
 · refine zm<|zn ?_
   exact zt hT h
 refine yG 2<|yp h λ h=>zm<|zn<|yg1 2 5 true [115,116] 116 h (λ _ T hT h=>?_) λ σ w h=>?_
 · refine zm<|yb h λ h=>zn ?_
   exact zt hT h
 refine yG 2<|yp h λ h=>zm<|zn<|yg1 1 9 true [119] 119 h (λ _ T hT h=>?_) λ σ w h=>?_
 · refine zm<|zn ?_
   exact zt hT h
 refine yG 2<|yp h λ h=>zm<|zn<|yg1 2 12 true [122,123] 123 h (λ _ T hT h=>?_) λ σ w h=>?_
 · refine zm<|yv h λ h=>zn ?_
   exact zt hT h
 refine yG 2<|yp h λ h=>zm<|zn<|yg1 2 16 true [126,127] 127 h (λ _ T hT h=>?_) λ σ w h=>?_
 · refine zm<|yb h λ h=>zn ?_
   exact zt hT h
 refine yG 2<|yp h λ h=>zm<|zn<|yg1 2 20 true [130,131] 131 h (λ _ T hT h=>?_) λ σ w h=>?_
 · refine zm<|yb h λ h=>zn ?_
   exact zt hT h
 exact yG 2<|yp h λ h=>zm<|zn<|ZG<|zk<|Zg<|Zj rfl rfl h
open Go.RowKit (intOf Below)
def PW:Ye 10 (⟨#[109,97,112,112,105,110,103,32,109,10,109,97,112,32,65]⟩:BAr).data.toList=[[109,97,112,112,105,110,103,32,109],[109,97,112,32,65]]:=ZbO
def flV (a f c:Int):Ew (some (a,f,c)) = .tuple #[.agg #[.int .i64 a,.int .i64 f,.int .i64 c],.bool true]:=rfl
def FlR (D w:Wd) (p:Nat) (a f c:Int):Prop:=Ext D w∧w.heap[p]?=some (.cells #[.int .i64 a,.int .i64 f,.int .i64 c] 34 (0,0))
section
variable {D w:Wd} {a f c:Int} {K:KW} {R:RT}
def ZeA {w1:Wd} {p:Nat} (e1:Ext D w1) (hp:D.heap.size≤p) (o1:w1.heap[p]?=some (.cells #[.int .i64 0,.int .i64 0,.int .i64 0] 34 (0,0))) (hK:∀ w' p,FlR D w' p a f c→K (Qq5 p) (.bool true) w'):Lq (Qq5 p) (Ew (some (a,f,c))) (EC D) K R w1:=by
 rw [flV]
 unfold Lq
 refine Qqb (Za o1).1 (Za o1).2 ?_
 have e3:Ext D (((w1.setCell ⟨p,0,none⟩ (.int .i64 a)).setCell ⟨p,1,none⟩ (.int .i64 f)).setCell ⟨p,2,none⟩ (.int .i64 c)):=((e1.setCell (p:=⟨p,0,none⟩) hp _).setCell (p:=⟨p,1,none⟩) hp _).setCell (p:=⟨p,2,none⟩) hp _
 exact ⟨e1,e3,hK _ _ ⟨e3,Zy (o:=2) (Zy (o:=1) (Zy (o:=0) o1 (.int .i64 a)) (.int .i64 f)) (.int .i64 c)⟩⟩
def ZeB {w1:Wd} {p:Nat} (e1:Ext D w1) (hp:D.heap.size≤p) (o1:w1.heap[p]?=some (.cells #[.int .i64 0,.int .i64 0,.int .i64 0] 34 (0,0))) (hK:∀ w' p,FlR D w' p a f c→K (Qq5 p) (.bool true) w'):Ls (Qq5 p) (Ew (some (a,f,c))) (EC D) K R w1:=by
 rw [flV]
 unfold Ls
 refine Qqb (Za o1).1 (Za o1).2 ?_
 have e3:Ext D (((w1.setCell ⟨p,0,none⟩ (.int .i64 a)).setCell ⟨p,1,none⟩ (.int .i64 f)).setCell ⟨p,2,none⟩ (.int .i64 c)):=((e1.setCell (p:=⟨p,0,none⟩) hp _).setCell (p:=⟨p,1,none⟩) hp _).setCell (p:=⟨p,2,none⟩) hp _
 exact ⟨e1,e3,hK _ _ ⟨e3,Zy (o:=2) (Zy (o:=1) (Zy (o:=0) o1 (.int .i64 a)) (.int .i64 f)) (.int .i64 c)⟩⟩
def ZeC {w1:Wd} {p:Nat} (e1:Ext D w1) (hp:D.heap.size≤p) (o1:w1.heap[p]?=some (.cells #[.int .i64 0,.int .i64 0,.int .i64 0] 34 (0,0))) (hK:∀ w' p,FlR D w' p a f c→K (Qq5 p) (.bool true) w'):Lt (Qq5 p) (Ew (some (a,f,c))) (EC D) K R w1:=by
 rw [flV]
 unfold Lt
 refine Qqb (Za o1).1 (Za o1).2 ?_
 have e3:Ext D (((w1.setCell ⟨p,0,none⟩ (.int .i64 a)).setCell ⟨p,1,none⟩ (.int .i64 f)).setCell ⟨p,2,none⟩ (.int .i64 c)):=((e1.setCell (p:=⟨p,0,none⟩) hp _).setCell (p:=⟨p,1,none⟩) hp _).setCell (p:=⟨p,2,none⟩) hp _
 exact ⟨e1,e3,hK _ _ ⟨e3,Zy (o:=2) (Zy (o:=1) (Zy (o:=0) o1 (.int .i64 a)) (.int .i64 f)) (.int .i64 c)⟩⟩
def ZfL {v1 v2 v3:Vl} {m:Xn} (e:Ext D w) (h1:Xx w v1 m) (h2:Qg w v2 Yl) (h3:Qg w v3 Yl) (hin:∀ r∈m.rules,∀ x∈r.fields,inF x=true) (hm:Gv m Yl Yl=some (a,f,c)) (hK:∀ w' p,FlR D w' p a f c→K (Qq5 p) (.bool true) w') :
 Lr v1 v2 v3 (EC D) K R w:=by
 unfold Lr
 constructor
 · refine zcr (Qm w _ _ _ m Yl Yl h1 h2 h3 hin) λ w1 e1=>?_
   refine ⟨e.trans e1,?_⟩
   rw [hm,flV]
   unfold Sq
   refine Qqv ?_
   have oV:=Zt w1 #[.int .i64 a,.int .i64 f,.int .i64 c] 34
   have e3:=e.trans e1
   exact ⟨e3.alloc _,e3.alloc _,hK _ _ ⟨e3.alloc _,oV⟩⟩
 · 
   refine Qqv ?_
   have oV:=Zt w #[.int .i64 0,.int .i64 0,.int .i64 0] 34
   have eV:Ext w (w.alloc (.cells #[.int .i64 0,.int .i64 0,.int .i64 0] 34)):=(Ext.refl w).alloc _
   generalize (w.alloc (.cells #[.int .i64 0,.int .i64 0,.int .i64 0] 34))=V at oV eV ⊢
   refine ⟨e.trans eV,?_⟩
   refine zcr (Qm V _ _ _ m Yl Yl (h1.ext eV) (h2.ext eV) (h3.ext eV) hin) λ w1 e1=>?_
   rw [hm]
   exact ZeA (e.trans (eV.trans e1)) e.size (e1.obj oV) hK
def ZnQ {v1 v2:Vl} {m:Xn} (e:Ext D w) (h1:Xx w v1 m) (h2:Qg w v2 Yl) (hin:∀ r∈m.rules,∀ x∈r.fields,inF x=true) (hm:Gv m Yl Yl=some (a,f,c)) (hK:∀ w' p,FlR D w' p a f c→K (Qq5 p) (.bool true) w') :
 EM v1 v2 (EC D) K R w:=by
 unfold EM
 constructor
 · refine Zi (Xy w) ?_
   rintro v3 w1 ⟨h3,e1⟩
   exact ⟨e.trans e1,ZfL (e.trans e1) (h1.ext e1) (h2.ext e1) h3 hin hm hK⟩
 · 
   refine Qqv ?_
   have oV:=Zt w #[.int .i64 0,.int .i64 0,.int .i64 0] 34
   have eV:Ext w (w.alloc (.cells #[.int .i64 0,.int .i64 0,.int .i64 0] 34)):=(Ext.refl w).alloc _
   generalize (w.alloc (.cells #[.int .i64 0,.int .i64 0,.int .i64 0] 34))=V at oV eV ⊢
   refine ⟨e.trans eV,?_⟩
   refine Zi (Xy V) ?_
   rintro v3 w2 ⟨h3,e2⟩
   refine ⟨e.trans (eV.trans e2),?_⟩
   have e02:=eV.trans e2
   refine zcr (Qm w2 _ _ _ m Yl Yl (h1.ext e02) (h2.ext e02) h3 hin) λ w1 e1=>?_
   rw [hm]
   exact ZeB (e.trans (e02.trans e1)) e.size (e1.obj (e2.obj oV)) hK
def ZiX {v1:Vl} {m:Xn} (e:Ext D w) (h1:Xx w v1 m) (hin:∀ r∈m.rules,∀ x∈r.fields,inF x=true) (hm:Gv m Yl Yl=some (a,f,c)) (hK:∀ w' p,FlR D w' p a f c→K (Qq5 p) (.bool true) w') :
 ZU Pg 31 #[] (Zc R) w λ t58 w=>EC D w∧EM v1 t58 (EC D) K R w:=by
 refine Zi (Xy w) ?_
 rintro v2 w1 ⟨h2,e1⟩
 exact ⟨e.trans e1,ZnQ (e.trans e1) (h1.ext e1) h2 hin hm hK⟩
def ZiY {v1:Vl} {m:Xn} (e:Ext D w) (h1:Xx w v1 m) (hin:∀ r∈m.rules,∀ x∈r.fields,inF x=true) (hm:Gv m Yl Yl=some (a,f,c)) (hK:∀ w' p,FlR D w' p a f c→K (Qq5 p) (.bool true) w') :
 EC D (w.alloc (.cells #[.int .i64 0,.int .i64 0,.int .i64 0] 34))∧Lu (Qq5 w.heap.size) v1 (EC D) K R (w.alloc (.cells #[.int .i64 0,.int .i64 0,.int .i64 0] 34)):=by
 have oV:=Zt w #[.int .i64 0,.int .i64 0,.int .i64 0] 34
 have eV:Ext w (w.alloc (.cells #[.int .i64 0,.int .i64 0,.int .i64 0] 34)):=(Ext.refl w).alloc _
 generalize (w.alloc (.cells #[.int .i64 0,.int .i64 0,.int .i64 0] 34))=V at oV eV ⊢
 refine ⟨e.trans eV,?_⟩
 unfold Lu
 refine Zi (Xy V) ?_
 rintro v2 w2 ⟨h2,e2⟩
 refine ⟨e.trans (eV.trans e2),?_⟩
 refine Zi (Xy w2) ?_
 rintro v3 w3 ⟨h3,e3⟩
 have e03:=eV.trans (e2.trans e3)
 refine ⟨e.trans e03,?_⟩
 refine zcr (Qm w3 _ _ _ m Yl Yl (h1.ext e03) (h2.ext e3) h3 hin) λ w1 e1=>?_
 rw [hm]
 exact ZeC (e.trans (e03.trans e1)) e.size (e1.obj (e3.obj (e2.obj oV))) hK
def ZeD {w1:Wd} {p:Nat} (e1:Ext D w1) (hp:D.heap.size≤p) (o1:w1.heap[p]?=some (.cells #[.int .i64 0,.int .i64 0,.int .i64 0] 34 (0,0))) (hK:∀ w' p,FlR D w' p a f c→K (Qq5 p) (.bool true) w'):Lk (Qq5 p) (Ew (some (a,f,c))) (EC D) K R w1:=by
 rw [flV]
 unfold Lk
 refine Qqb (Za o1).1 (Za o1).2 ?_
 have e3:Ext D (((w1.setCell ⟨p,0,none⟩ (.int .i64 a)).setCell ⟨p,1,none⟩ (.int .i64 f)).setCell ⟨p,2,none⟩ (.int .i64 c)):=((e1.setCell (p:=⟨p,0,none⟩) hp _).setCell (p:=⟨p,1,none⟩) hp _).setCell (p:=⟨p,2,none⟩) hp _
 exact ⟨e1,e3,hK _ _ ⟨e3,Zy (o:=2) (Zy (o:=1) (Zy (o:=0) o1 (.int .i64 a)) (.int .i64 f)) (.int .i64 c)⟩⟩
def ZeE {w1:Wd} {p:Nat} (e1:Ext D w1) (hp:D.heap.size≤p) (o1:w1.heap[p]?=some (.cells #[.int .i64 0,.int .i64 0,.int .i64 0] 34 (0,0))) (hK:∀ w' p,FlR D w' p a f c→K (Qq5 p) (.bool true) w'):Lm (Qq5 p) (Ew (some (a,f,c))) (EC D) K R w1:=by
 rw [flV]
 unfold Lm
 refine Qqb (Za o1).1 (Za o1).2 ?_
 have e3:Ext D (((w1.setCell ⟨p,0,none⟩ (.int .i64 a)).setCell ⟨p,1,none⟩ (.int .i64 f)).setCell ⟨p,2,none⟩ (.int .i64 c)):=((e1.setCell (p:=⟨p,0,none⟩) hp _).setCell (p:=⟨p,1,none⟩) hp _).setCell (p:=⟨p,2,none⟩) hp _
 exact ⟨e1,e3,hK _ _ ⟨e3,Zy (o:=2) (Zy (o:=1) (Zy (o:=0) o1 (.int .i64 a)) (.int .i64 f)) (.int .i64 c)⟩⟩
def ZeF {w1:Wd} {p:Nat} (e1:Ext D w1) (hp:D.heap.size≤p) (o1:w1.heap[p]?=some (.cells #[.int .i64 0,.int .i64 0,.int .i64 0] 34 (0,0))) (hK:∀ w' p,FlR D w' p a f c→K (Qq5 p) (.bool true) w'):Ln (Qq5 p) (Ew (some (a,f,c))) (EC D) K R w1:=by
 rw [flV]
 unfold Ln
 refine Qqb (Za o1).1 (Za o1).2 ?_
 have e3:Ext D (((w1.setCell ⟨p,0,none⟩ (.int .i64 a)).setCell ⟨p,1,none⟩ (.int .i64 f)).setCell ⟨p,2,none⟩ (.int .i64 c)):=((e1.setCell (p:=⟨p,0,none⟩) hp _).setCell (p:=⟨p,1,none⟩) hp _).setCell (p:=⟨p,2,none⟩) hp _
 exact ⟨e1,e3,hK _ _ ⟨e3,Zy (o:=2) (Zy (o:=1) (Zy (o:=0) o1 (.int .i64 a)) (.int .i64 f)) (.int .i64 c)⟩⟩
def ZfM {v1 v2 v3:Vl} {m:Xn} (e:Ext D w) (h1:Xx w v1 m) (h2:Qg w v2 Yl) (h3:Qg w v3 Yl) (hin:∀ r∈m.rules,∀ x∈r.fields,inF x=true) (hm:Gv m Yl Yl=some (a,f,c)) (hK:∀ w' p,FlR D w' p a f c→K (Qq5 p) (.bool true) w') :
 Ll v1 v2 v3 (EC D) K R w:=by
 unfold Ll
 constructor
 · refine zcr (Qm w _ _ _ m Yl Yl h1 h2 h3 hin) λ w1 e1=>?_
   refine ⟨e.trans e1,?_⟩
   rw [hm,flV]
   unfold Sp
   refine Qqv ?_
   have oV:=Zt w1 #[.int .i64 a,.int .i64 f,.int .i64 c] 34
   have e3:=e.trans e1
   exact ⟨e3.alloc _,e3.alloc _,hK _ _ ⟨e3.alloc _,oV⟩⟩
 · 
   refine Qqv ?_
   have oV:=Zt w #[.int .i64 0,.int .i64 0,.int .i64 0] 34
   have eV:Ext w (w.alloc (.cells #[.int .i64 0,.int .i64 0,.int .i64 0] 34)):=(Ext.refl w).alloc _
   generalize (w.alloc (.cells #[.int .i64 0,.int .i64 0,.int .i64 0] 34))=V at oV eV ⊢
   refine ⟨e.trans eV,?_⟩
   refine zcr (Qm V _ _ _ m Yl Yl (h1.ext eV) (h2.ext eV) (h3.ext eV) hin) λ w1 e1=>?_
   rw [hm]
   exact ZeD (e.trans (eV.trans e1)) e.size (e1.obj oV) hK
def ZnR {v1 v2:Vl} {m:Xn} (e:Ext D w) (h1:Xx w v1 m) (h2:Qg w v2 Yl) (hin:∀ r∈m.rules,∀ x∈r.fields,inF x=true) (hm:Gv m Yl Yl=some (a,f,c)) (hK:∀ w' p,FlR D w' p a f c→K (Qq5 p) (.bool true) w') :
 EL v1 v2 (EC D) K R w:=by
 unfold EL
 constructor
 · refine Zi (Xy w) ?_
   rintro v3 w1 ⟨h3,e1⟩
   exact ⟨e.trans e1,ZfM (e.trans e1) (h1.ext e1) (h2.ext e1) h3 hin hm hK⟩
 · 
   refine Qqv ?_
   have oV:=Zt w #[.int .i64 0,.int .i64 0,.int .i64 0] 34
   have eV:Ext w (w.alloc (.cells #[.int .i64 0,.int .i64 0,.int .i64 0] 34)):=(Ext.refl w).alloc _
   generalize (w.alloc (.cells #[.int .i64 0,.int .i64 0,.int .i64 0] 34))=V at oV eV ⊢
   refine ⟨e.trans eV,?_⟩
   refine Zi (Xy V) ?_
   rintro v3 w2 ⟨h3,e2⟩
   refine ⟨e.trans (eV.trans e2),?_⟩
   have e02:=eV.trans e2
   refine zcr (Qm w2 _ _ _ m Yl Yl (h1.ext e02) (h2.ext e02) h3 hin) λ w1 e1=>?_
   rw [hm]
   exact ZeE (e.trans (e02.trans e1)) e.size (e1.obj (e2.obj oV)) hK
def ZiZ {v1:Vl} {m:Xn} (e:Ext D w) (h1:Xx w v1 m) (hin:∀ r∈m.rules,∀ x∈r.fields,inF x=true) (hm:Gv m Yl Yl=some (a,f,c)) (hK:∀ w' p,FlR D w' p a f c→K (Qq5 p) (.bool true) w') :
 ZU Pg 31 #[] (Zc R) w λ t58 w=>EC D w∧EL v1 t58 (EC D) K R w:=by
 refine Zi (Xy w) ?_
 rintro v2 w1 ⟨h2,e1⟩
 exact ⟨e.trans e1,ZnR (e.trans e1) (h1.ext e1) h2 hin hm hK⟩
def Zi0 {v1:Vl} {m:Xn} (e:Ext D w) (h1:Xx w v1 m) (hin:∀ r∈m.rules,∀ x∈r.fields,inF x=true) (hm:Gv m Yl Yl=some (a,f,c)) (hK:∀ w' p,FlR D w' p a f c→K (Qq5 p) (.bool true) w') :
 EC D (w.alloc (.cells #[.int .i64 0,.int .i64 0,.int .i64 0] 34))∧Lo (Qq5 w.heap.size) v1 (EC D) K R (w.alloc (.cells #[.int .i64 0,.int .i64 0,.int .i64 0] 34)):=by
 have oV:=Zt w #[.int .i64 0,.int .i64 0,.int .i64 0] 34
 have eV:Ext w (w.alloc (.cells #[.int .i64 0,.int .i64 0,.int .i64 0] 34)):=(Ext.refl w).alloc _
 generalize (w.alloc (.cells #[.int .i64 0,.int .i64 0,.int .i64 0] 34))=V at oV eV ⊢
 refine ⟨e.trans eV,?_⟩
 unfold Lo
 refine Zi (Xy V) ?_
 rintro v2 w2 ⟨h2,e2⟩
 refine ⟨e.trans (eV.trans e2),?_⟩
 refine Zi (Xy w2) ?_
 rintro v3 w3 ⟨h3,e3⟩
 have e03:=eV.trans (e2.trans e3)
 refine ⟨e.trans e03,?_⟩
 refine zcr (Qm w3 _ _ _ m Yl Yl (h1.ext e03) (h2.ext e3) h3 hin) λ w1 e1=>?_
 rw [hm]
 exact ZeF (e.trans (e03.trans e1)) e.size (e1.obj (e3.obj (e2.obj oV))) hK
end
def Zau (n k:Nat):Bool:=decide ((n:Int) > (k:Int))
def Zav {n k:Nat} (h:Zau n k=false):n≤k:=by
 unfold Zau at h
 simp only [decide_eq_false_iff_not] at h
 omega
def Zer (x y:Qd):(!(decide (x.low=y.low)&&(decide (x.high=y.high)&&decide (x.to=y.to))))=!decide (x=y):=by
 cases x;cases y
 congr 1
 rw [Bool.eq_iff_iff]
 simp
def Dq c b d (a:WPr) (QU:KW) R w:=
 J0 43 c 5 a λ e=>
 I0 40 e a λ f=>
 M0 40 f b a λ g=>
 I0 5 g a λ h=>
 qV Pg a (ZA .quo 5 true h (.int .u8 16)) λ i=>
 J0 43 c 5 a λ j=>
 I0 40 j a λ k=>
 M0 40 k b a λ l=>
 I0 5 l a λ m=>
 qV Pg a (ZA .quo 5 true m (.int .u8 16)) λ n=>
 qV Pg a (ZA .add 5 true n (.int .u8 1)) λ o=>
 qV Pg a (sliceAt 9 (.string { data := #[48,49,50,51,52,53,54,55,56,57,97,98,99,100,101,102] }) (some i) (some o) none) λ p=>
 qV Pg a (ZA .add 9 false d p) λ q=>
 J0 43 c 5 a λ r=>
 I0 40 r a λ s=>
 M0 40 s b a λ t=>
 I0 5 t a λ u=>
 qV Pg a (ZA .rem 5 true u (.int .u8 16)) λ v=>
 J0 43 c 5 a λ x=>
 I0 40 x a λ y=>
 M0 40 y b a λ z=>
 I0 5 z a λ A=>
 qV Pg a (ZA .rem 5 true A (.int .u8 16)) λ B=>
 qV Pg a (ZA .add 5 true B (.int .u8 1)) λ C=>
 qV Pg a (sliceAt 9 (.string { data := #[48,49,50,51,52,53,54,55,56,57,97,98,99,100,101,102] }) (some v) (some C) none) λ D=>
 qV Pg a (ZA .add 9 false q D) λ E=>
 B0 .add 3 true b (QqQ 1) R w λ G w=>
 QU E G w
def Dr c a (b:KV) R w:=
 F0 43 c 5 R w λ d w=>
 L0 40 d R w λ e w=>
 G0 40 3 e R w λ f w=>
 B0 .eql 3 true f (QqQ 0) R w λ g w=>
 Zr g (
 opV Pg (ZA .add 9 true a (.string { data := #[45] })) (Zc R) w λ h w=>
 b h w) (
 b a w)
def Ds a b c (d:KV) (QU:KW) R w:=
 F0 43 a 5 R w λ e w=>
 L0 40 e R w λ f w=>
 G0 40 3 f R w λ g w=>
 B0 .lss 3 false b g R w λ h w=>
 Zr h (
 Z4 w λ i w=>
 Dq a b c i QU R w) (
 Dr a c d R w)
def Dt b c d e (a:WPr) (V7:KW) (R:RT) w:=
 qV Pg a (ZA .add 9 false c d) λ f=>
 qV Pg a (ZA .add 9 true f (.string { data := #[58] })) λ g=>
 C0 105 #[e] R w λ h w=>
 a w∧(
 qV Pg a (ZA .add 9 false g h) λ i=>
 B0 .add 3 true b (QqQ 1) R w λ j w=>
 V7 i j w)
def Du b c d e f (a:WPr) (V7:KW) (R:RT) w:=
 qV Pg a (ZA .add 9 false c d) λ g=>
 qV Pg a (ZA .add 9 true g (.string { data := #[45] })) λ h=>
 C0 105 #[e] R w λ i w=>
 a w∧(
 Dt b h i f a V7 R w)
def Dv c d b (a:WPr) (V7:KW) (R:RT) w:=
 qV Pg a (ZA .add 9 true d (.string { data := #[32] })) λ e=>
 J0 43 c 6 a λ f=>
 I0 41 f a λ g=>
 M0 41 g b a λ h=>
 J0 78 h 0 a λ i=>
 I0 3 i a λ j=>
 J0 43 c 6 a λ k=>
 I0 41 k a λ l=>
 M0 41 l b a λ m=>
 J0 78 m 1 a λ n=>
 I0 3 n a λ o=>
 J0 43 c 6 a λ p=>
 I0 41 p a λ q=>
 M0 41 q b a λ r=>
 J0 78 r 2 a λ s=>
 I0 3 s a λ t=>
 C0 105 #[j] R w λ u w=>
 a w∧(
 Du b e u o t a V7 R w)
def Bl a b c (d:KV) (V7:KW) R w:=
 F0 43 a 6 R w λ e w=>
 L0 41 e R w λ f w=>
 G0 41 3 f R w λ g w=>
 B0 .lss 3 false c g R w λ h w=>
 Zr h (
 Z4 w λ i w=>
 Dv a b c i V7 R w) (
 d b w)
def Bm a b (c:KV) R w:=
 opV Pg (ZA .add 9 true b (.string { data := #[32] })) (Zc R) w λ d w=>
 Wy (λ e f w QU=>
 Ds a f e c QU R w) d (QqQ 0) w
def Bn c a d (b:KV) R w:=
 B0 .eql 3 true d (QqQ 5) R w λ e w=>
 Zr e (
 Wy (λ a f w V7=>
 Bl c a f b V7 R w) a (QqQ 0) w) (
 b a w)
def xQ a b (c:KV) R w:=
 opV Pg (ZA .add 9 true b (.string { data := #[32] })) (Zc R) w λ d w=>
 F0 43 a 4 R w λ e w=>
 L0 3 e R w λ f w=>
 C0 105 #[f] R w λ g w=>
 B0 .add 9 false d g R w λ h w=>
 c h w
def xR a b (c:KV) R w:=
 opV Pg (ZA .add 9 true b (.string { data := #[32] })) (Zc R) w λ d w=>
 F0 43 a 3 R w λ e w=>
 L0 3 e R w λ f w=>
 C0 105 #[f] R w λ g w=>
 B0 .add 9 false d g R w λ h w=>
 c h w
def Kk a b c (d:KV) R w:=
 B0 .eql 3 true c (QqQ 3) R w λ e w=>
 Zr e (
 xQ a b d R w) (
 B0 .eql 3 true c (QqQ 4) R w λ f w=>
 Zr f (
 Bm a b d R w) (
 Bn a b c d R w))
def JC b a R w:=
 F0 43 b 1 R w λ e w=>
 L0 39 e R w λ c w=>
 B0 .eql 3 true c (QqQ 2) R w λ f w=>
 Zp (λ (a:Vl) (w:Wd)=>
 R (.returned (.tuple #[a,(.bool true)])) w) λ d=>
 Zr f (
 xR b a d R w) (
 Kk b a c d R w)
def xS a b (c:KV) R w:=
 opV Pg (ZA .add 9 true b (.string { data := #[32] })) (Zc R) w λ d w=>
 F0 43 a 2 R w λ e w=>
 L0 9 e R w λ f w=>
 B0 .add 9 false d f R w λ g w=>
 c g w
def xT a b d (R:RT) w:=
 C0 92 #[d,(.int .u8 102)] R w λ e w=>
 Zp (λ (f:Vl) (w:Wd)=>
 JC a f R w) λ c=>
 Zr e (
 xS a b c R w) (
 c b w)
def xU b c d e (a:WPr) R w:=
 M0 94 d e a λ f=>
 I0 9 f a λ g=>
 qV Pg a (ZA .add 9 false c g) λ h=>
 F0 43 b 1 R w λ i w=>
 L0 39 i R w λ j w=>
 C0 93 #[j] R w λ k w=>
 xT b h k R w
def JD b (a:WPr) R w:=
 J0 43 b 0 a λ c=>
 I0 9 c a λ d=>
 qV Pg a (ZA .add 9 true d (.string { data := #[32] })) λ e=>
 J0 43 b 1 a λ f=>
 I0 39 f a λ g=>
 opV Pg (buildSlice 94 8 #[(0,(.string { data := #[] })),(1,(.string { data := #[99,111,112,121] })),(2,(.string { data := #[97,100,100] })),(3,(.string { data := #[118,97,108,117,101] })),(4,(.string { data := #[98,121,116,101,115] })),(5,(.string { data := #[116,97,98,108,101] })),(6,(.string { data := #[110,101,115,116,101,100] })),(7,(.string { data := #[102,105,116] }))]) (Zc R) w λ h w=>
 XS a w λ i w=>
 xU b e h g i R w
def JE d b e f (R:RT) w:=
 Zp (λ (a:Vl) (w:Wd)=>
 Zx b (.bool true) a λ g=>
 Zr g (
 R (.returned (.tuple #[(.string { data := #[] }),(.bool false)])) w) (
 Z4 w λ h w=>
 JD d h R w)) λ c=>
 Zm b false (
 Zx e f (.bool false) λ a=>
 c a w) (
 c undef w)
def zp b e c R w:=
 Zp (λ (a:Vl) (w:Wd)=>
 JE b e c a R w) λ d=>
 Zm c true (
 F0 43 b 2 R w λ f w=>
 L0 9 f R w λ g w=>
 C0 39 #[g] R w λ h w=>
 N0 h R w λ a w=>
 d a w) (
 d undef w)
def xV a d e R w:=
 Zx d (.bool true) e λ b=>
 Zp (λ (f:Vl) (w:Wd)=>
 zp a b f R w) λ c=>
 Zm b false (
 F0 43 a 1 R w λ g w=>
 L0 39 g R w λ h w=>
 C0 93 #[h] R w λ i w=>
 C0 92 #[i,(.int .u8 102)] R w λ j w=>
 c j w) (
 c undef w)
def xW b e f R w:=
 Zx e (.bool true) f λ c=>
 Zp (λ (a:Vl) (w:Wd)=>
 xV b c a R w) λ d=>
 Zm c false (
 F0 43 b 0 R w λ g w=>
 L0 9 g R w λ h w=>
 opV Pg (ZA .eql 9 true h (.string { data := #[101,110,100] })) (Zc R) w λ a w=>
 d a w) (
 d undef w)
def xX b e f R w:=
 Zx e (.bool true) f λ c=>
 Zp (λ (a:Vl) (w:Wd)=>
 xW b c a R w) λ d=>
 Zm c false (
 F0 43 b 0 R w λ g w=>
 L0 9 g R w λ h w=>
 C0 39 #[h] R w λ i w=>
 N0 i R w λ a w=>
 d a w) (
 d undef w)
def zq b e R w:=
 N0 e R w λ c w=>
 Zp (λ (a:Vl) (w:Wd)=>
 xX b c a R w) λ d=>
 Zm c false (
 L0 43 b R w λ f w=>
 C0 104 #[f] R w λ g w=>
 N0 g R w λ a w=>
 d a w) (
 d undef w)
def n66 b R w:=
 opV Pg (box 43 b) (Zc R) w λ a w=>
 L0 43 a R w λ c w=>
 C0 103 #[c] R w λ d w=>
 zq a d R w
def Zll:QqX1 61 n66:=λ h=>by
 refine yD func61 ?_
 refine zs<|zr<|yv h λ h=>zm<|zm<|zn<|zk<|zs<|zs<|Zq<|yG 4<|yv h λ h=>yc h Zjk λ h=>yv h λ h=>zm ?_
 refine zn<|yg1 3 3 false [11,12,13] 13 h (λ _ T hT h=>?_) λ σ w h=>?_
 · refine yv h λ h=>yc h Zjl λ h=>yv h λ h=>zn ?_
   exact zt hT h
 refine yG 2<|yp h λ h=>zm<|zn<|yg1 4 8 false [16,17,18,19] 19 h (λ _ T hT h=>?_) λ σ w h=>?_
 · refine yv h λ h=>yv h λ h=>yc h c39 λ h=>yv h λ h=>zn ?_
   exact zt hT h
 refine yG 2<|yp h λ h=>zm<|zn<|yg1 3 14 false [22,23,24] 24 h (λ _ T hT h=>?_) λ σ w h=>?_
 · refine yv h λ h=>yv h λ h=>yb h λ h=>zn ?_
   exact zt hT h
 refine yG 2<|yp h λ h=>zm<|zn<|yg1 5 19 false [27,28,29,30,31] 31 h (λ _ T hT h=>?_) λ σ w h=>?_
 · refine yv h λ h=>yv h λ h=>yc h c93 λ h=>yc h c92 λ h=>zm<|zn ?_
   exact zt hT h
 refine yg1 4 24 true [32,33,34,35] 35 h (λ _ T hT h=>?_) λ σ w h=>?_
 · refine yv h λ h=>yv h λ h=>yc h c39 λ h=>yv h λ h=>zn ?_
   exact zt hT h
 refine yg1 1 19 false [36] 36 h (λ _ T hT h=>?_) λ σ w h=>?_
 · refine yp h λ h=>zn ?_
   exact zt hT h
 refine yG 1<|yp h λ h=>zn<|ZG<|zk<|yC h (λ h=>zs<|zr<|zm<|zm<|zn<|zk<|Zg<|Zb<|Yg rfl rfl rfl h) λ h=>Zk<|zk<|zs<|yh [4,38,39,40,41,42,43,44,45,46] h λ C hC h=>ye 0 hC h λ h=>?_
 refine ye 1 hC h λ h=>?_
 refine ye 2 hC h λ h=>?_
 refine ye 4 hC h λ h=>?_
 refine ye 5 hC h λ h=>?_
 refine yr 3 ?_
 refine yS h λ h=>zn ?_
 obtain ⟨C8,hs,hC,h⟩:=h
 refine ⟨C8,hs,hC,?_⟩
 refine ye 6 hC h λ h=>?_
 refine ye 7 hC h λ h=>?_
 refine ye 8 hC h λ h=>?_
 refine yw 9 hC ?_
 refine yz<|zk<|zs<|zs<|zr<|yv h λ h=>yv h λ h=>yc h c93 λ h=>yc h c92 λ h=>zn<|zk<|yJ1 [4,51,52,53,54,55] 4 h (λ _ _ hkK9 h=>?_) λ σ w h=>?_
 · refine yC h (λ h=>?_) λ h=>?_
   · refine zr<|zm<|yb h λ h=>yv h λ h=>yv h λ h=>yb h λ h=>zm<|zn<|zk ?_
     exact zt hkK9 h
   refine Zk<|zk ?_
   exact zt hkK9 h
 refine zk<|zs<|zs<|zr<|yv h λ h=>yv h λ h=>zn<|zk<|Zl<|zs<|zr<|yb h λ h=>zm<|zn<|zk ?_
 refine yJ1 [4,5,6,60,61,62,63,64,65,66,67,68,69,70,71,72,73,74,75,76,77,78,79,80,81,82,83,84,85,86,87,88,89,90,91,92,93,94,95,96,97,98,99,100,101,102,103,104,105,106,107,108,109,110,111,112,113,114,115,116,117,118,119,120,121,122,123,124,125,126,127,128,129,130,131,132,133,134,135,136,137,138,139,140,141,142,143,144,145,146,147,148,149,150,151,152,153,154,155,156,157,158] 4 h (λ _ _ hkK10 h=>?_) λ σ w h=>?_
 · refine yC h (λ h=>?_) λ h=>?_
   · refine zr<|zm<|yb h λ h=>yv h λ h=>yv h λ h=>yc h IC λ h=>yb h λ h=>zm<|zn<|zk ?_
     exact zt hkK10 h
   refine zs<|zr<|yb h λ h=>zm<|zn<|zk<|yC h (λ h=>?_) λ h=>?_
   · refine zr<|zm<|yb h λ h=>yv h λ h=>yv h λ h=>yc h IC λ h=>yb h λ h=>zm<|zn<|zk ?_
     exact zt hkK10 h
   refine zs<|zr<|yb h λ h=>zm<|zn<|zk<|yC h (λ h=>?_) λ h=>?_
   · refine zs<|zr<|zm<|yb h λ h=>zm<|zn<|zk<|zs<|zs<|zr<|zm<|zn<|zk<|Zl<|yl2 [4,5,78,79,80,81,82,83,84,85,86,87,88,89,90,91,92,93,94,95,96,97,98,99,100,101,102,103,104,105,106,107,108,109,110,111,112,113,114,115] 4 5 h λ σ w next h=>?_
     refine zs<|zs<|zr<|zm<|yv h λ h=>yv h λ h=>yx h λ h=>yb h λ h=>zn<|zk<|yC h (λ h=>?_) λ h=>?_
     · refine Zk<|zk<|zs<|Zl<|yh [4,85,86,87,88,89,90,91,92,93,94,95,96,97,98,99,100,101,102,103,104,105,106,107,108,109,110,111,112,113,114,115] h λ C hC h=>yw 0 hC ?_
       refine ye 1 hC h λ h=>?_
       refine ye 2 hC h λ h=>?_
       refine yw 3 hC ?_
       refine ye 4 hC h λ h=>?_
       refine ye 5 hC h λ h=>?_
       refine ye 6 hC h λ h=>?_
       refine ye 7 hC h λ h=>?_
       refine ye 8 hC h λ h=>?_
       refine yw 9 hC ?_
       refine ye 10 hC h λ h=>?_
       refine ye 11 hC h λ h=>?_
       refine ye 12 hC h λ h=>?_
       refine ye 13 hC h λ h=>?_
       refine ye 14 hC h λ h=>?_
       refine ye 15 hC h λ h=>?_
       refine ye 16 hC h λ h=>?_
       refine ye 17 hC h λ h=>?_
       refine yw 18 hC ?_
       refine ye 19 hC h λ h=>?_
       refine ye 20 hC h λ h=>?_
       refine ye 21 hC h λ h=>?_
       refine ye 22 hC h λ h=>?_
       refine ye 23 hC h λ h=>?_
       refine yw 24 hC ?_
       refine ye 25 hC h λ h=>?_
       refine ye 26 hC h λ h=>?_
       refine ye 27 hC h λ h=>?_
       refine ye 28 hC h λ h=>?_
       refine ye 29 hC h λ h=>?_
       refine ye 30 hC h λ h=>?_
       refine yw 31 hC ?_
       exact yz<|Zf<|zk<|zr<|zm<|yb h λ h=>zm<|zn<|zk<|⟨rfl,h⟩
     refine ZN<|Ze<|Ze<|Zs<|zk<|zs<|zr<|yv h λ h=>yv h λ h=>yx h λ h=>yb h λ h=>zn<|zk<|yC h (λ h=>?_) λ h=>?_
     · refine zr<|zm<|yb h λ h=>zm<|zn<|zk ?_
       exact zt hkK10 h
     refine Zk<|zk ?_
     exact zt hkK10 h
   refine zs<|zr<|yb h λ h=>zm<|zn<|zk<|yC h (λ h=>?_) λ h=>?_
   · refine zs<|zr<|zm<|zn<|zk<|Zl<|yl2 [4,6,124,125,126,127,128,129,130,131,132,133,134,135,136,137,138,139,140,141,142,143,144,145,146,147,148,149,150,151,152,153,154,155,156,157,158] 4 6 h λ σ w next h=>zs<|zs<|zr<|zm<|yv h λ h=>yv h λ h=>yx h λ h=>yb h λ h=>?_
     refine zn<|zk<|yC h (λ h=>?_) λ h=>?_
     · refine Zk<|zk<|zs<|Zl<|yh [4,131,132,133,134,135,136,137,138,139,140,141,142,143,144,145,146,147,148,149,150,151,152,153,154,155,156,157,158] h λ C hC h=>yw 0 hC ?_
       refine ye 1 hC h λ h=>?_
       refine ye 2 hC h λ h=>?_
       refine ye 3 hC h λ h=>?_
       refine yw 4 hC ?_
       refine ye 5 hC h λ h=>?_
       refine ye 6 hC h λ h=>?_
       refine ye 7 hC h λ h=>?_
       refine ye 11 hC h λ h=>?_
       refine ye 12 hC h λ h=>?_
       refine yw 13 hC ?_
       refine ye 14 hC h λ h=>?_
       refine ye 15 hC h λ h=>?_
       refine ye 16 hC h λ h=>?_
       refine ye 20 hC h λ h=>?_
       refine ye 21 hC h λ h=>?_
       refine yw 22 hC ?_
       refine ye 23 hC h λ h=>?_
       refine ye 24 hC h λ h=>?_
       refine ye 25 hC h λ h=>?_
       refine yo 8 ?_
       refine yc h IC λ h=>zn ?_
       obtain ⟨hC,h⟩:=h
       refine ⟨hC,?_⟩
       refine ye 9 hC h λ h=>?_
       refine ye 10 hC h λ h=>?_
       refine yo 17 ?_
       refine yc h IC λ h=>zn ?_
       obtain ⟨hC,h⟩:=h
       refine ⟨hC,?_⟩
       refine ye 18 hC h λ h=>?_
       refine ye 19 hC h λ h=>?_
       refine yo 26 ?_
       refine yc h IC λ h=>zn ?_
       obtain ⟨hC,h⟩:=h
       refine ⟨hC,?_⟩
       refine ye 27 hC h λ h=>?_
       refine yw 28 hC ?_
       exact yz<|Zf<|zk<|zr<|zm<|yb h λ h=>zm<|zn<|zk<|⟨rfl,h⟩
     refine ZN<|Ze<|Ze<|Zs<|zk ?_
     exact zt hkK10 h
   refine Zk<|zk ?_
   exact zt hkK10 h
 exact Zf<|zk<|zs<|zr<|zm<|zm<|zm<|zn<|zk<|Zg<|Yg rfl rfl rfl h
def Ax (x y:FrD):Bool:=decide (x.to=y.to)&&(x.kind == y.kind)&&decide (x.fr=y.fr)&&(x.add == y.add)&&(x.value == y.value)
def ZfS (x y:FrD):decide (x=y)=(Ax x y&&(decide (x.bytes=y.bytes)&&decide (x.table=y.table))):=by
 obtain ⟨a1,a2,a3,a4,a5,a6,a7⟩:=x
 obtain ⟨b1,b2,b3,b4,b5,b6,b7⟩:=y
 unfold Ax
 rw [Bool.eq_iff_iff]
 simp only [FrD.mk.injEq,decide_eq_true_eq,Bool.and_eq_true,beq_iff_eq]
 constructor
 · rintro ⟨h1,h2,h3,h4,h5,h6,h7⟩
   exact ⟨⟨⟨⟨⟨h1,h2⟩,h3⟩,h4⟩,h5⟩,h6,h7⟩
 · rintro ⟨⟨⟨⟨⟨h1,h2⟩,h3⟩,h4⟩,h5⟩,h6,h7⟩
   exact ⟨h1,h2,h3,h4,h5,h6,h7⟩
def ZeH (x y:Xn):decide (x=y)=(decide (x.name=y.name)&&decide (x.rules=y.rules)):=by
 obtain ⟨a1,a2⟩:=x
 obtain ⟨b1,b2⟩:=y
 rw [Bool.eq_iff_iff]
 simp only [Xn.mk.injEq,decide_eq_true_eq,Bool.and_eq_true]
abbrev ZfO (x:FrD):List Vl:=Zo x Yb Yb
def ZeX (x:FrD):Prop:=x.bytes=[]∧x.table=[]
structure InI (w1 w:Wd) (p7:Nat) (n:BAr) (fv:Vl) (fs:List FrD):Prop where
 e:Ext w1 w
 l7:w1.heap.size≤p7
 o7:w.heap[p7]?=some (.cells (YZ ⟨n,n,fs⟩ fv).toArray 60 (0,0))
 own:ZM w w1.heap.size 43 7 ZfO fv fs
def EId (w:Wd) (lo:Nat) (cs:List Vl) (r:MrD):Prop:=∃ fv,cs=YZ r fv∧ZM w lo 43 7 ZfO fv r.fields∧∀ x∈r.fields,ZeX x
structure IdS (w0 w:Wd) (p2 p4:Nat) (nm:BAr) (rv:Vl) (done:List MrD):Prop where
 e:Ext w0 w
 l2:w0.heap.size≤p2
 l4:w0.heap.size≤p4
 ne:p2≠p4
 o2:w.heap[p2]?=some (.cells (Z2 ⟨ByteArray.empty,[]⟩ Yb).toArray 24 (0,0))
 o4:w.heap[p4]?=some (.cells #[.string nm,rv] 24 (0,0))
 row:∃ css:List (Cs 3),ZM w w0.heap.size 60 3 Subtype.val rv css∧VM 3 (EId w w0.heap.size) css done
def N4 (l:List UInt8):l.length≤(YE l).length:=by
 unfold YE
 split
 · rename_i h
   subst h
   simp
 · rw [Je];omega
def PK (x y:FrD):(!decide (x.to=y.to)||(x.kind != y.kind)||!decide (x.fr=y.fr)||(x.add != y.add)||(x.value != y.value))=!Ax x y:=by
 unfold Ax
 simp only [Bool.not_and,bne]
def NO (a b:List UInt8):(!decide ((⟨a.toArray⟩:BAr)=⟨b.toArray⟩))=!decide (a=b):=by
 congr 1
 exact Ez
def Cz (w0:Wd) (v u:Vl) (x y:FrD) (hx:QI w0 v x) (hy:QI w0 u y):Ret Pg 41 #[v,u] w0 λ r w'=>r = .bool (decide (x=y))∧Ext w0 w':=by
 obtain ⟨bv1,tv1,rfl,hB1,hT1,b1,t1⟩:=hx.op
 obtain ⟨bv2,tv2,rfl,hB2,hT2,b2,t2⟩:=hy.op
 obtain ⟨A1,c1,rfl,_,_,hlm1,hel1⟩:=Zd.open hT1
 obtain ⟨A2,c2,rfl,_,_,hlm2,hel2⟩:=Zd.open hT2
 refine Zlo (R:=ZE _) ?_;unfold n69
 rw [YO]
 have o1:=Zt w0 (Zo x bv1 (.slice A1 x.table.length c1)).toArray 43
 have e1:Ext w0 (w0.alloc (.cells (Zo x bv1 (.slice A1 x.table.length c1)).toArray 43)):=(Ext.refl w0).alloc _
 generalize (w0.alloc (.cells (Zo x bv1 (.slice A1 x.table.length c1)).toArray 43))=W1 at o1 e1 ⊢
 rw [YO]
 have o2:=Zt W1 (Zo y bv2 (.slice A2 y.table.length c2)).toArray 43
 have e2:Ext W1 (W1.alloc (.cells (Zo y bv2 (.slice A2 y.table.length c2)).toArray 43)):=(Ext.refl W1).alloc _
 generalize (W1.alloc (.cells (Zo y bv2 (.slice A2 y.table.length c2)).toArray 43))=W at o2 e2 ⊢
 replace o1:=e2.obj o1
 have e:=e1.trans e2
 generalize w0.heap.size=p1 at o1 ⊢
 generalize W1.heap.size=p2 at o2 ⊢
 rw [ZfS]
 have q1:=(Za o1).1
 have q2:=(Za o2).1
 unfold ZdJ ZdI ZdH ZdG ZdF Zp
 refine Qqb q1 q2 ?_
 rw [PK]
 cases hh:Ax x y with
 | false=>
  refine Qqv ?_
  exact ⟨by simp,e⟩
 | true=>
  refine Qqv ?_
  rw [Qf (hB1.ext e)]
  refine Qqh q2 ?_
  rw [Qf (hB2.ext e)]
  refine Qqv ?_
  rw [NO]
  by_cases hbb:x.bytes=y.bytes
  · rw [decide_eq_true hbb]
    refine Qqb q1 q2 ?_
    by_cases YJ:x.table.length=y.table.length
    · have Y7:((x.table.length:Int) != (y.table.length:Int))=false:=by simp [YJ]
      refine Qqh Y7 ?_
      refine ZL (λ i w=>∃ k:Nat,i = .int .i64 k∧k≤x.table.length∧x.table.take k=y.table.take k∧Ext W w) (λ i _=>x.table.length - (intOf i).toNat) ⟨0,rfl,by omega,rfl,Ext.refl _⟩ ?_
      rintro _ w1 ⟨k,rfl,hk,ht,f1⟩
      have r1:=(Za (f1.obj o1)).1
      have r2:=(Za (f1.obj o2)).1
      unfold ZdE
      rcases ZY hk with ⟨z,hz,_,Yo,ZT⟩ | ⟨hke,_,ZT⟩
      · have hwk:IntKind.i64.wrap ((k:Int)+1)=(k:Int)+1:=Z0 C1 C1
        obtain ⟨b,o,cs,rfl,_,hA,rfl⟩:=hel1 k z hz
        obtain ⟨z',hz'⟩:=getElem?_lt (l:=y.table) (k:=k) C1
        obtain ⟨b',o',cs',rfl,_,hA',rfl⟩:=hel2 k z' hz'
        have hlt':k < y.table.length:=C1
        have g1:=hA.c3 (e.trans f1)
        have g2:=hA'.c3 (e.trans f1)
        refine Qqm r1 r2 ZT ?_
        refine ZB ?_
        have eD:Ext w1 (drew w1):=(Ext.refl w1).drew
        have s1:=(Za (eD.obj (f1.obj o1))).1
        have s2:=(Za (eD.obj (f1.obj o2))).1
        have g1:=hA.c3 (e.trans (f1.trans eD))
        have g2:=hA'.c3 (e.trans (f1.trans eD))
        generalize (drew w1)=D at eD s1 s2 g1 g2 ⊢
        unfold ZdD
        refine Qqp s1 s2 g1 g2 ?_
        rw [Zer]
        by_cases hzz:z=z'
        · rw [decide_eq_true hzz]
          refine Qqh hwk ?_
          exact ⟨⟨k+1,rfl,Yo,by rw [YU hz,YU hz',ht,hzz],f1.trans eD⟩,Yh (kd := .i64) Yo⟩
        · rw [decide_eq_false hzz]
          have hno:decide (x.table=y.table)=false:=by
           simp only [decide_eq_false_iff_not]
           intro h
           rw [h,hz'] at hz
           injection hz with hz
           exact hzz hz.symm
          rw [hno]
          refine Qqv ?_
          exact ⟨by trivial,e.trans (f1.trans eD)⟩
      · rw [hke,List.take_length,YJ,List.take_length] at ht
        refine Qqm r1 r2 ZT ?_
        exact ⟨by simp [hbb,ht],e.trans f1⟩
    · have Y7:((x.table.length:Int) != (y.table.length:Int))=true:=by simp;omega
      have hno:decide (x.table=y.table)=false:=by simp only [decide_eq_false_iff_not];exact λ h=>YJ (by rw [h])
      rw [hno]
      refine Qqh Y7 ?_
      exact ⟨by simp,e⟩
  · rw [decide_eq_false hbb]
    refine Qqv ?_
    exact ⟨by simp,e⟩
section
variable {w:Wd} {p6 p7 k:Nat} {x y:MrD} {fv1 fv2:Vl} {Ys:KV} {R:RT}
def TQ (o6:w.heap[p6]?=some (.cells (YZ x fv1).toArray 60 (0,0))) (o7:w.heap[p7]?=some (.cells (YZ y fv2).toArray 60 (0,0))) (h1:Ve w fv1 x.fields) (h2:Ve w fv2 y.fields) (hk:k≤9223372036854775806)
 (hN:x=y→∀ w',Ext w w'→Ys (.int .i64 ((k:Int)+1)) w') (hR:x≠y→∀ w',Ext w w'→R (.returned (.bool false)) w') :
 Nd (.int .i64 k) (Qq5 p6) (Qq5 p7) Ys R w:=by
 have hwk:IntKind.i64.wrap ((k:Int)+1)=(k:Int)+1:=Z0 C1 C1
 obtain ⟨A1,c1,rfl,_,_,hlm1,hel1⟩:=Zd.open h1
 obtain ⟨A2,c2,rfl,_,_,hlm2,hel2⟩:=Zd.open h2
 have q1:=(Za o6).1
 have q2:=(Za o7).1
 unfold Nd Zdk Zp
 refine Qqb q1 q2 ?_
 have hb:(!decide (x.fr=y.fr)||!decide (x.to=y.to)||((x.fields.length:Int) != (y.fields.length:Int)))=!(decide (x.fr=y.fr)&&decide (x.to=y.to)&&decide (x.fields.length=y.fields.length)):=by
  simp only [Bool.not_and]
  congr 1
  by_cases h:x.fields.length=y.fields.length
  · simp [h]
  · simp [h]
    omega
 rw [hb]
 cases hh:(decide (x.fr=y.fr)&&decide (x.to=y.to)&&decide (x.fields.length=y.fields.length)) with
 | false=>
  refine Qqv ?_
  refine hR ?_ w (Ext.refl w)
  rintro rfl
  simp at hh
 | true=>
  simp only [Bool.and_eq_true,decide_eq_true_eq] at hh
  obtain ⟨⟨a1,a2⟩,a3⟩:=hh
  refine Qqv ?_
  refine ZL (λ i w'=>∃ j:Nat,i = .int .i64 j∧j≤x.fields.length∧x.fields.take j=y.fields.take j∧Ext w w') (λ i _=>x.fields.length - (intOf i).toNat) ⟨0,rfl,by omega,rfl,Ext.refl _⟩ ?_
  rintro _ w1 ⟨j,rfl,hj,ht,f1⟩
  have r1:=(Za (f1.obj o6)).1
  have r2:=(Za (f1.obj o7)).1
  unfold Zdj
  rcases ZY hj with ⟨z,hz,_,Yo,ZT⟩ | ⟨hje,_,ZT⟩
  · have hwj:IntKind.i64.wrap ((j:Int)+1)=(j:Int)+1:=Z0 C1 C1
    obtain ⟨b,o,cs,rfl,_,hA,bv,tv,rfl,hB,hT⟩:=hel1 j z hz
    obtain ⟨z',hz'⟩:=getElem?_lt (l:=y.fields) (k:=j) C1
    obtain ⟨b',o',cs',rfl,_,hA',bv',tv',rfl,hB',hT'⟩:=hel2 j z' hz'
    have hlt':j < y.fields.length:=C1
    refine Qqm r1 r2 ZT ?_
    refine ZB ?_
    have eD:Ext w1 (drew w1):=(Ext.refl w1).drew
    have fD:=f1.trans eD
    have s1:=(Za (fD.obj o6)).1
    have s2:=(Za (fD.obj o7)).1
    have g1:=hA.c7 fD
    have g2:=hA'.c7 fD
    generalize (drew w1)=D at eD fD s1 s2 g1 g2 ⊢
    unfold Zdi
    refine Qqp s1 s2 g1 g2 ?_
    refine zcr (Cz D _ _ z z' ⟨bv,tv,rfl,hB.ext fD,hT.ext fD⟩ ⟨bv',tv',rfl,hB'.ext fD,hT'.ext fD⟩) λ w2 e2=>?_
    unfold Zdh
    refine ⟨e2,?_⟩
    by_cases hzz:z=z'
    · rw [decide_eq_true hzz]
      refine Qqh hwj ?_
      exact ⟨⟨j+1,rfl,Yo,by rw [YU hz,YU hz',ht,hzz],fD.trans e2⟩,Yh (kd := .i64) Yo⟩
    · rw [decide_eq_false hzz]
      refine Qqv ?_
      refine hR ?_ w2 (fD.trans e2)
      rintro rfl
      rw [hz'] at hz
      injection hz with hz
      exact hzz hz.symm
  · rw [hje,List.take_length,a3,List.take_length] at ht
    refine Qqp r1 r2 ZT hwk ?_
    exact hN (by cases x;cases y;simp_all) w1 f1
end
def FD (w0:Wd) (v u:Vl) (x y:Xn) (hx:Xx w0 v x) (hy:Xx w0 u y):Ret Pg 17 #[v,u] w0 λ r w'=>r = .bool (decide (x=y))∧Ext w0 w':=by
 obtain ⟨rv1,rfl,hR1,t1⟩:=hx.op
 obtain ⟨rv2,rfl,hR2,t2⟩:=hy.op
 obtain ⟨A1,c1,rfl,_,_,hlm1,hel1⟩:=Zd.open hR1
 obtain ⟨A2,c2,rfl,_,_,hlm2,hel2⟩:=Zd.open hR2
 refine Zlf (R:=ZE _) ?_;unfold n60
 rw [YO]
 have o1:=Zt w0 (Z2 x (.slice A1 x.rules.length c1)).toArray 24
 have e1:Ext w0 (w0.alloc (.cells (Z2 x (.slice A1 x.rules.length c1)).toArray 24)):=(Ext.refl w0).alloc _
 generalize (w0.alloc (.cells (Z2 x (.slice A1 x.rules.length c1)).toArray 24))=W1 at o1 e1 ⊢
 rw [YO]
 have o2:=Zt W1 (Z2 y (.slice A2 y.rules.length c2)).toArray 24
 have e2:Ext W1 (W1.alloc (.cells (Z2 y (.slice A2 y.rules.length c2)).toArray 24)):=(Ext.refl W1).alloc _
 generalize (W1.alloc (.cells (Z2 y (.slice A2 y.rules.length c2)).toArray 24))=W at o2 e2 ⊢
 replace o1:=e2.obj o1
 have e:=e1.trans e2
 generalize w0.heap.size=p1 at o1 ⊢
 generalize W1.heap.size=p2 at o2 ⊢
 rw [ZeH]
 have q1:=(Za o1).1
 have q2:=(Za o2).1
 unfold Zp
 refine Qqb q1 q2 ?_
 have hb:(!decide (x.name=y.name)||((x.rules.length:Int) != (y.rules.length:Int)))=!(decide (x.name=y.name)&&decide (x.rules.length=y.rules.length)):=by
  simp only [Bool.not_and]
  congr 1
  by_cases h:x.rules.length=y.rules.length
  · simp [h]
  · simp [h]
    omega
 rw [hb]
 cases hh:(decide (x.name=y.name)&&decide (x.rules.length=y.rules.length)) with
 | false=>
  refine Qqv ?_
  refine ⟨?_,e⟩
  by_cases a1:x.name=y.name
  · have a2:¬ x.rules=y.rules:=λ h=>by simp [a1,h] at hh
    simp [a2]
  · simp [a1]
 | true=>
  simp only [Bool.and_eq_true,decide_eq_true_eq] at hh
  obtain ⟨a1,a2⟩:=hh
  refine Qqv ?_
  refine ZL (λ i w=>∃ k:Nat,i = .int .i64 k∧k≤x.rules.length∧x.rules.take k=y.rules.take k∧Ext W w) (λ i _=>x.rules.length - (intOf i).toNat) ⟨0,rfl,by omega,rfl,Ext.refl _⟩ ?_
  rintro _ w1 ⟨k,rfl,hk,ht,f1⟩
  have r1:=(Za (f1.obj o1)).1
  have r2:=(Za (f1.obj o2)).1
  unfold Zdo
  rcases ZY hk with ⟨z,hz,_,Yo,ZT⟩ | ⟨hke,_,ZT⟩
  · obtain ⟨b,o,cs,rfl,_,hA,fv1,rfl,hF1⟩:=hel1 k z hz
    obtain ⟨z',hz'⟩:=getElem?_lt (l:=y.rules) (k:=k) C1
    obtain ⟨b',o',cs',rfl,_,hA',fv2,rfl,hF2⟩:=hel2 k z' hz'
    have u1:=Zd.oneCell hF1
    have u2:=Zd.oneCell hF2
    have hlt':k < y.rules.length:=C1
    refine Qqm r1 r2 ZT ?_
    refine ZB ?_
    have eD:Ext w1 (drew w1):=(Ext.refl w1).drew
    have fD:=f1.trans eD
    have s1:=(Za (fD.obj o1)).1
    have s2:=(Za (fD.obj o2)).1
    have g1:=hA.c3 (e.trans fD)
    have g2:=hA'.c3 (e.trans fD)
    generalize (drew w1)=D at eD fD s1 s2 g1 g2 ⊢
    unfold Zdn Zdl Zdm Zp
    refine Qqp s1 s2 g1 g2 ?_
    have sz:∀ c:AVl,(D.alloc (.cells c 60)).heap.size=D.heap.size+1:=λ c=>World.size_alloc ..
    have al:∀ c:AVl,Ext D (D.alloc (.cells c 60)):=λ c=>(Ext.refl D).alloc _
    have al2:∀ c c':AVl,Ext D ((D.alloc (.cells c 60)).alloc (.cells c' 60)):=λ c c'=>(al c).alloc _
    have fin:∀ (V:Wd) (p6 p7:Nat),Ext D V→V.heap[p6]?=some (.cells (YZ z fv1).toArray 60 (0,0))→V.heap[p7]?=some (.cells (YZ z' fv2).toArray 60 (0,0))→Nd (.int .i64 k) (Qq5 p6) (Qq5 p7) (λ a0' w'=>(∃ k:Nat,a0' = .int .i64 k∧k≤x.rules.length∧x.rules.take k=y.rules.take k∧Ext W w')∧x.rules.length - (intOf a0').toNat < x.rules.length - (intOf (.int .i64 k)).toNat) (ZE λ r w'=>r = .bool (decide (x.name=y.name)&&decide (x.rules=y.rules))∧Ext w0 w') V:=by
     intro V p6 p7 eV o6 o7
     have E:=e.trans (fD.trans eV)
     refine TQ o6 o7 (hF1.ext E) (hF2.ext E) C1 (λ hzz w' e'=>?_) (λ hzz w' e'=>?_)
     · exact ⟨⟨k+1,rfl,Yo,by rw [YU hz,YU hz',ht,hzz],fD.trans (eV.trans e')⟩,Yh (kd := .i64) Yo⟩
     · have hno:decide (x.rules=y.rules)=false:=by
        simp only [decide_eq_false_iff_not]
        intro h
        rw [h,hz'] at hz
        injection hz with hz
        exact hzz hz.symm
       rw [hno]
       refine Qqv ?_
       exact ⟨by simp,E.trans e'⟩
    have oa:∀ c c':AVl,((D.alloc (.cells c 60)).alloc (.cells c' 60)).heap[D.heap.size]?=some (.cells c 60 (0,0)):=λ c c'=>((Ext.refl _).alloc _).obj (Zt D c _)
    have ob:∀ c c':AVl,((D.alloc (.cells c 60)).alloc (.cells c' 60)).heap[D.heap.size+1]?=some (.cells c' 60 (0,0)):=λ c c'=>by
     have:=Zt (D.alloc (.cells c 60)) c' 60
     rwa [sz] at this
    refine ⟨⟨al _,al2 _ _,al2 _ _,Yx ?_⟩,al _,al2 _ _,al2 _ _,Yx ?_⟩
    · rw [sz]
      exact fin _ _ _ (al2 _ _) (oa _ _) (ob _ _)
    · rw [sz]
      exact fin _ _ _ (al2 _ _) (ob _ _) (oa _ _)
  · rw [hke,List.take_length,a2,List.take_length] at ht
    refine Qqm r1 r2 ZT ?_
    exact ⟨by simp [a1,ht],e.trans f1⟩
def x8 (l:List UInt8):Int:=l.foldl (λ v c=>IntKind.i64.wrap (IntKind.i64.wrap (10*v) - ((c.toNat:Int) - 48))) 0
def qa (l:List UInt8) (c:UInt8):x8 (l++[c])=IntKind.i64.wrap (IntKind.i64.wrap (10*x8 l) - ((c.toNat:Int) - 48)):=by simp [x8]
def HN (l:List UInt8):l.all QG=true→Fx l≤9223372036854775808→x8 l = -(Fx l:Int):=by
 induction l using J3 with
 | h0=>intro _ _;rfl
 | h1 l c ih=>
  intro h hv
  obtain ⟨h1,h2⟩:=FI.1 h
  have h2:=QQ.1 h2
  rw [qt] at hv
  rw [qa,ih h1 C1,qt,Z0 (x:=10 * -(Fx l:Int)) C1 C1,Z0 C1 C1]
  omega
def Cb (n:Int):Xz (IntKind.i64.wrap n)=true:=by
 unfold Xz
 rw [IntKind.wrap_i64]
 simp only [Bool.and_eq_true,decide_eq_true_eq]
 omega
def Vv (p:List UInt8):Int:=if p.head?=some 45 then x8 p.tail else IntKind.i64.wrap (0 - x8 p)
def Gd {n:Int} (h:Xz n=true):Vv (Go.Lib.itoa n)=n:=by
 have hr:=QW h
 unfold Vv
 by_cases hn:n < 0
 · obtain ⟨_,a2,a3,_⟩:=GY n.natAbs
   rw [V0 hn,List.head?_cons,if_pos rfl,List.tail_cons,HN _ a2 C1,a3]
   omega
 · obtain ⟨_,a2,a3,_⟩:=GY n.toNat
   rw [V2 hn,if_neg (Pv a2 K7),HN _ a2 C1,a3,Z0 C1 C1]
   omega
def LK (l:List UInt8):Xz (x8 l)=true:=by
 induction l using J3 with
 | h0=>rfl
 | h1 l c _=>
  rw [qa]
  exact Cb _
def G5 (p:List UInt8):Xz (Vv p)=true:=by
 unfold Vv
 split
 · exact LK _
 · exact Cb _
def r1Z (l:List UInt8):List UInt8:=l.drop ((ZI l).length+1)
def UJ (l:List UInt8):Qd:=⟨Vv (ZI l),Vv (ZI (r1Z l)),Vv (ZI (r1Z (r1Z l)))⟩
def Nt {n:Int} {c:UInt8} {rest:List UInt8} (hc:QG c=false):ZI (Go.Lib.itoa n++c::rest)=Go.Lib.itoa n∧r1Z (Go.Lib.itoa n++c::rest)=rest:=by
 have h:=WN n (rest:=c::rest) (.inr ⟨c,rest,rfl,hc⟩)
 refine ⟨h,?_⟩
 unfold r1Z
 rw [h,← List.drop_drop,List.drop_left]
 rfl
def Zbs {x:Qd} (h:Wg x=true):UJ (QH x)=x:=by
 unfold Wg at h
 simp only [Bool.and_eq_true] at h
 obtain ⟨p1,q1⟩:=Nt (n:=x.low) (c:=45) (rest:=Go.Lib.itoa x.high++58::Go.Lib.itoa x.to) K7
 obtain ⟨p2,q2⟩:=Nt (n:=x.high) (c:=58) (rest:=Go.Lib.itoa x.to) K7
 have p3:=WN x.to (rest:=[]) (.inl rfl)
 rw [List.append_nil] at p3
 unfold UJ QH
 rw [p1,q1,p2,q2,p3,Gd h.1,Gd h.2.1,Gd h.2.2]
def Zbr (l:List UInt8):Wg (UJ l)=true:=by
 unfold Wg UJ
 simp only [G5,Bool.and_self]
def Wr (c:UInt8):Int:=if 48≤c.toNat∧c.toNat≤57 then (c.toNat:Int) - 48 else if 97≤c.toNat∧c.toNat≤102 then (c.toNat:Int) - 97+10 else -1
def CV {n:Nat} (h:n < 16):Wr (Wb n)=n:=by
 have:∀ n:Fin 16,Wr (Wb n.1)=n.1:=K7
 exact this ⟨n,h⟩
def MS (c:UInt8) : -1≤Wr c∧Wr c < 16:=by
 unfold Wr
 split
 · omega
 · split<;>omega
def Qb:List UInt8→Option (List UInt8)
 | a::b::l=>if Wr a < 0∨Wr b < 0 then none else (Qb l).map (UInt8.ofNat (16*Wr a+Wr b).toNat::·)
 | _=>some []
def B5:∀ l:List UInt8,Qb (Vf l)=some l
 | []=>rfl
 | a::l=>by
  have h1:a.toNat < 256:=a.toNat_lt
  show Qb (Wb (a.toNat / 16)::Wb (a.toNat % 16)::Vf l)=_
  rw [Qb,CV C1,CV C1,if_neg C1,B5 l,Option.map_some,show (16*((a.toNat / 16:Nat):Int)+((a.toNat % 16:Nat):Int)).toNat=a.toNat by omega,UInt8.ofNat_toNat]
def CF (l:List UInt8):Qb (YE l)=some l:=by
 unfold YE
 by_cases h:l=[]
 · rw [if_pos h,h]
   rfl
 · rw [if_neg h,B5]
def Yp (k:List UInt8):Int:=if k=kwW 1 then 1 else if k=kwW 2 then 2 else if k=kwW 3 then 3 else if k=kwW 4 then 4 else if k=kwW 5 then 5 else if k=kwW 6 then 6 else if k=kwW 7 then 7 else 0
def UL (k:Int):Bool:=decide (k=1)||(decide (k=2)||(decide (k=5)||decide (k=6)))
def FM (w:List (List UInt8)):Option FrD:=match w with
 | t::k::rest=>
  let c:=Yp k
  let a:=if UL c=true then mkB (rest[0]?.getD []) else ⟨#[]⟩
  let z:=(t::k::rest).getLast?.getD []
  if c=2 then some ⟨mkB t,2,a,Vv (ZI z),0,[],[]⟩
  else if c=3 then some ⟨mkB t,3,a,0,Vv (ZI z),[],[]⟩
  else if c=4 then (Qb z).map λ l=>⟨mkB t,4,a,0,0,l,[]⟩
  else if c=5 then some ⟨mkB t,5,a,0,0,[],rest.tail.map UJ⟩
  else some ⟨mkB t,c,a,0,0,[],[]⟩
 | _=>none
def Hk:∀ {l:List Qd},l.all Wg=true→(l.map QH).map UJ=l
 | [],_=>rfl
 | x::l,h=>by
  rw [List.all_cons,Bool.and_eq_true] at h
  rw [List.map_cons,List.map_cons,Zbs h.1,Hk h.2]
def Zaz {r:FrD} (h:okF r=true):FM (Xh r)=some r:=by
 unfold okF at h
 rw [Bool.and_eq_true] at h
 obtain ⟨h,hi⟩:=h
 unfold inF at hi
 simp only [Bool.and_eq_true] at hi
 obtain ⟨i1,i2,i3⟩:=hi
 obtain ⟨to,kind,fr,add,value,bytes,table⟩:=r
 unfold Yz at h
 simp only at i1 i2 i3 h
 have hint:∀ n,Xz n=true→Vv (ZI (Go.Lib.itoa n))=n:=λ n hn=>by
  have:=WN n (rest:=[]) (.inl rfl)
  rw [List.append_nil] at this
  rw [this,Gd hn]
 cases hu:Xg kind with
 | none=>rw [hu] at h;cases h
 | some u=>
  rw [hu] at h
  simp only [Bool.and_eq_true] at h
  obtain ⟨c1,c2,c3,c4,c5⟩:=Ah h.1
  simp only at c1 c2 c3 c4 c5
  unfold Xg at hu
  unfold Xh WS
  simp only
  by_cases k1:kind=1
  · subst k1
    rw [if_pos rfl] at hu
    injection hu with hu
    subst hu
    rw [c2 rfl,c3 rfl,c4 rfl,c5 rfl]
    rfl
  by_cases k2:kind=2
  · subst k2
    rw [if_neg K7,if_pos rfl] at hu
    injection hu with hu
    subst hu
    rw [c3 rfl,c4 rfl,c5 rfl,if_neg K7,if_pos rfl]
    show some (FrD.mk (mkB to.data.toList) 2 (mkB fr.data.toList) (Vv (ZI (Go.Lib.itoa add))) 0 [] [])=_
    rw [hint _ i1]
    rfl
  by_cases k3:kind=3
  · subst k3
    rw [if_neg K7,if_neg K7,if_pos rfl] at hu
    injection hu with hu
    subst hu
    rw [c1 rfl,c2 rfl,c4 rfl,c5 rfl,if_neg K7,if_neg K7,if_pos rfl]
    show some (FrD.mk (mkB to.data.toList) 3 ⟨#[]⟩ 0 (Vv (ZI (Go.Lib.itoa value))) [] [])=_
    rw [hint _ i2]
    rfl
  by_cases k4:kind=4
  · subst k4
    rw [if_neg K7,if_neg K7,if_neg K7,if_pos rfl] at hu
    injection hu with hu
    subst hu
    rw [c1 rfl,c2 rfl,c3 rfl,c5 rfl,if_neg K7,if_neg K7,if_neg K7,if_pos rfl]
    show (Qb (YE bytes)).map (λ l=>FrD.mk (mkB to.data.toList) 4 ⟨#[]⟩ 0 0 l [])=_
    rw [CF]
    rfl
  by_cases k5:kind=5
  · subst k5
    rw [if_neg K7,if_neg K7,if_neg K7,if_neg K7,if_pos rfl] at hu
    injection hu with hu
    subst hu
    rw [c2 rfl,c3 rfl,c4 rfl,if_neg K7,if_neg K7,if_neg K7,if_neg K7,if_neg K7,if_neg K7]
    show some (FrD.mk (mkB to.data.toList) 5 (mkB fr.data.toList) 0 0 [] ((table.map QH).map UJ))=_
    rw [Hk i3]
    rfl
  by_cases k6:kind=6
  · subst k6
    rw [if_neg K7,if_neg K7,if_neg K7,if_neg K7,if_neg K7,if_pos rfl] at hu
    injection hu with hu
    subst hu
    rw [c2 rfl,c3 rfl,c4 rfl,c5 rfl]
    rfl
  by_cases k7:kind=7
  · subst k7
    rw [if_neg K7,if_neg K7,if_neg K7,if_neg K7,if_neg K7,if_neg K7,if_pos rfl] at hu
    injection hu with hu
    subst hu
    rw [c1 rfl,c2 rfl,c3 rfl,c4 rfl,c5 rfl]
    rfl
  · rw [if_neg k1,if_neg k2,if_neg k3,if_neg k4,if_neg k5,if_neg k6,if_neg k7] at hu
    cases hu
def G6 (s:List UInt8):Xt s=NB s (FM (Ye 32 s)):=by
 refine AD λ r hr hs=>?_
 have hp:Yz r=true:=by unfold okF at hr;rw [Bool.and_eq_true] at hr;exact hr.1
 rw [← hs,yf hp]
 exact Zaz hr
def Zay {w:List (List UInt8)} {r:FrD} (h:FM w=some r):inF r=true:=by
 have z:Xz 0=true:=rfl
 unfold FM at h
 split at h
 · simp only at h
   unfold inF
   split at h
   · injection h with h;subst h;simp only [G5,z,List.all_nil,Bool.and_self]
   split at h
   · injection h with h;subst h;simp only [G5,z,List.all_nil,Bool.and_self]
   split at h
   · cases hz:Qb ((_::_::_:List (List UInt8)).getLast?.getD []) with
     | none=>rw [hz] at h;cases h
     | some l=>rw [hz] at h;injection h with h;subst h;simp only [z,List.all_nil,Bool.and_self]
   split at h
   · injection h with h
     subst h
     simp only [z,Bool.true_and,List.all_eq_true]
     intro x hx
     obtain ⟨y,_,rfl⟩:=List.mem_map.1 hx
     exact Zbr y
   · injection h with h;subst h;simp only [z,List.all_nil,Bool.and_self]
 · cases h
def qL (x:FrD):List UInt8:=if Yz x=true then XC x else []
def Jj (w0:Wd) (s:BAr) (c:Int) (hl:s.size≤9223372036854775806):Ret Pg 92 #[.string s,.int .u8 c] w0 λ r w'=>r = .bool (ya s c)∧w'=w0:=by
 have Vs:s.data.toList.length=s.size:=by rw [Array.length_toList];rfl
 refine Zlj (R:=ZE _) ?_;unfold n64
 refine ZL (λ i w'=>∃ k:Nat,i = .int .i64 k∧k≤s.data.toList.length∧w'=w0∧(s.data.toList.drop k).any (λ x=>(x.toNat:Int) == c)=ya s c) (λ i _=>s.data.toList.length - (intOf i).toNat) ⟨0,rfl,by omega,rfl,rfl⟩ ?_
 rintro _ w2 ⟨k,rfl,hk,rfl,hI⟩
 unfold Zdq
 rcases ZY hk with ⟨x,hx,hd,Yo,ZT⟩ | ⟨hk,hd,ZT⟩
 · rw [Vs] at ZT
   rw [hd,List.any_cons] at hI
   have hwk:IntKind.i64.wrap ((k:Int)+1)=(k:Int)+1:=Z0 C1 C1
   refine Qqh ZT ?_
   unfold Zdp
   rw [YP underlying9 s .i64 k hx]
   cases hb:((x.toNat:Int) == c) with
   | true=>
    rw [hb] at hI
    refine Qqh hb ?_
    exact ⟨by rw [← hI];rfl,by trivial⟩
   | false=>
    rw [hb] at hI
    refine Qqb hb hwk ?_
    exact ⟨⟨k+1,rfl,Yo,by trivial,by simpa using hI⟩,Yh (kd := .i64) Yo⟩
 · rw [Vs] at ZT
   rw [hd] at hI
   refine Qqh ZT ?_
   exact ⟨by rw [← hI];rfl,by trivial⟩
def WT (k:Int):BAr:=if k=1 then ⟨#[102]⟩ else if k=2 then ⟨#[102,97]⟩ else if k=3 then ⟨#[118]⟩ else if k=4 then ⟨#[98]⟩ else if k=5 then ⟨#[102,116]⟩ else if k=6 then ⟨#[102]⟩ else ⟨#[]⟩
def Gm (w0:Wd) (k:Int) (h1:0≤k) (h2:k≤7):Ret Pg 93 #[.int .i64 k] w0 λ r w'=>r = .string (WT k)∧Ext w0 w':=by
 refine Zlq (R:=ZE _) ?_;unfold n71
 obtain ⟨n,rfl⟩:∃ n:Nat,k=n:=⟨k.toNat,by omega⟩
 have:n=0∨n=1∨n=2∨n=3∨n=4∨n=5∨n=6∨n=7:=C1
 have hn:(n:Int) < ((8:Nat):Int):=C1
 have hget:[Value.string ⟨#[]⟩,.string ⟨#[102]⟩,.string ⟨#[102,97]⟩,.string ⟨#[118]⟩,.string ⟨#[98]⟩,.string ⟨#[102,116]⟩,.string ⟨#[102]⟩,.string ⟨#[]⟩][n*1]?=some (.string (WT (n:Int))):=by
  rcases this with rfl | rfl | rfl | rfl | rfl | rfl | rfl | rfl<;>rfl
 refine Qqh hget ?_
 exact ⟨by first | trivial | rfl,ee⟩
def Ku (k:Int):(WT k).size≤9223372036854775806:=by
 have h:(WT k).size≤2:=by
  unfold WT
  repeat' split
  all_goals decide
 omega
def B8 {k:Int} {u:jt} (h:Xg k=some u):ya (WT k) 102=u.fr∧ya (WT k) 97=u.add∧ya (WT k) 118=u.value∧ya (WT k) 98=u.bytes∧ya (WT k) 116=u.table:=by
 have hk:=VK h
 have:k=1∨k=2∨k=3∨k=4∨k=5∨k=6∨k=7:=C1
 rcases this with rfl | rfl | rfl | rfl | rfl | rfl | rfl<;>(injection h with h;subst h;exact ⟨rfl,rfl,rfl,rfl,rfl⟩)
def O6 {k:Int} (h:Xg k=none):¬ (1≤k∧k≤7):=λ hk=>by
 have:k=1∨k=2∨k=3∨k=4∨k=5∨k=6∨k=7:=C1
 rcases this with rfl | rfl | rfl | rfl | rfl | rfl | rfl<;>cases h
def IP (w0:Wd) (v:Vl) (x:FrD) (hx:QI w0 v x):Ret Pg 103 #[v] w0 λ r w'=>r = .bool (Xg x.kind).isSome∧Ext w0 w':=by
 obtain ⟨bv,tv,rfl,hB,hT,b1,t1⟩:=hx.op
 refine Zli (R:=ZE _) ?_;unfold n63
 rw [YO]
 have o1:=Zt w0 (Zo x bv tv).toArray 43
 have e1:Ext w0 (w0.alloc (.cells (Zo x bv tv).toArray 43)):=(Ext.refl w0).alloc _
 generalize (w0.alloc (.cells (Zo x bv tv).toArray 43))=W at o1 e1 ⊢
 generalize w0.heap.size=p1 at o1 ⊢
 have hb:(Xg x.kind).isSome=(decide (x.kind≥1)&&decide (x.kind≤7)):=by
  cases hu:Xg x.kind with
  | none=>
   have:=O6 hu
   by_cases h1:1≤x.kind
   · have h2:¬ x.kind≤7:=λ h=>this ⟨h1,h⟩
     simp [h2]
   · simp [h1]
  | some u=>
   obtain ⟨h1,h2⟩:=VK hu
   simp [h1,h2]
 refine Qqh (Za o1).1 ?_
 rw [hb]
 exact ⟨by trivial,e1⟩
def Mm (w0:Wd) (v:Vl) (x:FrD) (u:jt) (hx:QI w0 v x) (hu:Xg x.kind=some u):Ret Pg 104 #[v] w0 λ r w'=>r = .bool (Wq x u)∧Ext w0 w':=by
 obtain ⟨bv,tv,rfl,hB,hT,b1,t1⟩:=hx.op
 obtain ⟨A1,c1,rfl,_⟩:=Zd.open hB
 obtain ⟨A2,c2,rfl,_⟩:=Zd.open hT
 obtain ⟨u1,u2,u3,u4,u5⟩:=B8 hu
 obtain ⟨k1,k2⟩:=VK hu
 refine Zlg (R:=ZE _) ?_;unfold n61
 rw [YO]
 have o1:=Zt w0 (Zo x (.slice A1 x.bytes.length c1) (.slice A2 x.table.length c2)).toArray 43
 have e1:Ext w0 (w0.alloc (.cells (Zo x (.slice A1 x.bytes.length c1) (.slice A2 x.table.length c2)).toArray 43)):=(Ext.refl w0).alloc _
 generalize (w0.alloc (.cells (Zo x (.slice A1 x.bytes.length c1) (.slice A2 x.table.length c2)).toArray 43))=W at o1 e1 ⊢
 generalize w0.heap.size=p1 at o1 ⊢
 have q1:=(Za o1).1
 refine Qqh q1 ?_
 refine zcr (Gm W x.kind C1 k2) λ w2 e2=>?_
 have q:=(Za (e2.obj o1)).1
 have e:=e1.trans e2
 have hs:=Ku x.kind
 have z:∀ n:Nat,((n:Int) == 0)=decide (n=0):=λ n=>by rw [Bool.eq_iff_iff];simp
 have hcl:Wq x u=((ya (WT x.kind) 102||decide (x.fr=⟨#[]⟩))&&((ya (WT x.kind) 97||x.add == 0)&&((ya (WT x.kind) 118||x.value == 0)&&((ya (WT x.kind) 98||(x.bytes.length:Int) == 0)&&(ya (WT x.kind) 116||(x.table.length:Int) == 0))))):=by
  unfold Wq
  rw [u1,u2,u3,u4,u5,z,z]
  rfl
 rw [hcl]
 clear hcl hB hT u1 u2 u3 u4 u5 hu e1 e2 o1 q1 z k1 k2
 generalize WT x.kind=U at hs ⊢
 refine Zi (Jj w2 U 102 hs) ?_
 rintro _ _ ⟨rfl,rfl⟩
 simp (disch:=try exact DI) only [↓PR,QR,simprocAttr,↓Hv,↓Hw,↓Hx,↓Hy,↓Hz,↓HA,↓HB,↓HC,↓HD,↓Bk,q]
 repeat' first
  | (refine Zi (Jj _ U _ hs) ?_;rintro _ _ ⟨rfl,rfl⟩;simp (disch:=try exact DI) only [↓PR,QR,simprocAttr,↓Hv,↓Hw,↓Hx,↓Hy,↓Hz,↓HA,↓HB,↓HC,↓HD,↓Bk, *])
  | (refine qJ (λ _=>?_) (λ _=>?_)<;>simp (disch:=try exact DI) only [↓PR,QR,simprocAttr,↓Hv,↓Hw,↓Hx,↓Hy,↓Hz,↓HA,↓HB,↓HC,↓HD,↓Bk, *])
  | (refine Ai (λ _=>?_) (λ _=>?_)<;>simp (disch:=try exact DI) only [↓PR,QR,simprocAttr,↓Hv,↓Hw,↓Hx,↓Hy,↓Hz,↓HA,↓HB,↓HC,↓HD,↓Bk, *])
 all_goals
  refine ⟨?_,by first | exact e | trivial⟩
  first
   | (refine congrArg Value.bool ?_; (try simp only [bne] at *);grind)
   | (simp only [bne] at *;done)
   | (simp only [bne] at *;grind)
   | grind
def Zae:∀ n:Fin 256,(48≤n.1∧n.1≤57→IntKind.u8.wrap ((n.1:Int) - 48)=((n.1 - 48:Nat):Int))∧(97≤n.1∧n.1≤102→IntKind.u8.wrap ((n.1:Int) - 97)=((n.1 - 97:Nat):Int)):=by decide +kernel
def xo {n:Nat} (h:n < 1000):IntKind.i64.wrap (n:Int)=n:=Z0 C1 C1
def AF (w0:Wd) (c:UInt8):Ret Pg 95 #[.int .u8 (c.toNat:Int)] w0 λ r w'=>r = .int .i64 (Wr c)∧w'=w0:=by
 have hc:c.toNat < 256:=c.toNat_lt
 obtain ⟨u1,u2⟩:=Zae ⟨c.toNat,hc⟩
 simp only at u1 u2
 have w1 := @xo (c.toNat - 48) C1
 have w2 := @xo (c.toNat - 97) C1
 refine Zlh (R:=ZE _) ?_;unfold n62
 unfold Wr
 by_cases h1:48≤c.toNat
 · have d1:decide ((c.toNat:Int)≥48)=true:=by simp;omega
   by_cases h2:c.toNat≤57
   · have d2:decide ((c.toNat:Int)≤57)=true:=by simp;omega
     rw [if_pos ⟨h1,h2⟩]
     simp (disch:=try exact DI) only [↓PR,QR,simprocAttr,↓Dn,↓Do,↓Dp,d1,d2,u1 ⟨h1,h2⟩,w1]
     exact ⟨by congr 1;omega,by trivial⟩
   · have d2:decide ((c.toNat:Int)≤57)=false:=by simp;omega
     rw [if_neg C1]
     by_cases h3:97≤c.toNat
     · have d3:decide ((c.toNat:Int)≥97)=true:=by simp;omega
       by_cases h4:c.toNat≤102
       · have d4:decide ((c.toNat:Int)≤102)=true:=by simp;omega
         have hw:IntKind.i64.wrap (((c.toNat - 97:Nat):Int)+10)=((c.toNat - 97:Nat):Int)+10:=Z0 C1 C1
         rw [if_pos ⟨h3,h4⟩]
         simp (disch:=try exact DI) only [↓PR,QR,simprocAttr,↓Dn,↓Do,↓Dp,d1,d2,d3,d4,u2 ⟨h3,h4⟩,w2,hw]
         exact ⟨by congr 1;omega,by trivial⟩
       · have d4:decide ((c.toNat:Int)≤102)=false:=by simp;omega
         rw [if_neg C1]
         simp (disch:=try exact DI) only [↓PR,QR,simprocAttr,↓Dn,↓Do,↓Dp,d1,d2,d3,d4]
         exact ⟨by trivial,by trivial⟩
     · have d3:decide ((c.toNat:Int)≥97)=false:=by simp;omega
       rw [if_neg C1]
       simp (disch:=try exact DI) only [↓PR,QR,simprocAttr,↓Dn,↓Do,↓Dp,d1,d2,d3]
       exact ⟨by trivial,by trivial⟩
 · have d1:decide ((c.toNat:Int)≥48)=false:=by simp;omega
   have d3:decide ((c.toNat:Int)≥97)=false:=by simp;omega
   rw [if_neg C1,if_neg C1]
   simp (disch:=try exact DI) only [↓PR,QR,simprocAttr,↓Dn,↓Do,↓Dp,d1,d3]
   exact ⟨by trivial,by trivial⟩
def Oo {l:List UInt8} {k:Nat} {c:UInt8} (h:l[k]?=some c):x8 (l.take (k+1))=IntKind.i64.wrap (IntKind.i64.wrap (10*x8 (l.take k)) - ((c.toNat:Int) - 48)):=by
 rw [YU h,qa]
def WQ (w0:Wd) (l:List UInt8) (at':Nat) (hl:l.length≤1000000000) (ha:at'≤1000000000):Ret Pg 94 #[.string (mkB l),.int .i64 (at':Int)] w0 λ r w'=>r = .tuple #[.int .i64 (Vv (ZI (l.drop at'))),.int .i64 ((at'+(ZI (l.drop at')).length:Nat):Int)]∧Ext w0 w':=by
 have Vs:=Ym l
 have hlist:(mkB l).data.toList=l:=XL l
 generalize hm:l.drop at'=m
 have hget:∀ j:Nat,m[j]?=l[at'+j]?:=λ j=>by rw [← hm,List.getElem?_drop]
 have hml:m.length=l.length - at':=by rw [← hm,List.length_drop]
 have loop:∀ (w:Wd) (b:Bool) (s:Nat),Ext w0 w→s≤m.length→ZI m=(if b=true then [45] else [])++(m.drop s).takeWhile QG→s=(if b=true then 1 else 0) →
  Wy (λ t1001 t6 w Qt=>SO (.string (mkB l)) t6 (.bool b) t1001 Qt (ZE λ r w'=>r = .tuple #[.int .i64 (Vv (ZI m)),.int .i64 ((at'+(ZI m).length:Nat):Int)]∧Ext w0 w') w) (.int .i64 ((at'+s:Nat):Int)) (.int .i64 0) w:=by
  intro w b s e hs hp hsb
  generalize hD:(m.drop s).takeWhile QG=D at hp
  have hT:=λ k=>jN QG (m.drop s) k
  have htk:=jO QG (m.drop s)
  rw [hD] at hT htk
  have hDl:D.length≤(m.drop s).length:=by
   have:=congrArg List.length htk
   rw [List.length_take] at this
   omega
  rw [List.length_drop] at hDl
  have YJ:(ZI m).length=s+D.length:=by rw [hp,hsb];cases b<;>simp<;>omega
  have hval:Vv (ZI m)=if b=true then x8 D else IntKind.i64.wrap (0 - x8 D):=by
   rw [hp]
   unfold Vv
   cases b with
   | true=>rw [if_pos rfl,if_pos (by rfl),if_pos rfl];rfl
   | false=>
    have hh:((if false=true then [45] else [])++D:List UInt8).head?≠some 45:=by
     simp only [Bool.false_eq_true,if_false,List.nil_append]
     have:D.all QG=true:=by rw [← hD];exact List.all_takeWhile
     exact Pv this K7
    rw [if_neg hh,if_neg (by simp)]
    rfl
  refine Xu (λ i v w'=>∃ k:Nat,i = .int .i64 ((at'+s+k:Nat):Int)∧v = .int .i64 (x8 (D.take k))∧k≤D.length∧Ext w0 w') (λ i _ _=>(at'+s+D.length) - (intOf i).toNat) ⟨0,rfl,rfl,by omega,e⟩ ?_
  clear e
  rintro _ _ w ⟨k,rfl,rfl,hk,e⟩
  unfold SO
  have stop:k=D.length→SN (.int .i64 (x8 (D.take k))) (.bool b) (.int .i64 ((at'+s+k:Nat):Int)) (ZE λ r w'=>r = .tuple #[.int .i64 (Vv (ZI m)),.int .i64 ((at'+(ZI m).length:Nat):Int)]∧Ext w0 w') w:=by
   intro hke
   rw [hke,List.take_length,hval,YJ,← Nat.add_assoc]
   unfold SN
   cases b with
   | true=>simp (disch:=try exact DI) only [↓PR,QR,simprocAttr];exact ⟨by trivial,e⟩
   | false=>simp (disch:=try exact DI) only [↓PR,QR,simprocAttr];exact ⟨by trivial,e⟩
  rcases hT k hk with ⟨Yo,c,hc,hd⟩ | ⟨hke,hno⟩
  · have hgc:m[s+k]?=some c:=by rw [← List.getElem?_drop];exact hc
    have hgl:l[at'+s+k]?=some c:=by rw [Nat.add_assoc,← hget];exact hgc
    have hkl:at'+s+k < l.length:=(Qqx hgl).1
    have hix:(mkB l).data.toList[at'+s+k]?=some c:=by rw [hlist];exact hgl
    have hDk:D[k]?=some c:=by
     rw [← htk,List.getElem?_take_of_lt Yo]
     exact hc
    have d0:decide (((at'+s+k:Nat):Int) < ((mkB l).size:Int))=true:=by rw [Vs];simp only [decide_eq_true_eq];omega
    have hd':=hd
    rw [QQ] at hd'
    have d1:decide ((c.toNat:Int)≥48)=true:=by simp;omega
    have d2:decide ((c.toNat:Int)≤57)=true:=by simp;omega
    have u1:=(Zae ⟨c.toNat,c.toNat_lt⟩).1 hd'
    simp only at u1
    have w1 := @xo (c.toNat - 48) C1
    have hw:IntKind.i64.wrap (((at'+s+k:Nat):Int)+1)=((at'+s+(k+1):Nat):Int):=by rw [Z0 C1 C1];omega
    have hv:=Oo hDk
    rw [show (c.toNat:Int) - 48=((c.toNat - 48:Nat):Int) by omega] at hv
    simp (disch:=try exact DI) only [↓PR,QR,simprocAttr,d0,d1,d2,YP underlying9 (mkB l) .i64 (at'+s+k) hix,HE,Zdr,u1,w1,hw]
    exact ⟨⟨k+1,rfl,by rw [hv],Yo,e⟩,by show at'+s+D.length - (at'+s+(k+1)) < at'+s+D.length - (at'+s+k);omega⟩
  · have stop:=stop hke
    rcases hno with hno | ⟨c,hc,hd⟩
    · have hkl:m.length≤s+k:=by
       rw [List.getElem?_drop] at hno
       exact List.getElem?_eq_none_iff.1 hno
      have d0:decide (((at'+s+k:Nat):Int) < ((mkB l).size:Int))=false:=by rw [Vs];simp only [decide_eq_false_iff_not];omega
      simp (disch:=try exact DI) only [↓PR,QR,simprocAttr,d0,HE]
      exact stop
    · have hgc:m[s+k]?=some c:=by rw [← List.getElem?_drop];exact hc
      have hgl:l[at'+s+k]?=some c:=by rw [Nat.add_assoc,← hget];exact hgc
      have hkl:at'+s+k < l.length:=(Qqx hgl).1
      have hix:(mkB l).data.toList[at'+s+k]?=some c:=by rw [hlist];exact hgl
      have d0:decide (((at'+s+k:Nat):Int) < ((mkB l).size:Int))=true:=by rw [Vs];simp only [decide_eq_true_eq];omega
      have hd':¬ (48≤c.toNat∧c.toNat≤57):=λ h=>by rw [QQ.2 h] at hd;cases hd
      by_cases h1:48≤c.toNat
      · have d1:decide ((c.toNat:Int)≥48)=true:=by simp;omega
        have d2:decide ((c.toNat:Int)≤57)=false:=by simp;omega
        simp (disch:=try exact DI) only [↓PR,QR,simprocAttr,d0,d1,d2,YP underlying9 (mkB l) .i64 (at'+s+k) hix,HE]
        exact stop
      · have d1:decide ((c.toNat:Int)≥48)=false:=by simp;omega
        simp (disch:=try exact DI) only [↓PR,QR,simprocAttr,d0,d1,YP underlying9 (mkB l) .i64 (at'+s+k) hix,HE]
        exact stop
 refine Zlk (R:=ZE _) ?_;unfold n65
 refine ZB ?_
 have eD:Ext w0 (drew w0):=(Ext.refl w0).drew
 generalize drew w0=V at eD ⊢
 unfold Zds
 cases m with
 | nil=>
  have hal:l.length≤at':=by
   rw [List.length_nil] at hml
   omega
  have d0:decide ((at':Int) < ((mkB l).size:Int))=false:=by rw [Vs];simp only [decide_eq_false_iff_not];omega
  simp (disch:=try exact DI) only [↓PR,QR,simprocAttr,d0,Nf]
  exact loop V false 0 eD (Nat.zero_le _) rfl rfl
 | cons c r=>
  have hal:at' < l.length:=by rw [List.length_cons] at hml;omega
  have hc:l[at']?=some c:=(hget 0).symm
  have hix:(mkB l).data.toList[at']?=some c:=by rw [hlist];exact hc
  have d0:decide ((at':Int) < ((mkB l).size:Int))=true:=by rw [Vs];simp only [decide_eq_true_eq];omega
  have hw:IntKind.i64.wrap ((at':Int)+1)=((at'+1:Nat):Int):=by rw [Z0 C1 C1];omega
  by_cases h45:c=45
  · subst h45
    have e45:((((45:UInt8).toNat:Nat):Int) == 45)=true:=K7
    simp (disch:=try exact DI) only [↓PR,QR,simprocAttr,d0,Yc λ QP w' k'=>YP (P:=Pg) (QP:=QP) (w:=w') (k:=k') underlying9 (mkB l) .i64 at' hix,e45,Nf,hw]
    exact loop V true 1 eD (by simp) rfl rfl
  · have e45:((c.toNat:Int) == 45)=false:=by
     rw [beq_eq_false_iff_ne]
     intro h
     exact h45 (UInt8.toNat.inj (by rw [show (45:UInt8).toNat=45 from rfl];omega))
    simp (disch:=try exact DI) only [↓PR,QR,simprocAttr,d0,Yc λ QP w' k'=>YP (P:=Pg) (QP:=QP) (w:=w') (k:=k') underlying9 (mkB l) .i64 at' hix,e45,Nf]
    refine loop V false 0 eD (Nat.zero_le _) ?_ rfl
    have:ZI (c::r)=(c::r).takeWhile QG:=qg (by simpa using h45)
    rw [this]
    rfl
def Rc (w0:Wd) (l:List UInt8) (hl:l.length≤100000000):Ret Pg 96 #[.string (mkB l)] w0 λ r w'=>r = .agg (ZW (UJ l)).toArray∧Ext w0 w':=by
 have hle:=Mj l
 have h2:=Mj (r1Z l)
 have h3:(r1Z l).length≤l.length:=by unfold r1Z;rw [List.length_drop];omega
 have q1:l.drop ((ZI l).length+1)=r1Z l:=rfl
 have q2:l.drop ((ZI l).length+1+(ZI (r1Z l)).length+1)=r1Z (r1Z l):=by
  rw [show r1Z (r1Z l)=(r1Z l).drop ((ZI (r1Z l)).length+1) from rfl,← q1,List.drop_drop]
  congr 1
 have hw1:IntKind.i64.wrap (((0+(ZI l).length:Nat):Int)+1)=(((ZI l).length+1:Nat):Int):=by rw [Z0 C1 C1];omega
 have hw2:IntKind.i64.wrap ((((ZI l).length+1+(ZI (r1Z l)).length:Nat):Int)+1)=(((ZI l).length+1+(ZI (r1Z l)).length+1:Nat):Int):=by rw [Z0 C1 C1];omega
 refine Zlm (R:=ZE _) ?_;unfold n67
 refine Qqv ?_
 have eV:Ext w0 (w0.alloc (.cells #[.int .i64 0,.int .i64 0,.int .i64 0] 78)):=(Ext.refl w0).alloc _
 have oV:=Zt w0 #[.int .i64 0,.int .i64 0,.int .i64 0] 78
 have lp:w0.heap.size≤w0.heap.size:=Nat.le_refl _
 change ZU _ _ _ _ (w0.alloc (.cells #[.int .i64 0,.int .i64 0,.int .i64 0] 78)) _
 generalize (w0.alloc (.cells #[.int .i64 0,.int .i64 0,.int .i64 0] 78))=V at eV oV ⊢
 generalize hp:w0.heap.size=p at oV lp ⊢
 refine zcr (WQ V l 0 C1 C1) λ w1 e1=>?_
 rw [List.drop_zero]
 unfold Zdv
 refine Qqh hw1 ?_
 refine zcr (WQ w1 l ((ZI l).length+1) C1 C1) λ w2 e2=>?_
 rw [q1]
 unfold Zdu
 refine Qqh hw2 ?_
 refine zcr (WQ w2 l ((ZI l).length+1+(ZI (r1Z l)).length+1) C1 C1) λ w3 e3=>?_
 rw [q2]
 unfold Zdt
 have o3:=(e1.trans (e2.trans e3)).obj oV
 refine Qqb (Za o3).1 (Za o3).2 ?_
 have h3':=e1.trans (e2.trans e3)
 exact ⟨rfl,(((eV.trans h3').setCell (p:=⟨p,0,none⟩) (Nat.le_of_eq hp) _).setCell (p:=⟨p,1,none⟩) (Nat.le_of_eq hp) _).setCell (p:=⟨p,2,none⟩) (Nat.le_of_eq hp) _⟩
section
variable {P:Program} {C:WPr} [Yk C] {k:Vl→Prop}
def Ml (t:TypeId) (c:Bool) (kd:IntKind) (a b:Int) (hb:b≠0):qV P C (ZA .quo t c (.int kd a) (.int kd b)) k=k (.int kd (kd.wrap (a.tdiv b))):=Yc λ _ _ _=>ZeW t c kd a b hb
end
def yO {w:Wd} {p:Nat} {d:UInt8} (h:w.heap[p]?=some (.cells #[.int .u8 (d.toNat:Int)] 5 (0,0))):Ga w (.slice (some ⟨p,0,none⟩) 1 1) [d]:=by
 refine ⟨_,_,rfl,Nat.le_refl _,by decide,λ _=>⟨_,_,rfl,λ k x hx=>?_⟩⟩
 cases k with
 | succ k=>simp at hx
 | zero=>
  simp at hx
  subst hx
  refine ⟨[.int .u8 (d.toNat:Int)],rfl,λ j v hv=>?_,rfl⟩
  rw [(Za h).1]
  cases j with
  | zero=>simpa using hv
  | succ j=>simp at hv
def Is:∀ d:Fin 10,IntKind.u8.wrap ((48+d.1:Nat):Int)=((UInt8.ofNat (48+d.1)).toNat:Int):=by decide +kernel
def CT {m:Nat} (h:10≤m):Go.Lib.decDigits m=Go.Lib.decDigits (m / 10)++[UInt8.ofNat (48+m % 10)]:=by
 rw [Go.Lib.decDigits,dif_neg C1]
def BW (m:Nat):(m:Int).tdiv 10=((m / 10:Nat):Int)∧(m:Int).tmod 10=((m % 10:Nat):Int)∧(-(m:Int)).tdiv 10 = -((m / 10:Nat):Int)∧(-(m:Int)).tmod 10 = -((m % 10:Nat):Int):=by
 have h1:(m:Int).tdiv 10=((m / 10:Nat):Int):=by rw [Int.tdiv_eq_ediv_of_nonneg C1];omega
 have h2:(m:Int).tmod 10=((m % 10:Nat):Int):=by rw [Int.tmod_eq_emod_of_nonneg C1];omega
 exact ⟨h1,h2,by rw [Int.neg_tdiv,h1],by rw [Int.neg_tmod,h2]⟩
def IV {n:Int} (h:10≤n.natAbs):Go.Lib.itoa n=Go.Lib.itoa (n.tdiv 10)++[UInt8.ofNat (48+n.natAbs % 10)]:=by
 obtain ⟨t1,_,t3,_⟩:=BW n.natAbs
 by_cases hn:n < 0
 · have e:n = -(n.natAbs:Int):=C1
   have h2:n.tdiv 10 = -((n.natAbs / 10:Nat):Int):=by rw [e];rw [Int.natAbs_neg,Int.natAbs_natCast];exact t3
   rw [h2,V0 hn,V0 C1,CT h]
   rw [show (-((n.natAbs / 10:Nat):Int)).natAbs=n.natAbs / 10 by omega]
   rfl
 · have e:n=(n.natAbs:Int):=C1
   have h2:n.tdiv 10=((n.natAbs / 10:Nat):Int):=by rw [e,Int.natAbs_natCast];exact t1
   rw [h2,V2 hn,V2 C1]
   rw [show n.toNat=n.natAbs by omega,CT h]
   congr 2
def FR (n:Int) (h0 : -9223372036854775808≤n) (h1:n≤9223372036854775807):IntKind.i64.wrap (n.tdiv 10)=n.tdiv 10 ∧ -9223372036854775808≤n.tdiv 10∧n.tdiv 10≤9223372036854775807∧(n.tdiv 10).natAbs=n.natAbs / 10:=by
 obtain ⟨t1,_,t3,_⟩:=BW n.natAbs
 by_cases hn:n < 0
 · have h2:n.tdiv 10 = -((n.natAbs / 10:Nat):Int):=by
    have e:n = -(n.natAbs:Int):=C1
    rw [← e] at t3
    exact t3
   rw [h2]
   exact ⟨Z0 C1 C1,by omega,by omega,by omega⟩
 · have h2:n.tdiv 10=((n.natAbs / 10:Nat):Int):=by
    have e:n=(n.natAbs:Int):=C1
    rw [← e] at t1
    exact t1
   rw [h2]
   exact ⟨Z0 C1 C1,by omega,by omega,by omega⟩
section
variable {w0 W:Wd} {n:Int}
def Pu (e:Ext w0 W) (h:10≤n.natAbs) (h0 : -9223372036854775808≤n) (h1:n≤9223372036854775807) (ih:∀ w,Ret Pg 105 #[.int .i64 (n.tdiv 10)] w λ r w'=>r = .string (WX (n.tdiv 10))∧Ext w w') :
 Z4 W λ C3 w=>SF (.int .i64 n) (.int .i64 ((n.natAbs % 10:Nat):Int)) C3 (ZE λ r w'=>r = .string (WX n)∧Ext w0 w') w:=by
 obtain ⟨dw,d0,d1,d2⟩:=FR n h0 h1
 refine ZB ?_
 have eD:Ext W (drew W):=(Ext.refl W).drew
 have eD':=e.trans eD
 generalize drew W=D at eD eD' ⊢
 have hm:n.natAbs % 10 < 10:=Nat.mod_lt _ C1
 have hw:IntKind.i64.wrap (48+((n.natAbs % 10:Nat):Int))=((48+n.natAbs % 10:Nat):Int):=by rw [Z0 C1 C1];omega
 have hu:=Is ⟨n.natAbs % 10,hm⟩
 simp only at hu
 have ZT:WX (n.tdiv 10)++⟨#[UInt8.ofNat (48+n.natAbs % 10)]⟩=WX n:=by
  have:WX n=mkB (Go.Lib.itoa n):=rfl
  rw [this,IV h,Kf]
  rfl
 have hz:(WX (n.tdiv 10)).size+(⟨#[UInt8.ofNat (48+n.natAbs % 10)]⟩:BAr).size≤9223372036854775807:=by
  have:=Q1 d0 d1
  have h1:(⟨#[UInt8.ofNat (48+n.natAbs % 10)]⟩:BAr).size=1:=rfl
  omega
 generalize UInt8.ofNat (48+n.natAbs % 10)=c at hu ZT hz
 unfold SF
 rw [Ml _ _ _ _ _ K7,dw]
 refine Qqb hw hu ?_
 refine ⟨?_,?_⟩
 · refine zcr (ih D) λ w1 e1=>?_
   refine ⟨e1,?_⟩
   unfold Zc9
   refine Qqv ?_
   rw [hw,hu]
   have oV:=Zt w1 #[.int .u8 (c.toNat:Int)] 5
   have eV:Ext D (w1.alloc (.cells #[.int .u8 (c.toNat:Int)] 5)):=e1.alloc _
   generalize (w1.alloc (.cells #[.int .u8 (c.toNat:Int)] 5))=V at oV eV ⊢
   refine Kn eV ?_
   rw [UI (C:=EC V) (v := .string ⟨#[c]⟩) λ w' e'=>XX λ QP k=>Qf (yO (Ext.obj e' oV)),XZ _ _ _ _ hz,ZT]
   exact ⟨_,rfl,rfl,eD'.trans eV⟩
 · have oV:=Zt D #[.int .u8 (c.toNat:Int)] 5
   have eV:Ext D (D.alloc (.cells #[.int .u8 (c.toNat:Int)] 5)):=(Ext.refl D).alloc _
   generalize (D.alloc (.cells #[.int .u8 (c.toNat:Int)] 5))=V at oV eV ⊢
   refine Kn eV ?_
   rw [UI (C:=EC V) (v := .string ⟨#[c]⟩) λ w' e'=>XX λ QP k=>Qf (yO (Ext.obj e' oV))]
   refine zcr (ih V) λ w1 e1=>?_
   refine ⟨e1,?_⟩
   rw [XZ _ _ _ _ hz,ZT]
   exact ⟨_,rfl,rfl,eD'.trans (eV.trans e1)⟩
end
def P8 (b:Nat):∀ (w0:Wd) (n:Int),n.natAbs=b → -9223372036854775808≤n→n≤9223372036854775807→Ret Pg 105 #[.int .i64 n] w0 λ r w'=>r = .string (WX n)∧Ext w0 w':=by
 induction b using Nat.strongRecOn with
 | ind b ih=>
  intro w0 n hb h0 h1
  obtain ⟨t1,t2,t3,t4⟩:=BW n.natAbs
  obtain ⟨dw,d0,d1,d2⟩:=FR n h0 h1
  refine Zld (R:=ZE _) ?_;unfold n58
  by_cases hs:n.natAbs < 10
  · have e1:decide (n > -10)=true:=by simp only [decide_eq_true_eq];omega
    have e2:decide (n < 10)=true:=by simp only [decide_eq_true_eq];omega
    have hu:=Is ⟨n.natAbs,hs⟩
    simp only at hu
    have hdd:Go.Lib.decDigits n.natAbs=[UInt8.ofNat (48+n.natAbs)]:=Go.Lib.decDigits_one hs
    generalize UInt8.ofNat (48+n.natAbs)=c at hu hdd
    by_cases hn:n < 0
    · have e3:decide (n < 0)=true:=by simpa using hn
      have hw:IntKind.i64.wrap (48 - n)=((48+n.natAbs:Nat):Int):=by rw [Z0 C1 C1];omega
      have ZT:(⟨#[45]⟩:BAr)++⟨#[c]⟩=WX n:=by
       show _=mkB (Go.Lib.itoa n)
       rw [V0 hn,hdd]
       rfl
      unfold Nb Zc7
      refine QqK e1 e2 e3 hw hu ?_
      have oV:=Zt w0 #[.int .u8 (c.toNat:Int)] 5
      have eV:Ext w0 (w0.alloc (.cells #[.int .u8 (c.toNat:Int)] 5)):=(Ext.refl w0).alloc _
      rw [Qf (yO oV),XO _ _ _ _ (by show 1+1≤9223372036854775807;decide),ZT]
      exact ⟨_,rfl,rfl,eV⟩
    · have e3:decide (n < 0)=false:=by simpa using hn
      have hw:IntKind.i64.wrap (48+n)=((48+n.natAbs:Nat):Int):=by rw [Z0 C1 C1];omega
      have ZT:(⟨#[c]⟩:BAr)=WX n:=by
       show _=mkB (Go.Lib.itoa n)
       rw [V2 hn,show n.toNat=n.natAbs by omega,hdd]
       rfl
      unfold Nb Zc8
      refine QqK e1 e2 e3 hw hu ?_
      have oV:=Zt w0 #[.int .u8 (c.toNat:Int)] 5
      have eV:Ext w0 (w0.alloc (.cells #[.int .u8 (c.toNat:Int)] 5)):=(Ext.refl w0).alloc _
      rw [Qf (yO oV)]
      exact ⟨_,rfl,by rw [← ZT],eV⟩
  · have main:=λ W (e:Ext w0 W)=>Pu e C1 h0 h1 λ w=>ih (n.natAbs / 10) C1 w (n.tdiv 10) d2 d0 d1
    unfold Nb Zda
    by_cases hn:n < 0
    · have e1:decide (n > -10)=false:=by simp only [decide_eq_false_iff_not];omega
      have ht:n.tmod 10 = -((n.natAbs % 10:Nat):Int):=by
       have e:n = -(n.natAbs:Int):=C1
       rw [← e] at t4
       exact t4
      by_cases hz:n.natAbs % 10=0
      · have e3:decide (-((n.natAbs % 10:Nat):Int) < 0)=false:=by simp only [decide_eq_false_iff_not];omega
        refine Qqm e1 ht e3 ?_
        rw [ht,show -((n.natAbs % 10:Nat):Int)=((n.natAbs % 10:Nat):Int) by omega]
        exact main w0 (Ext.refl _)
      · have e3:decide (-((n.natAbs % 10:Nat):Int) < 0)=true:=by simp only [decide_eq_true_eq];omega
        have hw:IntKind.i64.wrap (0 - -((n.natAbs % 10:Nat):Int))=((n.natAbs % 10:Nat):Int):=by rw [Z0 C1 C1];omega
        refine Qqp e1 ht e3 hw ?_
        rw [ht,hw]
        exact main w0 (Ext.refl _)
    · have e1:decide (n > -10)=true:=by simp only [decide_eq_true_eq];omega
      have e2:decide (n < 10)=false:=by simp only [decide_eq_false_iff_not];omega
      have ht:n.tmod 10=((n.natAbs % 10:Nat):Int):=by
       have e:n=(n.natAbs:Int):=C1
       rw [← e] at t2
       exact t2
      have e3:decide (((n.natAbs % 10:Nat):Int) < 0)=false:=by simp only [decide_eq_false_iff_not];omega
      refine Qqp e1 e2 ht e3 ?_
      rw [ht]
      exact main w0 (Ext.refl _)
def Ji (w0:Wd) (n:Int) (h0 : -9223372036854775808≤n) (h1:n≤9223372036854775807):Ret Pg 105 #[.int .i64 n] w0 λ r w'=>r = .string (WX n)∧Ext w0 w':=P8 n.natAbs w0 n rfl h0 h1
section
variable {P:Program} {QP:PEn} {w:Wd} {k:KV}
def Zbi {t:TypeId} (hu:P.underlying t=some .string) (l:List UInt8) (a b:Nat) (h1:a≤b) (h2:b≤l.length):opV P (sliceAt t (.string ⟨l.toArray⟩) (some (.int .u8 (a:Int))) (some (.int .u8 (b:Int))) none) QP w k=k (.string ⟨((l.drop a).take (b - a)).toArray⟩) w:=by
 have g1:(a:Int)≤(b:Int):=C1
 have g2:(b:Int)≤((⟨l.toArray⟩:BAr).size:Int):=by simp [ByteArray.size];omega
 have g3:(⟨l.toArray⟩:BAr).extract a b=⟨((l.drop a).take (b - a)).toArray⟩:=by
  apply ByteArray.ext
  simp [List.take_drop]
 refine ZV ?_
 simp [sliceAt,run_underlying hu,Instr.slice,Instr.sliceBounds,run_sliceBound,g1,g2,g3]
end
def PL:List UInt8:=[48,49,50,51,52,53,54,55,56,57,97,98,99,100,101,102]
def Zev:∀ n:Fin 16,(PL.drop n.1).take (n.1+1 - n.1)=[Wb n.1]:=K7
def TD {C:WPr} [Yk C] {k:Vl→Prop} (n:Nat) (h:n < 16):qV Pg C (sliceAt 9 (.string { data := #[48,49,50,51,52,53,54,55,56,57,97,98,99,100,101,102] }) (some (.int .u8 (n:Int))) (some (.int .u8 ((n+1:Nat):Int))) none) k=k (.string ⟨#[Wb n]⟩):=by
 refine Eq.trans (Yc λ QP w' k'=>Zbi (P:=Pg) (QP:=QP) (w:=w') (k:=k') underlying9 PL n (n+1) C1 (by show n+1≤16;omega)) ?_
 rw [Zev ⟨n,h⟩]
def Zfa:∀ n:Fin 256,IntKind.u8.wrap ((n.1:Int).tdiv 16)=((n.1 / 16:Nat):Int)∧(n.1:Int).tmod 16=((n.1 % 16:Nat):Int)∧IntKind.u8.wrap (((n.1 / 16:Nat):Int)+1)=((n.1 / 16+1:Nat):Int)∧IntKind.u8.wrap (((n.1 % 16:Nat):Int)+1)=((n.1 % 16+1:Nat):Int):=by decide +kernel
def Hc (x:List UInt8) (xs:List (List UInt8)):Go.Lib.join (x::xs) [32]=x++xs.flatMap λ y=>32::y:=by
 rw [Go.Lib.join_cons]
 unfold Go.Lib.joinTail
 rfl
def Wh (x:FrD):List UInt8:=x.to.data.toList++32::kwW x.kind++(if UL x.kind=true then 32::x.fr.data.toList else [])
def addL (x:FrD):List UInt8:=if x.kind=2 then 32::Go.Lib.itoa x.add else if x.kind=3 then 32::Go.Lib.itoa x.value else if x.kind=4 then 32::YE x.bytes else if x.kind=5 then x.table.flatMap λ y=>32::QH y else []
def AE {x:FrD} (h:1≤x.kind∧x.kind≤7):XC x=Wh x++addL x:=by
 have hk:x.kind=1∨x.kind=2∨x.kind=3∨x.kind=4∨x.kind=5∨x.kind=6∨x.kind=7:=C1
 unfold XC Xh Wh addL WS UL
 rw [Hc]
 rcases hk with h | h | h | h | h | h | h<;>rw [h]
 · simp
 · simp
 · simp
 · simp
 · simp [List.flatMap_map]
 · simp
 · simp
section
variable {w0 W w:Wd} {x:FrD} {p:Nat} {bv tv:Vl}
abbrev NJ (w0:Wd) (x:FrD):Ending→Wd→Prop:=ZE λ r w'=>r = .tuple #[.string (mkB (qL x)),.bool (Yz x)]∧Ext w0 w'
def yg (e:Ext w0 w) (h:Yz x=false):Value.tuple #[.string ⟨#[]⟩,.bool false] = .tuple #[.string (mkB (qL x)),.bool (Yz x)]∧Ext w0 w:=by
 refine ⟨?_,e⟩
 unfold qL
 rw [h]
 rfl
def I1 (e:Ext w0 W) (o:W.heap[p]?=some (.cells (Zo x bv tv).toArray 43 (0,0))) (hB:zJ W bv x.bytes) (hT:Q9 W tv x.table)
 (hK:∀ w,Ext W w→Yz x=true→Z4 w λ C7 w=>JD (Qq5 p) C7 (NJ w0 x) w) :
 ZU Pg 103 #[.agg (Zo x bv tv).toArray] (Zc (NJ w0 x)) W λ t8 w=>zq (Qq5 p) t8 (NJ w0 x) w:=by
 have hV:∀ w,Ext W w→QI w (.agg (Zo x bv tv).toArray) x:=λ w e=>⟨_,_,rfl,hB.ext e,hT.ext e⟩
 have v1:=Zd.oneCell hB
 have v2:=Zd.oneCell hT
 refine zcr (IP W _ x (hV W (Ext.refl W))) λ w1 e1=>?_
 have q1:=(Za (e1.obj o)).1
 unfold zq
 cases hu:Xg x.kind with
 | none=>
  have hp:Yz x=false:=by unfold Yz;rw [hu]
  simp (disch:=try exact DI) only [↓PR,QR,simprocAttr,↓Dq,↓Dr,↓Ds,↓Dt,↓Du,↓Dv,↓Bl,↓Bm,↓Bn,↓xQ,↓xR,↓Kk,↓JC,↓xS,↓xT,↓xU,↓JD,↓JE,↓zp,↓xV,↓xW,↓xX,↓zq]
  exact yg (e.trans e1) hp
 | some u=>
  have hp:Yz x=(Wq x u&&(Yq x.to&&(decide (x.to≠IN)&&(!u.fr||Yq x.fr)))):=by unfold Yz;rw [hu]
  refine Qqh q1 ?_
  refine zcr (Mm w1 _ x u (hV w1 e1) hu) λ w2 e2=>?_
  have e2:=e1.trans e2
  have q2:=(Za (e2.obj o)).1
  cases hc:Wq x u with
  | false=>
   rw [hc,Bool.false_and] at hp
   simp (disch:=try exact DI) only [↓PR,QR,simprocAttr,↓Dq,↓Dr,↓Ds,↓Dt,↓Du,↓Dv,↓Bl,↓Bm,↓Bn,↓xQ,↓xR,↓Kk,↓JC,↓xS,↓xT,↓xU,↓JD,↓JE,↓zp,↓xV,↓xW,↓xX,↓zq]
   exact yg (e.trans e2) hp
  | true=>
   rw [hc,Bool.true_and] at hp
   simp (disch:=try exact DI) only [↓PR,QR,simprocAttr,xX,q2]
   refine zcr (U6 w2 x.to) λ w3 e3=>?_
   have e3:=e2.trans e3
   have q3:=(Za (e3.obj o)).1
   cases hn:Yq x.to with
   | false=>
    rw [hn,Bool.false_and] at hp
    simp (disch:=try exact DI) only [↓PR,QR,simprocAttr,↓Dq,↓Dr,↓Ds,↓Dt,↓Du,↓Dv,↓Bl,↓Bm,↓Bn,↓xQ,↓xR,↓Kk,↓JC,↓xS,↓xT,↓xU,↓JD,↓JE,↓zp,↓xV,↓xW,↓xX,↓zq]
    exact yg (e.trans e3) hp
   | true=>
    rw [hn,Bool.true_and] at hp
    by_cases he:x.to=IN
    · have d1:decide (x.to=⟨#[101,110,100]⟩)=true:=decide_eq_true he
      have d2:decide (x.to≠IN)=false:=by simpa using he
      rw [d2,Bool.false_and] at hp
      simp (disch:=try exact DI) only [↓PR,QR,simprocAttr,↓Dq,↓Dr,↓Ds,↓Dt,↓Du,↓Dv,↓Bl,↓Bm,↓Bn,↓xQ,↓xR,↓Kk,↓JC,↓xS,↓xT,↓xU,↓JD,↓JE,↓zp,↓xV,↓xW,↓xX,↓zq,q3,d1]
      exact yg (e.trans e3) hp
    · have d1:decide (x.to=⟨#[101,110,100]⟩)=false:=decide_eq_false he
      have d2:decide (x.to≠IN)=true:=by simpa using he
      rw [d2,Bool.true_and] at hp
      obtain ⟨k1,k2⟩:=VK hu
      simp (disch:=try exact DI) only [↓PR,QR,simprocAttr,xW,xV,q3,d1]
      refine zcr (Gm w3 x.kind C1 k2) λ w4 e4=>?_
      have e4:=e3.trans e4
      have q4:=(Za (e4.obj o)).1
      refine Zi (Jj w4 _ 102 (Ku _)) ?_
      rintro _ _ ⟨rfl,rfl⟩
      rw [(B8 hu).1]
      cases hf:u.fr with
      | false=>
       rw [hf] at hp
       simp (disch:=try exact DI) only [↓PR,QR,simprocAttr,zp,JE,q4]
       exact hK _ e4 hp
      | true=>
       rw [hf] at hp
       simp (disch:=try exact DI) only [↓PR,QR,simprocAttr,zp,q4]
       refine zcr (U6 _ x.fr) λ w5 e5=>?_
       cases hn2:Yq x.fr with
       | false=>
        rw [hn2] at hp
        simp (disch:=try exact DI) only [↓PR,QR,simprocAttr,JE]
        exact yg (e.trans (e4.trans e5)) hp
       | true=>
        rw [hn2] at hp
        simp (disch:=try exact DI) only [↓PR,QR,simprocAttr,JE]
        exact hK _ (e4.trans e5) hp
end
def Vx (a:List UInt8) (b:BAr):mkB a++b=mkB (a++b.data.toList):=by rw [Kf];rfl
def J7 {a:List UInt8} {b:BAr} (h:a.length+b.size≤9223372036854775807):(mkB a).size+b.size≤9223372036854775807:=by rw [Ym];exact h
def PN {l:List UInt8} {k:Nat} {c:UInt8} (h:l[k]?=some c):Vf (l.take (k+1))=Vf (l.take k)++[Wb (c.toNat / 16),Wb (c.toNat % 16)]:=by rw [YU h,Da]
def Cl (l:List UInt8) (k:Nat):(Vf (l.take k)).length≤(Vf l).length:=by rw [Je,Je,List.length_take];omega
def Ck {α:Type} {f:α→List UInt8} (l:List α) (k:Nat):((l.take k).flatMap f).length≤(l.flatMap f).length:=by
 have:l.flatMap f=(l.take k).flatMap f++(l.drop k).flatMap f:=by rw [← List.flatMap_append,List.take_append_drop]
 rw [this,List.length_append]
 omega
section
variable {w0 W w:Wd} {x:FrD} {p:Nat} {bv tv:Vl}
def P4 (e:Ext w0 w) (h:Yz x=true) (hk:Wh x++addL x=XC x):Value.tuple #[.string (mkB (Wh x++addL x)),.bool true] = .tuple #[.string (mkB (qL x)),.bool (Yz x)]∧Ext w0 w:=by
 refine ⟨?_,e⟩
 unfold qL
 rw [h,if_pos rfl,hk]
def P2 (e:Ext w0 w) (o:w.heap[p]?=some (.cells (Zo x bv tv).toArray 43 (0,0))) (hB:zJ w bv x.bytes) {K10:KV} {R:RT} (hl:(Wh x).length+(YE x.bytes).length≤1000000000)
 (hK:∀ w',Ext w w'→K10 (.string (mkB (Wh x++32::YE x.bytes))) w'):Bm (Qq5 p) (.string (mkB (Wh x))) K10 R w:=by
 have v1:=Zd.oneCell hB
 obtain ⟨A,c,rfl,hlc,hcm,hlm,Xj⟩:=Zd.open hB
 have hdl:x.bytes.length≤(YE x.bytes).length:=N4 _
 have hhl:(Vf x.bytes).length≤(YE x.bytes).length+1:=by
  unfold YE
  split
  · rename_i h;rw [h];decide
  · omega
 unfold Bm
 rw [XO _ _ _ _ (J7 (by show _+1≤_;omega)),Vx]
 refine Xu (λ a i w'=>∃ k:Nat,a = .string (mkB (Wh x++32::Vf (x.bytes.take k)))∧i = .int .i64 k∧k≤x.bytes.length∧Ext w w') (λ _ i _=>x.bytes.length - (intOf i).toNat) ⟨0,rfl,rfl,by omega,Ext.refl _⟩ ?_
 rintro _ _ w1 ⟨k,rfl,rfl,hk,e1⟩
 have q:=(Za (e1.obj o)).1
 unfold Ds
 rcases ZY hk with ⟨y,hy,_,Yo,ZT⟩ | ⟨hke,_,ZT⟩
 · have hwk:IntKind.i64.wrap ((k:Int)+1)=(k:Int)+1:=Z0 C1 C1
   obtain ⟨b,off,cs,rfl,_,hA,rfl⟩:=Xj k y hy
   refine Qqb q ZT ?_
   refine ZB ?_
   have eD:Ext w1 (drew w1):=(Ext.refl w1).drew
   have fD:=e1.trans eD
   have s1:=(Za (eD.obj (e1.obj o))).1
   have g1:=hA.c1 fD
   generalize (drew w1)=D at eD fD s1 g1 ⊢
   obtain ⟨u1,u2,u3,u4⟩:=Zfa ⟨y.toNat,y.toNat_lt⟩
   simp only at u1 u2 u3 u4
   have hz:=Cl x.bytes k
   have l1:(Wh x++32::Vf (x.bytes.take k)).length≤1000000002:=by rw [List.length_append,List.length_cons];omega
   unfold Dq
   refine Qqb s1 g1 ?_
   rw [Ml _ _ _ _ _ K7,u1]
   refine Qqb s1 g1 ?_
   rw [Ml _ _ _ _ _ K7,u1]
   refine Qqm s1 g1 u3 ?_
   rw [TD _ (by have:=y.toNat_lt;omega),XZ _ _ _ _ (J7 (by show _+1≤_;omega)),Vx]
   refine Qqb s1 g1 ?_
   rw [u2,u4,TD _ C1,XZ _ _ _ _ (J7 (by rw [List.length_append];show _+1+1≤_;omega)),Vx]
   have he:Wh x++32::Vf (x.bytes.take k)++(⟨#[Wb (y.toNat / 16)]⟩:BAr).data.toList++(⟨#[Wb (y.toNat % 16)]⟩:BAr).data.toList=Wh x++32::Vf (x.bytes.take (k+1)):=by
    rw [PN hy]
    simp
   rw [he]
   refine Qqh hwk ?_
   exact ⟨⟨k+1,rfl,rfl,Yo,fD⟩,Yh (kd := .i64) Yo⟩
 · subst hke
   rw [List.take_length]
   refine Qqb q ZT ?_
   unfold Dr
   by_cases h0:x.bytes=[]
   · have d0:((x.bytes.length:Int) == 0)=true:=by rw [h0];rfl
     have hd:YE x.bytes=[45]:=by unfold YE;rw [if_pos h0]
     have hh:Vf x.bytes=[]:=by rw [h0];rfl
     rw [hh]
     refine Qqb q d0 ?_
     rw [XO _ _ _ _ (J7 (by rw [List.length_append];show _+1+1≤_;omega)),Vx]
     have he:Wh x++[32]++(⟨#[45]⟩:BAr).data.toList=Wh x++32::YE x.bytes:=by rw [hd];simp
     rw [he]
     exact hK _ e1
   · have d0:((x.bytes.length:Int) == 0)=false:=by
      rw [beq_eq_false_iff_ne]
      intro h
      exact h0 (List.length_eq_zero_iff.1 C1)
     have hd:YE x.bytes=Vf x.bytes:=by unfold YE;rw [if_neg h0]
     refine Qqb q d0 ?_
     rw [← hd]
     exact hK _ e1
def Oj (e:Ext w0 w) (o:w.heap[p]?=some (.cells (Zo x bv tv).toArray 43 (0,0))) (hT:Q9 w tv x.table) (hin:x.table.all Wg=true) {K10:KV} {R:RT} (hl:(Wh x).length+(x.table.flatMap λ y=>32::QH y).length≤1000000000)
 (hK:∀ w',Ext w w'→K10 (.string (mkB (Wh x++x.table.flatMap λ y=>32::QH y))) w'):Wy (λ t4 t6 w V7=>Bl (Qq5 p) t4 t6 K10 V7 R w) (.string (mkB (Wh x))) (.int .i64 0) w:=by
 have v1:=Zd.oneCell hT
 obtain ⟨A,c,rfl,hlc,hcm,hlm,Xj⟩:=Zd.open hT
 refine Xu (λ a i w'=>∃ k:Nat,a = .string (mkB (Wh x++(x.table.take k).flatMap λ y=>32::QH y))∧i = .int .i64 k∧k≤x.table.length∧Ext w w') (λ _ i _=>x.table.length - (intOf i).toNat) ⟨0,by simp,rfl,by omega,Ext.refl _⟩ ?_
 rintro _ _ w1 ⟨k,rfl,rfl,hk,e1⟩
 have q:=(Za (e1.obj o)).1
 unfold Bl
 rcases ZY hk with ⟨y,hy,_,Yo,ZT⟩ | ⟨hke,_,ZT⟩
 · have hwk:IntKind.i64.wrap ((k:Int)+1)=(k:Int)+1:=Z0 C1 C1
   obtain ⟨b,off,cs,rfl,_,hA,rfl⟩:=Xj k y hy
   have hyi:=List.all_eq_true.1 hin y (List.mem_of_getElem? hy)
   unfold Wg at hyi
   simp only [Bool.and_eq_true] at hyi
   have r1:=QW hyi.1
   have r2:=QW hyi.2.1
   have r3:=QW hyi.2.2
   have z1:=Q1 r1.1 r1.2
   have z2:=Q1 r2.1 r2.2
   have z3:=Q1 r3.1 r3.2
   refine Qqb q ZT ?_
   refine ZB ?_
   have eD:Ext w1 (drew w1):=(Ext.refl w1).drew
   have fD:=e1.trans eD
   have s1:=(Za (eD.obj (e1.obj o))).1
   have g1:=hA.c3 fD
   generalize (drew w1)=D at eD fD s1 g1 ⊢
   have hz:=Ck (f:=λ y=>32::QH y) x.table k
   generalize hM:Wh x++(x.table.take k).flatMap (λ y=>32::QH y)=M at *
   have hMl:M.length≤1000000000:=by rw [← hM,List.length_append];omega
   unfold Dv
   rw [XZ _ _ _ _ (J7 (by show _+1≤_;omega)),Vx]
   refine Qqb s1 g1 ?_
   refine zcr (Ji D y.low r1.1 r1.2) λ w2 e2=>?_
   refine ⟨e2,?_⟩
   unfold Du
   have dl:∀ n:Int,(WX n).data.toList=Go.Lib.itoa n:=λ _=>rfl
   have hs1:∀ (l:List UInt8) (s:BAr),(mkB l++s).size=l.length+s.size:=λ l s=>by rw [size_append,Ym]
   rw [XZ _ _ _ _ (by rw [Ym,List.length_append];show _+1+_≤_;omega)]
   rw [XZ _ _ _ _ (by rw [size_append,Ym,List.length_append];show _+1+_+1≤_;omega)]
   refine zcr (Ji w2 y.high r2.1 r2.2) λ w3 e3=>?_
   refine ⟨e2.trans e3,?_⟩
   unfold Dt
   rw [XZ _ _ _ _ (by simp only [size_append,Ym,List.length_append];show _+1+_+1+_≤_;omega)]
   rw [XZ _ _ _ _ (by simp only [size_append,Ym,List.length_append];show _+1+_+1+_+1≤_;omega)]
   refine zcr (Ji w3 y.to r3.1 r3.2) λ w4 e4=>?_
   refine ⟨e2.trans (e3.trans e4),?_⟩
   rw [XZ _ _ _ _ (by simp only [size_append,Ym,List.length_append];show _+1+_+1+_+1+_≤_;omega)]
   have he:mkB (M++(⟨#[32]⟩:BAr).data.toList)++WX y.low++⟨#[45]⟩++WX y.high++⟨#[58]⟩++WX y.to=mkB (Wh x++(x.table.take (k+1)).flatMap λ y=>32::QH y):=by
    rw [YU hy,List.flatMap_append,← List.append_assoc,hM]
    simp only [Vx,dl]
    congr 1
    unfold QH
    simp
   rw [he]
   refine Qqh hwk ?_
   exact ⟨⟨k+1,rfl,rfl,Yo,fD.trans (e2.trans (e3.trans e4))⟩,Yh (kd := .i64) Yo⟩
 · subst hke
   rw [List.take_length]
   refine Qqb q ZT ?_
   exact hK _ e1
end
section
variable {w0 W w:Wd} {x:FrD} {p:Nat} {bv tv:Vl}
def Oh (e:Ext w0 w) (o:w.heap[p]?=some (.cells (Zo x bv tv).toArray 43 (0,0))) (hB:zJ w bv x.bytes) (hT:Q9 w tv x.table) (hp:Yz x=true) (hin:inF x=true) (hl:(XC x).length≤1000000000) (hk:1≤x.kind∧x.kind≤7) :
 JC (Qq5 p) (.string (mkB (Wh x))) (NJ w0 x) w:=by
 have hpt:=AE hk
 have hyes:=λ w (e:Ext w0 w)=>P4 e hp hpt.symm
 obtain ⟨i1,i2,i3⟩:=PT hin
 have hall:x.table.all Wg=true:=by unfold inF at hin;simp only [Bool.and_eq_true] at hin;exact hin.2.2
 have q:=(Za o).1
 have YJ:(Wh x).length+(addL x).length≤1000000000:=by rw [hpt,List.length_append] at hl;exact hl
 clear hpt hp hin
 unfold JC Zp
 by_cases k2:x.kind=2
 · have b2:(x.kind == 2)=true:=by simp [k2]
   have ha:addL x=32::Go.Lib.itoa x.add:=by unfold addL;rw [if_pos k2]
   rw [ha] at hyes YJ
   rw [List.length_cons] at YJ
   have z:=Q1 i1.1 i1.2
   unfold xR
   refine Qqb q b2 ?_
   rw [XO _ _ _ _ (J7 (by show _+1≤_;omega)),Vx]
   refine Qqh q ?_
   refine zcr (Ji w x.add i1.1 i1.2) λ w1 e1=>?_
   try unfold B0
   rw [XO _ _ _ _ (by rw [Ym,List.length_append];show _+1+_≤_;omega),Vx]
   have he:Wh x++(⟨#[32]⟩:BAr).data.toList++(WX x.add).data.toList=Wh x++32::Go.Lib.itoa x.add:=by
    rw [show (WX x.add).data.toList=Go.Lib.itoa x.add from rfl]
    simp
   rw [he]
   exact ⟨_,rfl,hyes _ (e.trans e1)⟩
 have n2:(x.kind == 2)=false:=by simp [k2]
 by_cases k3:x.kind=3
 · have b3:(x.kind == 3)=true:=by simp [k3]
   have ha:addL x=32::Go.Lib.itoa x.value:=by unfold addL;rw [if_neg k2,if_pos k3]
   rw [ha] at hyes YJ
   rw [List.length_cons] at YJ
   have z:=Q1 i2.1 i2.2
   unfold Kk xQ
   refine Qqm q n2 b3 ?_
   rw [XO _ _ _ _ (J7 (by show _+1≤_;omega)),Vx]
   refine Qqh q ?_
   refine zcr (Ji w x.value i2.1 i2.2) λ w1 e1=>?_
   try unfold B0
   rw [XO _ _ _ _ (by rw [Ym,List.length_append];show _+1+_≤_;omega),Vx]
   have he:Wh x++(⟨#[32]⟩:BAr).data.toList++(WX x.value).data.toList=Wh x++32::Go.Lib.itoa x.value:=by
    rw [show (WX x.value).data.toList=Go.Lib.itoa x.value from rfl]
    simp
   rw [he]
   exact ⟨_,rfl,hyes _ (e.trans e1)⟩
 have n3:(x.kind == 3)=false:=by simp [k3]
 by_cases k4:x.kind=4
 · have b4:(x.kind == 4)=true:=by simp [k4]
   have ha:addL x=32::YE x.bytes:=by unfold addL;rw [if_neg k2,if_neg k3,if_pos k4]
   rw [ha] at hyes YJ
   rw [List.length_cons] at YJ
   unfold Kk
   refine Qqp q n2 n3 b4 ?_
   refine P2 e o hB C1 λ w1 e1=>?_
   exact hyes _ (e.trans e1)
 have n4:(x.kind == 4)=false:=by simp [k4]
 by_cases k5:x.kind=5
 · have b5:(x.kind == 5)=true:=by simp [k5]
   have ha:addL x=x.table.flatMap λ y=>32::QH y:=by unfold addL;rw [if_neg k2,if_neg k3,if_neg k4,if_pos k5]
   rw [ha] at hyes YJ
   unfold Kk Bn
   refine QqK q n2 n3 n4 b5 ?_
   refine Oj e o hT hall YJ λ w1 e1=>?_
   exact ⟨_,rfl,hyes _ (e.trans e1)⟩
 have n5:(x.kind == 5)=false:=by simp [k5]
 have ha:addL x=[]:=by unfold addL;rw [if_neg k2,if_neg k3,if_neg k4,if_neg k5]
 rw [ha,List.append_nil] at hyes
 unfold Kk Bn
 refine QqK q n2 n3 n4 n5 ?_
 exact hyes _ e
def Oi (e:Ext w0 W) (o:W.heap[p]?=some (.cells (Zo x bv tv).toArray 43 (0,0))) (hB:zJ W bv x.bytes) (hT:Q9 W tv x.table) (hp:Yz x=true) (hin:inF x=true) (hl:(XC x).length≤1000000000) :
 Z4 W λ C7 w=>JD (Qq5 p) C7 (NJ w0 x) w:=by
 obtain ⟨u,hu⟩:∃ u,Xg x.kind=some u:=by
  cases hu:Xg x.kind with
  | none=>unfold Yz at hp;rw [hu] at hp;cases hp
  | some u=>exact ⟨u,rfl⟩
 have hk:=VK hu
 have hfr:=(B8 hu).1
 have hpt:=congrArg List.length (AE hk)
 rw [List.length_append] at hpt
 have hml:(Wh x).length≤1000000000:=C1
 have hus:UL x.kind=u.fr:=by
  have:x.kind=1∨x.kind=2∨x.kind=3∨x.kind=4∨x.kind=5∨x.kind=6∨x.kind=7:=C1
  rcases this with h | h | h | h | h | h | h<;>(rw [h] at hu ⊢;injection hu with hu;subst hu;rfl)
 have v1:=Zd.oneCell hB
 have v2:=Zd.oneCell hT
 refine ZB ?_
 have eD:Ext W (drew W):=(Ext.refl W).drew
 have o:=eD.obj o
 have hB:=hB.ext eD
 have hT:=hT.ext eD
 have e:=e.trans eD
 generalize (drew W)=D at o hB hT e ⊢
 have q:=(Za o).1
 have hto:x.to.size=x.to.data.toList.length:=(Vb _).symm
 have hm0:x.to.data.toList.length+1+(kwW x.kind).length≤(Wh x).length:=by unfold Wh;simp only [List.length_append,List.length_cons];omega
 unfold JD
 refine Qqh q ?_
 rw [XZ _ _ _ _ (by show _+1≤_;omega)]
 refine Qqh q ?_
 generalize hV:World.alloc D _=V
 have eV:Ext D V:=by rw [← hV];exact (Ext.refl D).alloc _
 have oV:V.heap[D.heap.size]?=some (.cells #[.string ⟨#[]⟩,.string ⟨#[99,111,112,121]⟩,.string ⟨#[97,100,100]⟩,.string ⟨#[118,97,108,117,101]⟩,.string ⟨#[98,121,116,101,115]⟩,.string ⟨#[116,97,98,108,101]⟩,.string ⟨#[110,101,115,116,101,100]⟩,.string ⟨#[102,105,116]⟩] 9 (0,0)):=by rw [← hV];exact Zt _ _ _
 clear hV
 generalize D.heap.size=pb at oV ⊢
 refine Kn eV ?_
 have qV':=(Za (eV.obj o)).1
 have qW:=(Za oV).1
 obtain ⟨n,hn⟩:∃ n:Nat,x.kind=n:=⟨x.kind.toNat,by omega⟩
 have hn8:(n:Int) < ((8:Nat):Int):=C1
 have hget:[Value.string ⟨#[]⟩,.string ⟨#[99,111,112,121]⟩,.string ⟨#[97,100,100]⟩,.string ⟨#[118,97,108,117,101]⟩,.string ⟨#[98,121,116,101,115]⟩,.string ⟨#[116,97,98,108,101]⟩,.string ⟨#[110,101,115,116,101,100]⟩,.string ⟨#[102,105,116]⟩][n*1]?=some (.string (mkB (kwW x.kind))):=by
  have:n=1∨n=2∨n=3∨n=4∨n=5∨n=6∨n=7:=C1
  rw [hn]
  rcases this with rfl | rfl | rfl | rfl | rfl | rfl | rfl<;>rfl
 unfold xU
 refine Qqm hn qW hget ?_
 rw [← hn]
 rw [XZ _ _ _ _ (by rw [size_append,Ym];show _+1+_≤_;omega)]
 have hmid:x.to++⟨#[32]⟩++mkB (kwW x.kind)=mkB (x.to.data.toList++32::kwW x.kind):=by
  refine xj ?_
  simp only [ByteArray.data_append,Array.toList_append,XL]
  simp
 rw [hmid]
 refine Qqh qV' ?_
 refine zcr (Gm V x.kind C1 hk.2) λ w1 e1=>?_
 have o1:=(eV.trans e1).obj o
 have q1:=(Za o1).1
 have E1:=e.trans (eV.trans e1)
 have hB1:=hB.ext (eV.trans e1)
 have hT1:=hT.ext (eV.trans e1)
 unfold xT
 refine Zi (Jj w1 _ 102 (Ku _)) ?_
 rintro _ w2 ⟨rfl,hw⟩
 rw [hw,hfr,← hus]
 clear hw
 have hdo:∀ l,Wh x=l→JC (Qq5 p) (.string (mkB l)) (NJ w0 x) w1:=λ l hl'=>by
  rw [← hl']
  exact Oh E1 o1 hB1 hT1 hp hin hl hk
 unfold Wh at hdo
 cases hf:UL x.kind with
 | false=>
  rw [hf] at hdo
  refine Qqv ?_
  exact hdo (x.to.data.toList++32::kwW x.kind) (by simp)
 | true=>
  rw [hf] at hdo
  have hm1:(x.to.data.toList++32::kwW x.kind).length+1+x.fr.size≤(Wh x).length:=by
   have:=Vb x.fr
   unfold Wh
   rw [hf,if_pos rfl]
   simp only [List.length_append,List.length_cons]
   omega
  unfold xS
  refine Qqv ?_
  rw [XO _ _ _ _ (J7 (by show _+1≤_;omega)),Vx]
  refine Qqh q1 ?_
  rw [XO _ _ _ _ (by rw [Ym,List.length_append];show _+1+_≤_;omega),Vx]
  exact hdo _ (by simp)
end
def On (w0:Wd) (v:Vl) (x:FrD) (hx:QI w0 v x) (hin:inF x=true) (hl:(XC x).length≤1000000000):Ret Pg 61 #[v] w0 λ r w'=>r = .tuple #[.string (mkB (qL x)),.bool (Yz x)]∧Ext w0 w':=by
 obtain ⟨bv,tv,rfl,hB,hT,b1,t1⟩:=hx.op
 refine Zll (R:=ZE _) ?_;unfold n66
 rw [YO]
 have o1:=Zt w0 (Zo x bv tv).toArray 43
 have e1:Ext w0 (w0.alloc (.cells (Zo x bv tv).toArray 43)):=(Ext.refl w0).alloc _
 generalize (w0.alloc (.cells (Zo x bv tv).toArray 43))=W at o1 e1 ⊢
 generalize w0.heap.size=p at o1 ⊢
 refine Qqh (Za o1).1 ?_
 exact I1 e1 o1 (hB.ext e1) (hT.ext e1) λ w e hp=>Oi (e1.trans e) (e.obj o1) (hB.ext (e1.trans e)) (hT.ext (e1.trans e)) hp hin hl
def Gc {c b:UInt8}:∀ {l:List UInt8} {A:List (List UInt8)} {z:List UInt8},Ye c l=A++[z]→Ye c (l++[b])=if b=c then A++[z,[]] else A++[z++[b]]
 | [],A,z,h=>by
  have h':[[]]=A++[z]:=h
  cases A with
  | nil=>
   injection h' with h1 _
   subst h1
   show Ye c [b]=_
   rw [Ye]
   rfl
  | cons a A=>injection h' with _ h2;cases A<;>cases h2
 | a::l,A,z,h=>by
  rw [List.cons_append]
  by_cases ha:a=c
  · subst ha
    rw [Wu] at h ⊢
    cases A with
    | nil=>injection h with _ h2;exact absurd h2 (QE a l)
    | cons y A=>
     injection h with h1 h2
     subst h1
     rw [Gc h2]
     split<;>rfl
  · obtain ⟨x,r,hx⟩:∃ x r,Ye c l=x::r:=by
     cases hc:Ye c l with
     | nil=>exact absurd hc (QE c l)
     | cons x r=>exact ⟨x,r,rfl⟩
    rw [Y4 ha hx] at h
    cases A with
    | nil=>
     injection h with h1 h2
     subst h1 h2
     have ih:=Gc (b:=b) (A:=[]) (z:=x) hx
     by_cases hb:b=c
     · rw [if_pos hb] at ih ⊢
       exact Y4 ha ih
     · rw [if_neg hb] at ih ⊢
       exact Y4 ha ih
    | cons y A=>
     injection h with h1 h2
     subst h1 h2
     have ih:=Gc (b:=b) (A:=x::A) (z:=z) hx
     by_cases hb:b=c
     · rw [if_pos hb] at ih ⊢
       exact Y4 ha ih
     · rw [if_neg hb] at ih ⊢
       exact Y4 ha ih
def VR (c:UInt8):∀ l:List UInt8,(Ye c l).length≤l.length+1
 | []=>by simp [Ye]
 | a::l=>by
  have ih:=VR c l
  by_cases ha:a=c
  · subst ha
    rw [Wu,List.length_cons,List.length_cons]
    omega
  · obtain ⟨x,r,hx⟩:∃ x r,Ye c l=x::r:=by
     cases hc:Ye c l with
     | nil=>exact absurd hc (QE c l)
     | cons x r=>exact ⟨x,r,rfl⟩
    rw [Y4 ha hx]
    rw [hx] at ih
    simp only [List.length_cons] at ih ⊢
    omega
def ZM.setS {w:Wd} {lo g cap len:Nat} {l:List BAr} (h:ZM w lo 9 1 YQ (.slice (some ⟨g,0,none⟩) len cap) l) {k:Nat} {x:BAr} (y:BAr) (hk:l[k]?=some x) :
 ZM (w.setCell ⟨g,k*1,none⟩ (.string y)) lo 9 1 YQ (.slice (some ⟨g,0,none⟩) len cap) (l.set k y):=by
 have key:∀ (w:Wd) (m:List BAr),ZM w lo 9 1 (Subtype.val:Cs 1→List Vl) (.slice (some ⟨g,0,none⟩) len cap) (m.map λ x=>⟨YQ x,rfl⟩)↔ZM w lo 9 1 YQ (.slice (some ⟨g,0,none⟩) len cap) m:=λ w m=>by
  unfold ZM
  rw [List.length_map,List.flatMap_map]
 have h1:=ZM.set ((key w l).2 h) (k:=k) (cs:=⟨YQ x,rfl⟩) (by rw [List.getElem?_map,hk];rfl) (j:=0) K7 (.string y)
 have h2:((l.map λ x=>(⟨YQ x,rfl⟩:Cs 1)).set k ⟨(YQ x).set 0 (.string y),by simp⟩)=(l.set k y).map λ x=>⟨YQ x,rfl⟩:=by
  rw [List.map_set]
  rfl
 rw [h2] at h1
 exact (key _ _).1 h1
def zD (w0:Wd) (l:List UInt8) (c:UInt8) (hl:l.length≤1000000):Ret Pg 53 #[.string (mkB l),.int .u8 (c.toNat:Int)] w0 λ r w'=>VO w' w0.heap.size r ((Ye c l).map mkB)∧Ext w0 w':=by
 have Vs:=Ym l
 have hlist:(mkB l).data.toList=l:=XL l
 refine Zlp (R:=ZE _) ?_;unfold n70
 refine Qqv ?_
 have hO:=ZM.new w0 9 1 YQ [mkB []] (λ _=>rfl) K7
 have eV:Ext w0 (w0.alloc (.cells #[.string ⟨#[]⟩] 9)):=(Ext.refl w0).alloc _
 refine Xu (λ v i w=>∃ (k:Nat) (A:List (List UInt8)) (z:List UInt8),i = .int .i64 k∧k≤l.length∧Ye c (l.take k)=A++[z]∧VO w w0.heap.size v ((A++[z]).map mkB)∧Ext w0 w) (λ _ i _=>l.length - (intOf i).toNat) ⟨0,[],[],rfl,by omega,rfl,hO,eV⟩ ?_
 rintro v _ w ⟨k,A,z,rfl,hk,Er,hO,e⟩
 have hAl:A.length≤1000000:=by
  have h1:=VR c (l.take k)
  rw [Er,List.length_append,List.length_singleton,List.length_take] at h1
  omega
 unfold ZdM
 rcases ZY hk with ⟨b,hb,_,Yo,ZT⟩ | ⟨hke,_,ZT⟩
 · rw [← Vs] at ZT
   have hix:(mkB l).data.toList[k]?=some b:=by rw [hlist];exact hb
   have hwk:IntKind.i64.wrap ((k:Int)+1)=((k+1:Nat):Int):=by rw [Z0 C1 C1];omega
   have hsn:=Gc (b:=b) Er
   rw [← YU hb] at hsn
   unfold ZdL
   by_cases hbc:b=c
   · rw [if_pos hbc] at hsn
     have eb:((b.toNat:Int) == (c.toNat:Int))=true:=by rw [hbc];simp
     simp (disch:=try exact DI) only [↓PR,QR,simprocAttr,ZT,YP underlying9 (mkB l) .i64 k hix,eb]
     have oX:=Zt w #[.string ⟨#[]⟩] 9
     have eX:Ext w (w.alloc (.cells #[.string ⟨#[]⟩] 9)):=(Ext.refl w).alloc _
     generalize (w.alloc (.cells #[.string ⟨#[]⟩] 9))=X at oX eX ⊢
     refine FK ⟨#[]⟩ (hO.ext eX) oX (by have:=e.size;have:=eX.size;omega) (by simp;omega) λ v' w' hO' hg _=>?_
     refine Qqh hwk ?_
     refine ⟨⟨k+1,A++[z],[],rfl,Yo,by rw [hsn];simp,?_,(e.trans eX).grown hg λ b hb=>(World.ownsRow.lt hO b hb).1⟩,Yh (kd := .i64) Yo⟩
     rw [List.map_append]
     exact hO'
   · rw [if_neg hbc] at hsn
     have eb:((b.toNat:Int) == (c.toNat:Int))=false:=by
      rw [beq_eq_false_iff_ne]
      intro h
      exact hbc (UInt8.toNat.inj C1)
     simp (disch:=try exact DI) only [↓PR,QR,simprocAttr,ZT,YP underlying9 (mkB l) .i64 k hix,eb]
     have hll:((A++[z]).map mkB).length=A.length+1:=by simp
     obtain ⟨g,cap,rfl,hg0,hgl,_,hfr,hE⟩:=hO.row (λ _=>rfl) C1
     have hz:((A++[z]).map mkB)[A.length]?=some (mkB z):=by simp
     rw [hll] at hO ⊢
     refine ZB ?_
     have eD:Ext w (drew w):=(Ext.refl w).drew
     have hOD:=hO.ext eD
     have e:=e.trans eD
     have hED:=Yr.ext (hE A.length (mkB z) hz) eD
     have hfD:∀ o,(drew w).frozen? ⟨g,o,none⟩=false:=hfr
     generalize (drew w)=D at hOD e hED hfD ⊢
     have hm1:IntKind.i64.wrap (((A.length+1:Nat):Int) - 1)=(A.length:Int):=by rw [Z0 C1 C1];omega
     have dk:(A.length:Int) < ((A.length+1:Nat):Int):=C1
     have hc:D.cell? ⟨g,A.length*1,none⟩=some (.string (mkB z)):=by simpa using hED 0 _ rfl
     unfold ZdK
     refine Qqm hm1 dk hc ?_
     have hzl:z.length≤l.length:=by
      have:=VS (c:=c) (l:=l.take k) (x:=z) (by rw [Er];simp)
      rw [List.length_take] at this
      omega
     have hone:(l.drop k).take (k+1 - k)=[b]:=by
      rw [show k+1 - k=1 by omega]
      obtain ⟨h1,h2⟩:=Qqx hb
      rw [List.drop_eq_getElem_cons h1,h2]
      rfl
     have hsub:=λ (C:WPr) [Yk C] (kk:Vl→Prop)=>Yc (C:=C) (k:=kk) λ QP w' k'=>ZnT (QP:=QP) (w:=w') (k:=k') l k (k+1) C1 C1
     rw [hsub,hone,XZ _ _ _ _ (by rw [Ym,Ym];show _+1≤_;omega),← Kf]
     refine Qqp hm1 dk hfD hc ?_
     refine Yx ?_
     refine Qqh hwk ?_
     have hset:((A++[z]).map mkB).set A.length (mkB (z++[b]))=(A++[z++[b]]).map mkB:=by simp
     have hO':=ZM.setS hOD (mkB (z++[b])) hz
     rw [hset] at hO'
     exact ⟨⟨k+1,A,z++[b],rfl,Yo,hsn,hO',e.setCell (p:=⟨g,A.length*1,none⟩) hg0 _⟩,Yh (kd := .i64) Yo⟩
 · rw [← Vs] at ZT
   subst hke
   rw [List.take_length] at Er
   refine Qqh ZT ?_
   exact ⟨by rw [Er];exact hO,e⟩
def J9:FrD:=⟨⟨#[]⟩,0,⟨#[]⟩,0,0,[],[]⟩
structure RuZ (w0 w:Wd) (p2 p6:Nat) (x:FrD) (bv tv wv:Vl) (W:List (List UInt8)):Prop where
 e:Ext w0 w
 l2:w0.heap.size≤p2
 l6:w0.heap.size≤p6
 ne:p2≠p6
 o2:w.heap[p2]?=some (.cells (Zo J9 Yb Yb).toArray 43 (0,0))
 o6:w.heap[p6]?=some (.cells (Zo x bv tv).toArray 43 (0,0))
 hb:ZM w w0.heap.size 5 1 Xp bv x.bytes
 ht:ZM w w0.heap.size 78 3 ZW tv x.table
 hw:VO w w0.heap.size wv (W.map mkB)
section
variable {w0 w w':Wd} {p2 p6:Nat} {x x':FrD} {bv tv wv:Vl} {W:List (List UInt8)}
def RuZ.go (h:RuZ w0 w p2 p6 x bv tv wv W) (e:Ext w w'):RuZ w0 w' p2 p6 x bv tv wv W:=⟨h.e.trans e,h.l2,h.l6,h.ne,e.obj h.o2,e.obj h.o6,h.hb.ext e,h.ht.ext e,h.hw.ext e⟩
def RuZ.set (h:RuZ w0 w p2 p6 x bv tv wv W) (j:Nat) (u:Vl) (hx:Zo x' bv tv=(Zo x bv tv).set j u) (hb:x'.bytes=x.bytes) (ht:x'.table=x.table):RuZ w0 (w.setCell ⟨p6,j,none⟩ u) p2 p6 x' bv tv wv W:=by
 have hc:Chg p6 w (w.setCell ⟨p6,j,none⟩ u):=⟨by rw [World.size_setCell];exact Nat.le_refl _,λ b _ hb=>YA.setCell _ p6 j _ b hb⟩
 refine ⟨h.e.setCell (p:=⟨p6,j,none⟩) h.l6 _,h.l2,h.l6,h.ne,(YA.setCell w p6 j u p2 h.ne).trans h.o2,?_,?_,?_,Xq h.hw hc (YT h.hw h.o6 K7)⟩
 · have:=Zy (o:=j) h.o6 u
   rw [hx]
   simpa using this
 · rw [hb];exact Xq h.hb hc (YT h.hb h.o6 K7)
 · rw [ht];exact Xq h.ht hc (YT h.ht h.o6 K7)
def RuZ.at {g n cap:Nat} (h:RuZ w0 w p2 p6 x bv tv (.slice (some ⟨g,0,none⟩) n cap) W) {j:Nat} {s:List UInt8} (hj:W[j]?=some s):w.cell? ⟨g,j*1,none⟩=some (.string (mkB s)):=by
 have hl:=(Qqx hj).1
 obtain ⟨g',cap',hv,_,_,_,_,hE⟩:=h.hw.row (λ _=>rfl) (by rw [List.length_map];omega)
 injection hv with hv _ _
 injection hv with hv
 injection hv with hv _ _
 subst hv
 have:=hE j (mkB s) (by rw [List.getElem?_map,hj];rfl) 0 _ rfl
 simpa using this
end
def Zez:∀ i j:Fin 8,1≤i.1→1≤j.1→kwW i.1=kwW j.1→i.1=j.1:=K7
def Oe {s:List UInt8} {k:Nat} (h1:1≤k) (h7:k≤7):decide (mkB (kwW k)=mkB s)=decide (Yp s=k):=by
 have hm:mkB (kwW k)=mkB s↔s=kwW k:=by
  constructor
  · intro h
    have:=congrArg (λ b:BAr=>b.data.toList) h
    simp only [XL] at this
    exact this.symm
  · intro h;rw [h]
 rw [decide_eq_decide,hm]
 have inj:∀ n:Nat,1≤n→n≤7→s=kwW n→(s=kwW k↔(n:Int)=(k:Int)):=λ n h1' h7' hs=>by
  rw [hs]
  constructor
  · intro h
    have:=Zez ⟨n,by omega⟩ ⟨k,by omega⟩ h1' h1 h
    exact congrArg _ this
  · intro h
    rw [show n=k by omega]
 unfold Yp
 repeat' split
 · exact inj 1 C1 C1 (by assumption)
 · exact inj 2 C1 C1 (by assumption)
 · exact inj 3 C1 C1 (by assumption)
 · exact inj 4 C1 C1 (by assumption)
 · exact inj 5 C1 C1 (by assumption)
 · exact inj 6 C1 C1 (by assumption)
 · exact inj 7 C1 C1 (by assumption)
 · have hk:k=1∨k=2∨k=3∨k=4∨k=5∨k=6∨k=7:=C1
   constructor
   · intro h
     exfalso
     rcases hk with rfl | rfl | rfl | rfl | rfl | rfl | rfl<;>contradiction
   · intro h;omega
def qK (s:List UInt8):0≤Yp s∧Yp s≤7:=by
 unfold Yp
 repeat' split
 all_goals omega
section
variable {w0 w:Wd} {p2 p6 pb g cap:Nat} {W:List (List UInt8)} {s t:List UInt8} {R:RT} {t0:Vl}
abbrev qu:AVl := #[.string ⟨#[]⟩,.string ⟨#[99,111,112,121]⟩,.string ⟨#[97,100,100]⟩,.string ⟨#[118,97,108,117,101]⟩,.string ⟨#[98,121,116,101,115]⟩,.string ⟨#[116,97,98,108,101]⟩,.string ⟨#[110,101,115,116,101,100]⟩,.string ⟨#[102,105,116]⟩]
def OI (h:RuZ w0 w p2 p6 ⟨mkB t,0,⟨#[]⟩,0,0,[],[]⟩ Yb Yb (.slice (some ⟨g,0,none⟩) W.length cap) W) (ob:w.heap[pb]?=some (.cells qu 9 (0,0))) (nb:pb≠p6) (hs:W[1]?=some s)
 (hK:∀ w',RuZ w0 w' p2 p6 ⟨mkB t,Yp s,⟨#[]⟩,0,0,[],[]⟩ Yb Yb (.slice (some ⟨g,0,none⟩) W.length cap) W→ES t0 (Qq5 p2) (Qq5 p6) (.slice (some ⟨g,0,none⟩) W.length cap) R w') :
 YW (λ t7 w Zz=>LB t0 (Qq5 p2) (Qq5 p6) t7 (.slice (some ⟨g,0,none⟩) W.length cap) (.slice (some ⟨pb,0,none⟩) 8 8) Zz R w) (.int .i64 1) w:=by
 have hz:=qK s
 refine ZL (λ i w'=>∃ k:Nat,i = .int .i64 k∧1≤k∧k≤8∧RuZ w0 w' p2 p6 ⟨mkB t,if Yp s < k then Yp s else 0,⟨#[]⟩,0,0,[],[]⟩ Yb Yb (.slice (some ⟨g,0,none⟩) W.length cap) W∧w'.heap[pb]?=some (.cells qu 9 (0,0))) (λ i _=>8 - (intOf i).toNat) ⟨1,rfl,by omega,by omega,?_,ob⟩ ?_
 · have:(if Yp s < ((1:Nat):Int) then Yp s else 0)=0:=by split<;>omega
   rw [this]
   exact h
 rintro _ w1 ⟨k,rfl,h1,h8,hR,ob1⟩
 have hwl:=(Qqx hs).1
 unfold LB
 by_cases hk:k≤7
 · have d1:decide ((k:Int)≤7)=true:=by simp;omega
   have hwk:IntKind.i64.wrap ((k:Int)+1)=((k+1:Nat):Int):=by rw [Z0 C1 C1];omega
   refine Qqh d1 ?_
   refine ZB ?_
   have eD:Ext w1 (drew w1):=(Ext.refl w1).drew
   have hR:=hR.go eD
   have ob1:=eD.obj ob1
   generalize (drew w1)=D at hR ob1 ⊢
   have dk:(k:Int) < ((8:Nat):Int):=C1
   have dw:(1:Int) < (W.length:Int):=C1
   have hget:[Value.string ⟨#[]⟩,.string ⟨#[99,111,112,121]⟩,.string ⟨#[97,100,100]⟩,.string ⟨#[118,97,108,117,101]⟩,.string ⟨#[98,121,116,101,115]⟩,.string ⟨#[116,97,98,108,101]⟩,.string ⟨#[110,101,115,116,101,100]⟩,.string ⟨#[102,105,116]⟩][k*1]?=some (.string (mkB (kwW k))):=by
    have:k=1∨k=2∨k=3∨k=4∨k=5∨k=6∨k=7:=C1
    rcases this with rfl | rfl | rfl | rfl | rfl | rfl | rfl<;>rfl
   have hc1:D.cell? ⟨g,1,none⟩=some (.string (mkB s)):=hR.at hs
   unfold Zdw
   refine Qqm dk (Za ob1).1 hget ?_
   rw [Yc λ QP w' k'=>ZZ (k:=k') underlying94 ty9 g 0 W.length cap .i64 1 K7 dw,show 0+(1:Int).toNat*1=1 from rfl]
   have hkw:=Oe (s:=s) h1 hk
   refine Qqm hc1 hkw @joinK_eq ?_
   by_cases hz1:Yp s=k
   · have hd:decide (Yp s=(k:Int))=true:=by simpa using hz1
     refine Qqp hd (Za hR.o6).1 (Za hR.o6).2 hwk ?_
     have hR':=hR.set (x':=⟨mkB t,(k:Int),⟨#[]⟩,0,0,[],[]⟩) 1 (.int .i64 (k:Int)) rfl rfl rfl
     refine ⟨⟨k+1,rfl,by omega,by omega,?_,by first | exact ob1 | exact (YA.setCell D p6 1 _ pb nb).trans ob1⟩,by show 8 - (k+1) < 8 - k;omega⟩
     have:(if Yp s < ((k+1:Nat):Int) then Yp s else 0)=(k:Int):=by rw [if_pos C1];exact hz1
     rw [this]
     exact hR'
   · have hd:decide (Yp s=(k:Int))=false:=by simpa using hz1
     refine Qqb hd hwk ?_
     refine ⟨⟨k+1,rfl,by omega,by omega,?_,ob1⟩,by show 8 - (k+1) < 8 - k;omega⟩
     have:(if Yp s < ((k+1:Nat):Int) then Yp s else 0)=(if Yp s < (k:Int) then Yp s else 0):=by
      by_cases h:Yp s < (k:Int)
      · rw [if_pos h,if_pos C1]
      · rw [if_neg h,if_neg C1]
     rw [this]
     exact hR
 · obtain rfl:k=8:=C1
   have d1:decide (((8:Nat):Int)≤7)=false:=K7
   refine Qqh d1 ?_
   have:(if Yp s < ((8:Nat):Int) then Yp s else 0)=Yp s:=by rw [if_pos C1]
   rw [this] at hR
   exact hK _ hR
end
def ZM.growT {α β:Type} {w w':Wd} {lo lo2 n n2:Nat} {T T2:TypeId} {enc:α→List Vl} {enc2:β→List Vl} {v u:Vl} {l:List α} {m:List β} (h:ZM w lo T n enc v l) (hO:ZM w lo2 T2 n2 enc2 u m) (hg:w.grownBy w' u.ownBlock) (hT:T≠T2):ZM w' lo T n enc v l:=by
 rcases yZ hO hg with e | ⟨g,oc,f,_,ho,hc⟩
 · exact h.ext e
 · exact Xq h hc (YT h ho hT)
def RuZ.put {w0 w:Wd} {p2 p6:Nat} {x:FrD} {bv tv wv:Vl} {W:List (List UInt8)} (h:RuZ w0 w p2 p6 x bv tv wv W):Ext w0 (Yn w p2 0 (Zo x bv tv))∧(Yn w p2 0 (Zo x bv tv)).heap[p2]?=some (.cells (Zo x bv tv).toArray 43 (0,0))∧ZbG (Yn w p2 0 (Zo x bv tv)) w0.heap.size (.agg (Zo x bv tv).toArray) x:=by
 obtain ⟨h1,h2,h3⟩:=Uy (Zo x bv tv) w 0 (b:=p2)
 have hc:Chg p2 w (Yn w p2 0 (Zo x bv tv)):=⟨by rw [Wl];exact Nat.le_refl _,λ b _ hb=>Qw (Zo x bv tv) w 0 b hb⟩
 refine ⟨⟨h1.trans h.e.os,h2.trans h.e.tape,h3.trans h.e.output,by rw [Wl];exact h.e.size,λ k hk=>?_⟩,?_,bv,tv,rfl,Xq h.hb hc (YT h.hb h.o2 K7),Xq h.ht hc (YT h.ht h.o2 K7)⟩
 · rw [← h.e.block k hk]
   have:=h.l2
   exact Qw (Zo x bv tv) w 0 k C1
 · rw [X3 (Zo x bv tv) 0 h.o2,JW (by simp)]
section
variable {w0 w:Wd} {p2 p6 g cap:Nat} {W:List (List UInt8)} {x:FrD} {bv tv:Vl} {l:List UInt8}
def TP (h:RuZ w0 w p2 p6 x bv tv (.slice (some ⟨g,0,none⟩) W.length cap) W) (hin:inF x=true) (hb:FM (Ye 32 l)=some x) (hl:(XC x).length≤1000000000) :
 ZU Pg 61 #[.agg (Zo x bv tv).toArray] (Zc (ZE (QK w0 l))) w λ t132 w=>Ng (.string (mkB l)) (Qq5 p2) (Qq5 p6) t132 (ZE (QK w0 l)) w:=by
 have v1:bv.oneCell'=true:=Zd.oneCell (Vy h.hb)
 have v2:tv.oneCell'=true:=Zd.oneCell (Qv h.ht)
 have hO:Xt l=if okF x=true∧XC x=l then some x else none:=by rw [G6,hb];rfl
 have hok:okF x=Yz x:=by unfold okF;rw [hin,Bool.and_true]
 rw [hok] at hO
 refine zcr (On w _ x ⟨bv,tv,rfl,Vy h.hb,Qv h.ht⟩ hin hl) λ w1 e1=>?_
 have h1:=h.go e1
 have q6:=(Za h1.o6).1
 have q2:=Za h1.o2
 have fin:∀ b:Bool,((b=true∧Xt l=some x)∨(b=false∧Xt l=none))→opU Pg (storeAt 43 (Qq5 p2) (.agg (Zo x bv tv).toArray)) (Zc (ZE (QK w0 l))) w1 λ w=>qW Pg 43 (Qq5 p2) w λ r0=>ZE (QK w0 l) (.returned (.tuple #[r0,.bool b])) w:=by
  intro b hr
  rw [Va Vr h1.o2 (vs:=Zo x bv tv) rfl (Nat.le_refl _) (by intro v hv;simp only [List.mem_cons,List.not_mem_nil,or_false] at hv;rcases hv with rfl | rfl | rfl | rfl | rfl | rfl | rfl<;>first | rfl | assumption)]
  obtain ⟨a1,a2,a3⟩:=h1.put
  generalize (Yn w1 p2 0 (Zo x bv tv))=w3 at a1 a2 a3 ⊢
  refine Qqh (Za a2).1 ?_
  exact ⟨a1,_,x,b,rfl,a3,hr⟩
 unfold Ng
 cases hp:Yz x with
 | false=>
  have hno:Xt l=none:=by rw [hO,if_neg (by rw [hp];simp)]
  refine Qqh q6 ?_
  exact fin false (.inr ⟨rfl,hno⟩)
 | true=>
  have hq:qL x=XC x:=by unfold qL;rw [hp,if_pos rfl]
  have ZT:decide (mkB (XC x)=mkB l)=decide (XC x=l):=by
   rw [decide_eq_decide]
   constructor
   · intro h
     have:=congrArg (λ b:BAr=>b.data.toList) h
     simpa only [XL] using this
   · rintro rfl;rfl
  rw [hq]
  refine Qqb q6 ZT ?_
  refine fin _ ?_
  by_cases he:XC x=l
  · exact .inl ⟨by rw [ZT];simpa using he,by rw [hO,hp,if_pos ⟨rfl,he⟩]⟩
  · exact .inr ⟨by rw [ZT];simpa using he,by rw [hO,if_neg λ h=>he h.2]⟩
end
section
variable {w0 V w':Wd} {p2 p6:Nat} {x:FrD} {bv tv wv v':Vl} {W:List (List UInt8)}
def RuZ.appB (h:RuZ w0 V p2 p6 x bv tv wv W) (c:UInt8) (hO:ZM w' w0.heap.size 5 1 Xp v' (x.bytes++[c])) (hg:V.grownBy w' bv.ownBlock):w'.heap[p6]?=some (.cells (Zo x bv tv).toArray 43 (0,0))∧RuZ w0 (w'.setCell ⟨p6,5,none⟩ v') p2 p6 { x with bytes:=x.bytes++[c] } v' tv wv W:=by
 have o6:=Xe h.hb hg h.o6 K7
 have o2:=Xe h.hb hg h.o2 K7
 have ht:=ZM.growT h.ht h.hb hg K7
 have hw:=ZM.growT h.hw h.hb hg K7
 have e:=h.e.grown hg λ b hb=>(World.ownsRow.lt h.hb b hb).1
 have hc:Chg p6 w' (w'.setCell ⟨p6,5,none⟩ v'):=⟨by rw [World.size_setCell];exact Nat.le_refl _,λ b _ hb=>YA.setCell _ p6 5 _ b hb⟩
 refine ⟨o6,e.setCell (p:=⟨p6,5,none⟩) h.l6 _,h.l2,h.l6,h.ne,(YA.setCell w' p6 5 v' p2 h.ne).trans o2,?_,Xq hO hc (YT hO o6 K7),Xq ht hc (YT ht o6 K7),Xq hw hc (YT hw o6 K7)⟩
 exact Zy (o:=5) o6 v'
def RuZ.appR (h:RuZ w0 V p2 p6 x bv tv wv W) (y:Qd) (hO:ZM w' w0.heap.size 78 3 ZW v' (x.table++[y])) (hg:V.grownBy w' tv.ownBlock):w'.heap[p6]?=some (.cells (Zo x bv tv).toArray 43 (0,0))∧RuZ w0 (w'.setCell ⟨p6,6,none⟩ v') p2 p6 { x with table:=x.table++[y] } bv v' wv W:=by
 have o6:=Xe h.ht hg h.o6 K7
 have o2:=Xe h.ht hg h.o2 K7
 have hb:=ZM.growT h.hb h.ht hg K7
 have hw:=ZM.growT h.hw h.ht hg K7
 have e:=h.e.grown hg λ b hb=>(World.ownsRow.lt h.ht b hb).1
 have hc:Chg p6 w' (w'.setCell ⟨p6,6,none⟩ v'):=⟨by rw [World.size_setCell];exact Nat.le_refl _,λ b _ hb=>YA.setCell _ p6 6 _ b hb⟩
 refine ⟨o6,e.setCell (p:=⟨p6,6,none⟩) h.l6 _,h.l2,h.l6,h.ne,(YA.setCell w' p6 6 v' p2 h.ne).trans o2,?_,Xq hb hc (YT hb o6 K7),Xq hO hc (YT hO o6 K7),Xq hw hc (YT hw o6 K7)⟩
 exact Zy (o:=6) o6 v'
end
def ZbC:∀ n:Fin 256,IntKind.u8.wrap (n.1:Int)=((UInt8.ofNat n.1).toNat:Int):=by decide +kernel
section
variable {w0 w:Wd} {p2 p6 g cap:Nat} {W:List (List UInt8)} {z l:List UInt8} {x:FrD} {tv:Vl} {K6:WPr}
def DO {w:Wd} (e:Ext w0 w) (o2:w.heap[p2]?=some (.cells (Zo J9 Yb Yb).toArray 43 (0,0))) (hnone:Xt l=none) :
 opV Pg (build 43 #[]) (Zc (ZE (QK w0 l))) w λ t w=>opU Pg (storeAt 43 (Qq5 p2) t) (Zc (ZE (QK w0 l))) w λ w=>qW Pg 43 (Qq5 p2) w λ r0=>ZE (QK w0 l) (.returned (.tuple #[r0,.bool false])) w:=by
 refine Qqv ?_
 refine (Va Vr o2 (vs:=Zo J9 Yb Yb) rfl K7 (by intro v hv;simp only [List.mem_cons,List.not_mem_nil,or_false] at hv;rcases hv with rfl | rfl | rfl | rfl | rfl | rfl | rfl<;>rfl)).mpr ?_
 have e3:=UY e o2 (vs:=Zo J9 Yb Yb)
 have a2:=X3 (Zo J9 Yb Yb) 0 o2
 rw [JW (by simp)] at a2
 generalize (Yn w p2 0 (Zo J9 Yb Yb))=w3 at e3 a2 ⊢
 refine Qqh (Za a2).1 ?_
 exact ⟨e3,_,J9,false,rfl,⟨Yb,Yb,rfl,ZM.nil _ _ _ _ _,ZM.nil _ _ _ _ _⟩,.inr ⟨rfl,hnone⟩⟩
def Mv (h:RuZ w0 w p2 p6 x Yb tv (.slice (some ⟨g,0,none⟩) W.length cap) W) (hx:x.bytes=[]) (hz:z.length≤1000000)
 (hno:Qb z=none→Xt l=none)
 (hK:∀ (bv:Vl) (B:List UInt8) (w':Wd),Qb z=some B→RuZ w0 w' p2 p6 { x with bytes:=B } bv tv (.slice (some ⟨g,0,none⟩) W.length cap) W→K6 w') :
 YW (λ t9 w JM=>SX (Qq5 p2) (Qq5 p6) t9 (.string (mkB z)) K6 JM (ZE (QK w0 l)) w) (.int .i64 0) w:=by
 have Vs:=Ym z
 have hlist:(mkB z).data.toList=z:=XL z
 refine ZL (λ i w'=>∃ (k:Nat) (B:List UInt8) (bv:Vl),i = .int .i64 ((2*k:Nat):Int)∧2*k≤z.length∧B.length=k∧Qb z=(Qb (z.drop (2*k))).map (B++·)∧RuZ w0 w' p2 p6 { x with bytes:=B } bv tv (.slice (some ⟨g,0,none⟩) W.length cap) W) (λ i _=>z.length - (intOf i).toNat) ⟨0,[],Yb,rfl,by omega,rfl,by rw [Nat.mul_zero,List.drop_zero];cases Qb z<;>rfl,by rw [← hx];exact h⟩ ?_
 clear h
 rintro _ w1 ⟨k,B,bv,rfl,hk,hBk,hu,h⟩
 have hw1:IntKind.i64.wrap (((2*k:Nat):Int)+1)=((2*k+1:Nat):Int):=by rw [Z0 C1 C1];omega
 have hw2:IntKind.i64.wrap (((2*k:Nat):Int)+2)=((2*(k+1):Nat):Int):=by rw [Z0 C1 C1];omega
 unfold SX
 by_cases Yo:2*k+1 < z.length
 · have d1:decide (((2*k+1:Nat):Int) < ((mkB z).size:Int))=true:=by rw [Vs];simp only [decide_eq_true_eq];omega
   obtain ⟨a,ha⟩:=getElem?_lt (l:=z) (k:=2*k) C1
   obtain ⟨b,hb⟩:=getElem?_lt (l:=z) (k:=2*k+1) Yo
   have hdr:z.drop (2*k)=a::b::z.drop (2*(k+1)):=by
    obtain ⟨h1,h2⟩:=Qqx ha
    obtain ⟨h3,h4⟩:=Qqx hb
    rw [List.drop_eq_getElem_cons h1,List.drop_eq_getElem_cons h3,h2,h4]
    rfl
   rw [hdr,Qb] at hu
   have ia:(mkB z).data.toList[2*k]?=some a:=by rw [hlist];exact ha
   have ib:(mkB z).data.toList[2*k+1]?=some b:=by rw [hlist];exact hb
   refine Qqb hw1 d1 ?_
   refine ZB ?_
   have eD:Ext w1 (drew w1):=(Ext.refl w1).drew
   have h:=h.go eD
   generalize (drew w1)=D at h ⊢
   unfold ZdC
   rw [Yc λ QP w' k'=>YP (P:=Pg) (QP:=QP) (w:=w') (k:=k') underlying9 (mkB z) .i64 (2*k) ia]
   refine Qqh hw1 ?_
   rw [Yc λ QP w' k'=>YP (P:=Pg) (QP:=QP) (w:=w') (k:=k') underlying9 (mkB z) .i64 (2*k+1) ib]
   refine Zi (AF D a) ?_
   rintro _ w2 ⟨rfl,hw⟩
   rw [hw]
   clear hw
   refine ⟨Ext.refl _,?_⟩
   refine Zi (AF D b) ?_
   rintro _ w2 ⟨rfl,hw⟩
   rw [hw]
   clear hw
   refine ⟨Ext.refl _,?_⟩
   have la:=MS a
   have lb:=MS b
   unfold ZdB
   by_cases hn:Wr a < 0∨Wr b < 0
   · rw [if_pos hn] at hu
     have hnone:=hno hu
     have fail:Zdz (Qq5 p2) (ZE (QK w0 l)) D:=DO h.e h.o2 hnone
     by_cases hn1:Wr a < 0
     · have d2:decide (Wr a < 0)=true:=by simpa using hn1
       refine Qqh d2 ?_
       exact fail
     · have d2:decide (Wr a < 0)=false:=by simpa using hn1
       have d3:decide (Wr b < 0)=true:=by simp only [decide_eq_true_eq];omega
       refine Qqb d2 d3 ?_
       exact fail
   · rw [if_neg hn] at hu
     have d2:decide (Wr a < 0)=false:=by simp only [decide_eq_false_iff_not];omega
     have d3:decide (Wr b < 0)=false:=by simp only [decide_eq_false_iff_not];omega
     have hm:IntKind.i64.wrap (16*Wr a)=16*Wr a:=Z0 C1 C1
     have hm2:IntKind.i64.wrap (16*Wr a+Wr b)=16*Wr a+Wr b:=Z0 C1 C1
     obtain ⟨n,hn1⟩:∃ n:Nat,16*Wr a+Wr b=n:=⟨(16*Wr a+Wr b).toNat,by omega⟩
     have hn2:n < 256:=C1
     have h8:=ZbC ⟨n,hn2⟩
     simp only at h8
     rw [show (16*Wr a+Wr b).toNat=n by omega] at hu
     generalize UInt8.ofNat n=c at hu h8
     unfold ZdA
     have hwn:IntKind.i64.wrap (n:Int)=n:=Z0 C1 C1
     simp (disch:=try exact DI) only [↓PR,QR,simprocAttr,d2,d3,hm,hm2,hn1,h8,(Za h.o6).1]
     rw [hwn,h8]
     have oX:=Zt D #[.int .u8 (c.toNat:Int)] 5
     have eX:Ext D (D.alloc (.cells #[.int .u8 (c.toNat:Int)] 5)):=(Ext.refl D).alloc _
     generalize (D.alloc (.cells #[.int .u8 (c.toNat:Int)] 5))=X at oX eX ⊢
     have hX:=h.go eX
     refine qx c hX.hb (by rw [(Za oX).1];rfl) hX.e.size (by show B.length≤_;omega) λ v' w' hO' hg=>?_
     obtain ⟨o6',hS⟩:=hX.appB c hO' hg
     have v1:v'.oneCell'=true:=Zd.oneCell (Vy hO')
     refine Qqm (Za o6').1 (Za o6').2 hw2 ?_
     exact ⟨⟨k+1,B++[c],v',rfl,by omega,by simp [hBk],by rw [hu];cases Qb (z.drop (2*(k+1)))<;>simp,hS⟩,by show z.length - (2*(k+1)) < z.length - 2*k;omega⟩
 · have d1:decide (((2*k+1:Nat):Int) < ((mkB z).size:Int))=false:=by rw [Vs];simp only [decide_eq_false_iff_not];omega
   refine Qqb hw1 d1 ?_
   refine hK bv B w1 ?_ h
   have hd:Qb (z.drop (2*k))=some []:=by
    have hl:(z.drop (2*k)).length≤1:=by rw [List.length_drop];omega
    cases hc:z.drop (2*k) with
    | nil=>rfl
    | cons a r=>
     rw [hc] at hl
     cases r with
     | nil=>rfl
     | cons b r=>simp at hl
   rw [hu,hd]
   simp
def OJ {bv:Vl} (h:RuZ w0 w p2 p6 x bv Yb (.slice (some ⟨g,0,none⟩) W.length cap) W) (hx:x.table=[]) (hW:W.length≤1000000) (hz:∀ u∈W,u.length≤1000000) (h3:2≤W.length)
 (hK:∀ (tv:Vl) (w':Wd),RuZ w0 w' p2 p6 { x with table:=(W.drop 3).map UJ } bv tv (.slice (some ⟨g,0,none⟩) W.length cap) W→K6 w') :
 YW (λ t12 w QU=>Lz (Qq5 p6) t12 (.slice (some ⟨g,0,none⟩) W.length cap) K6 QU (ZE (QK w0 l)) w) (.int .i64 3) w:=by
 refine ZL (λ i w'=>∃ (k:Nat) (tv:Vl),i = .int .i64 ((3+k:Nat):Int)∧k≤W.length∧RuZ w0 w' p2 p6 { x with table:=((W.drop 3).take k).map UJ } bv tv (.slice (some ⟨g,0,none⟩) W.length cap) W) (λ i _=>W.length+3 - (intOf i).toNat) ⟨0,Yb,rfl,by omega,by rw [List.take_zero,List.map_nil,← hx];exact h⟩ ?_
 clear h
 rintro _ w1 ⟨k,tv,rfl,hk,h⟩
 have hw1:IntKind.i64.wrap (((3+k:Nat):Int)+1)=((3+(k+1):Nat):Int):=by rw [Z0 C1 C1];omega
 unfold Lz
 by_cases Yo:3+k < W.length
 · have dk:((3+k:Nat):Int) < (W.length:Int):=C1
   have d1:decide (((3+k:Nat):Int) < (W.length:Int))=true:=decide_eq_true dk
   obtain ⟨u,hu⟩:=getElem?_lt (l:=W) Yo
   have hud:(W.drop 3)[k]?=some u:=by rw [List.getElem?_drop];exact hu
   have hul:=hz u (List.mem_of_getElem? hu)
   refine Qqh d1 ?_
   obtain ⟨gb,hgb⟩:∃ gb,tv.ownBlock.getD w1.heap.size=gb:=⟨_,rfl⟩
   have n6:p6≠gb:=by rw [← hgb];exact JR h.ht h.o6 K7
   have ng:g≠gb:=by
    obtain ⟨g',cap',hv,_,_,⟨cs,fr,hT⟩,_⟩:=h.hw.row (λ _=>rfl) (by rw [List.length_map];omega)
    injection hv with hv _ _
    injection hv with hv
    injection hv with hv _ _
    subst hv
    rw [← hgb]
    exact JR h.ht hT K7
   have hc:=h.at hu
   have hts:tv.ownBlock=none∨tv.ownBlock=some gb:=by
    cases ht:tv.ownBlock with
    | none=>exact .inl rfl
    | some b=>rw [ht] at hgb;exact .inr (congrArg some hgb)
   refine YX gb gb (w1:=w1) (λ _ _ _ _=>rfl) ?_
   haveI:Yk (KB w1 gb gb):=⟨⟨w1,λ _ _ _ _=>rfl⟩⟩
   have eD:Ext w1 (drew w1):=(Ext.refl w1).drew
   have q6:=(Za h.o6).1
   generalize (drew w1)=D at eD ⊢
   unfold SR
   refine Qqm q6 dk hc ?_
   refine zcr (Rc D u C1) λ w2 e2=>?_
   have eD2:=eD.trans e2
   refine ⟨λ b hb _ _=>eD2.block b hb,?_⟩
   unfold SQ
   refine Qqv ?_
   have oX:=Zt w2 (ZW (UJ u)).toArray 78
   have eX:Ext w1 (w2.alloc (.cells (ZW (UJ u)).toArray 78)):=eD2.alloc _
   change KB w1 gb gb (w2.alloc (.cells (ZW (UJ u)).toArray 78))∧opV _ _ _ (w2.alloc (.cells (ZW (UJ u)).toArray 78)) _
   generalize (w2.alloc (.cells (ZW (UJ u)).toArray 78))=X at oX eX ⊢
   refine ⟨λ b hb _ _=>eX.block b hb,?_⟩
   have hX:=h.go eX
   refine j9 (UJ u) hX.ht oX hX.e.size (by show (((W.drop 3).take k).map UJ).length≤_;rw [List.length_map,List.length_take];omega) λ v' w' hO' hg=>?_
   obtain ⟨o6',hS⟩:=hX.appR (UJ u) hO' hg
   have v1:v'.oneCell'=true:=Zd.oneCell (Qv hO')
   refine ⟨λ b hb h1 _=>(hg.block b (Nat.lt_of_lt_of_le hb eX.size) λ e=>?_).trans (eX.block b hb),?_⟩
   · rcases hts with ht | ht
     · rw [ht] at e;cases e
     · rw [ht] at e;injection e with e;exact h1 e
   unfold SP
   refine Qqb (Za o6').1 (Za o6').2 ?_
   refine Yx ?_
   refine Qqh hw1 ?_
   refine ⟨⟨k+1,v',rfl,by omega,?_⟩,by show W.length+3 - (3+(k+1)) < W.length+3 - (3+k);omega⟩
   rw [YU hud,List.map_append]
   exact hS
 · have d1:decide (((3+k:Nat):Int) < (W.length:Int))=false:=by simp only [decide_eq_false_iff_not];omega
   refine Qqh d1 ?_
   rw [List.take_of_length_le (by rw [List.length_drop];omega)] at h
   exact hK tv w1 h
end
def Zeu:∀ k:Fin 8,ya (WT (k.1:Int)) 102=UL (k.1:Int):=K7
def B6:∀ {z B:List UInt8},Qb z=some B→B.length≤z.length
 | [],B,h=>by injection h with h;subst h;simp
 | [a],B,h=>by injection h with h;subst h;simp
 | a::b::z,B,h=>by
  rw [Qb] at h
  split at h
  · cases h
  · cases hz:Qb z with
    | none=>rw [hz] at h;cases h
    | some C=>
     rw [hz] at h
     injection h with h
     subst h
     have:=B6 hz
     simp only [List.length_cons]
     omega
section
variable {w0 w:Wd} {p2 p6 g cap:Nat} {t s:List UInt8} {rest:List (List UInt8)} {l:List UInt8}
def TO {a:BAr} (hW:Ye 32 l=t::s::rest) (hl:l.length≤80000) (ha:a=if UL (Yp s)=true then mkB (rest[0]?.getD []) else ⟨#[]⟩)
 (h:RuZ w0 w p2 p6 ⟨mkB t,Yp s,a,0,0,[],[]⟩ Yb Yb (.slice (some ⟨g,0,none⟩) (t::s::rest).length cap) (t::s::rest)) :
 ER (.string (mkB l)) (Qq5 p2) (Qq5 p6) (.slice (some ⟨g,0,none⟩) (t::s::rest).length cap) (.string (mkB ((t::s::rest).getLast?.getD []))) (ZE (QK w0 l)) w:=by
 have hcl:∀ u∈t::s::rest,u.length≤80000:=λ u hu=>by
  rw [← hW] at hu
  have:=VS hu
  omega
 have hcn:(t::s::rest).length≤80001:=by
  rw [← hW]
  have:=VR 32 l
  omega
 have hal:a.size≤80000:=by
  rw [ha]
  split
  · rw [Ym]
    cases hr:rest[0]? with
    | none=>simp
    | some u=>exact hcl u (List.mem_cons_of_mem _ (List.mem_cons_of_mem _ (List.mem_of_getElem? hr)))
  · show 0≤80000;decide
 have htl:(mkB t).size≤80000:=by rw [Ym];exact hcl t (List.mem_cons_self ..)
 obtain ⟨z,hz⟩:∃ z,(t::s::rest).getLast?.getD []=z:=⟨_,rfl⟩
 have hzl:z.length≤80000:=by
  rw [← hz]
  cases hg:(t::s::rest).getLast? with
  | none=>simp
  | some u=>exact hcl u (List.mem_of_getLast? hg)
 have done:∀ (x:FrD) (bv tv:Vl) (w':Wd),RuZ w0 w' p2 p6 x bv tv (.slice (some ⟨g,0,none⟩) (t::s::rest).length cap) (t::s::rest)→FM (t::s::rest)=some x→x.to.size≤80000→x.fr.size≤80000→x.bytes.length≤80000→x.table.length≤80001 →
  ZU Pg 61 #[.agg (Zo x bv tv).toArray] (Zc (ZE (QK w0 l))) w' λ t132 w=>Ng (.string (mkB l)) (Qq5 p2) (Qq5 p6) t132 (ZE (QK w0 l)) w:=by
  intro x bv tv w' h hb h1 h2 h3 h4
  have hin:=Zay hb
  have:=Hh hin
  exact TP h hin (by rw [hW];exact hb) C1
 have hB:∀ o,FM (t::s::rest)=o↔(if Yp s=2 then some ⟨mkB t,2,a,Vv (ZI z),0,[],[]⟩ else if Yp s=3 then some ⟨mkB t,3,a,0,Vv (ZI z),[],[]⟩ else if Yp s=4 then (Qb z).map λ l=>⟨mkB t,4,a,0,0,l,[]⟩ else if Yp s=5 then some ⟨mkB t,5,a,0,0,[],rest.tail.map UJ⟩ else some ⟨mkB t,Yp s,a,0,0,[],[]⟩)=o:=λ o=>by
  unfold FM
  simp only [hz,← ha]
 rw [hz]
 have q:=(Za h.o6).1
 unfold ER
 by_cases k2:Yp s=2
 · have b2:(Yp s == 2)=true:=by simp [k2]
   refine Qqb q b2 ?_
   refine zcr (WQ w z 0 C1 C1) λ w1 e1=>?_
   have h1:=h.go e1
   rw [List.drop_zero]
   unfold Zdx
   refine Qqb (Za h1.o6).1 (Za h1.o6).2 ?_
   exact done ⟨mkB t,Yp s,a,Vv (ZI z),0,[],[]⟩ Yb Yb _ (h1.set (x':=⟨mkB t,Yp s,a,Vv (ZI z),0,[],[]⟩) 3 (.int .i64 (Vv (ZI z))) rfl rfl rfl) ((hB _).2 (by rw [if_pos k2,k2])) htl hal (Nat.zero_le _) (Nat.zero_le _)
 have n2:(Yp s == 2)=false:=by simp [k2]
 by_cases k3:Yp s=3
 · have b3:(Yp s == 3)=true:=by simp [k3]
   unfold Bo
   refine Qqm q n2 b3 ?_
   refine zcr (WQ w z 0 C1 C1) λ w1 e1=>?_
   have h1:=h.go e1
   rw [List.drop_zero]
   unfold Zdy
   refine Qqb (Za h1.o6).1 (Za h1.o6).2 ?_
   exact done ⟨mkB t,Yp s,a,0,Vv (ZI z),[],[]⟩ Yb Yb _ (h1.set (x':=⟨mkB t,Yp s,a,0,Vv (ZI z),[],[]⟩) 4 (.int .i64 (Vv (ZI z))) rfl rfl rfl) ((hB _).2 (by rw [if_neg k2,if_pos k3,k3])) htl hal (Nat.zero_le _) (Nat.zero_le _)
 have n3:(Yp s == 3)=false:=by simp [k3]
 by_cases k4:Yp s=4
 · have b4:(Yp s == 4)=true:=by simp [k4]
   unfold Bo EP
   refine Qqp q n2 n3 b4 ?_
   refine Mv h rfl C1 (λ hu=>?_) λ bv B w' hu h'=>?_
   · rw [G6,hW,(hB none).2 (by rw [if_neg k2,if_neg k3,if_pos k4,hu];rfl)]
     rfl
   · have hBl:=B6 hu
     refine Qqh (Za h'.o6).1 ?_
     exact done ⟨mkB t,Yp s,a,0,0,B,[]⟩ bv Yb _ h' ((hB _).2 (by rw [if_neg k2,if_neg k3,if_pos k4,hu,k4];rfl)) htl hal (by show B.length≤_;omega) (Nat.zero_le _)
 have n4:(Yp s == 4)=false:=by simp [k4]
 by_cases k5:Yp s=5
 · have b5:(Yp s == 5)=true:=by simp [k5]
   unfold Bo EP LA
   refine QqK q n2 n3 n4 b5 ?_
   refine OJ h rfl C1 (λ u hu=>by have:=hcl u hu;omega) (by simp) λ tv w' h'=>?_
   refine Qqh (Za h'.o6).1 ?_
   have hd:(t::s::rest).drop 3=rest.tail:=by cases rest<;>rfl
   rw [hd] at h'
   exact done ⟨mkB t,Yp s,a,0,0,[],rest.tail.map UJ⟩ Yb tv _ h' ((hB _).2 (by rw [if_neg k2,if_neg k3,if_neg k4,if_pos k5,k5])) htl hal (Nat.zero_le _) (by show (rest.tail.map UJ).length≤_;rw [List.length_map,List.length_tail];simp only [List.length_cons] at hcn;omega)
 have n5:(Yp s == 5)=false:=by simp [k5]
 unfold Bo EP LA
 refine QqK q n2 n3 n4 n5 ?_
 exact done ⟨mkB t,Yp s,a,0,0,[],[]⟩ Yb Yb _ h ((hB _).2 (by rw [if_neg k2,if_neg k3,if_neg k4,if_neg k5])) htl hal (Nat.zero_le _) (Nat.zero_le _)
def OH (hW:Ye 32 l=t::s::rest) (hl:l.length≤80000) (h:RuZ w0 w p2 p6 ⟨mkB t,Yp s,⟨#[]⟩,0,0,[],[]⟩ Yb Yb (.slice (some ⟨g,0,none⟩) (t::s::rest).length cap) (t::s::rest)) :
 ES (.string (mkB l)) (Qq5 p2) (Qq5 p6) (.slice (some ⟨g,0,none⟩) (t::s::rest).length cap) (ZE (QK w0 l)) w:=by
 have hz:=qK s
 have hn:(t::s::rest).length≤80001:=by
  rw [← hW]
  have:=VR 32 l
  omega
 have ZbM:(t::s::rest)[(t::s::rest).length - 1]?=some ((t::s::rest).getLast?.getD []):=by
  rw [← List.getLast?_eq_getElem?]
  cases hg:(t::s::rest).getLast? with
  | none=>simp at hg
  | some u=>rfl
 have hc:=h.at ZbM
 have q:=(Za h.o6).1
 have hm:IntKind.i64.wrap (((t::s::rest).length:Int) - 1)=(((t::s::rest).length - 1:Nat):Int):=by
  rw [Z0 C1 C1]
  simp only [List.length_cons]
  omega
 have dk:(((t::s::rest).length - 1:Nat):Int) < ((t::s::rest).length:Int):=by simp only [List.length_cons];omega
 have hd3:∀ a,a=(if UL (Yp s)=true then mkB (rest[0]?.getD []) else ⟨#[]⟩)→∀ w',RuZ w0 w' p2 p6 ⟨mkB t,Yp s,a,0,0,[],[]⟩ Yb Yb (.slice (some ⟨g,0,none⟩) (t::s::rest).length cap) (t::s::rest)→ER (.string (mkB l)) (Qq5 p2) (Qq5 p6) (.slice (some ⟨g,0,none⟩) (t::s::rest).length cap) (.string (mkB ((t::s::rest).getLast?.getD []))) (ZE (QK w0 l)) w':=λ a ha w' h'=>TO hW hl ha h'
 have hat2:∀ w' a,RuZ w0 w' p2 p6 ⟨mkB t,Yp s,a,0,0,[],[]⟩ Yb Yb (.slice (some ⟨g,0,none⟩) (t::s::rest).length cap) (t::s::rest)→∀ u,rest[0]?=some u→w'.cell? ⟨g,2,none⟩=some (.string (mkB u)):=λ w' a h' u hu=>h'.at (j:=2) hu
 generalize hL:(t::s::rest).getLast?.getD []=z at hc hd3
 have YJ:(t::s::rest).length=rest.length+2:=rfl
 clear ZbM
 generalize (t::s::rest)=W at *
 unfold ES
 refine Qqp hm dk hc q ?_
 refine zcr (Gm w (Yp s) hz.1 hz.2) λ w1 e1=>?_
 have h1:=h.go e1
 refine Zi (Jj w1 _ 102 (Ku _)) ?_
 rintro _ w2 ⟨rfl,hw⟩
 rw [hw]
 clear hw
 have hfr:ya (WT (Yp s)) 102=UL (Yp s):=by
  obtain ⟨n,hn⟩:∃ n:Nat,Yp s=n:=⟨(Yp s).toNat,by omega⟩
  rw [hn]
  exact Zeu ⟨n,by omega⟩
 rw [hfr]
 unfold SU
 cases hu:UL (Yp s) with
 | false=>
  rw [hu] at hd3
  refine Qqv ?_
  exact hd3 _ rfl w1 h1
 | true=>
  rw [hu] at hd3
  cases rest with
  | nil=>
   have d2:decide ((W.length:Int) > 2)=false:=by simp only [decide_eq_false_iff_not];rw [YJ];simp
   refine Qqh d2 ?_
   exact hd3 _ rfl w1 h1
  | cons u r=>
   have d2:decide ((W.length:Int) > 2)=true:=by simp only [decide_eq_true_eq];rw [YJ];simp only [List.length_cons];omega
   have dw:(2:Int) < (W.length:Int):=by rw [YJ];simp only [List.length_cons];omega
   have h2:=hat2 w1 _ h1 u rfl
   unfold SS
   refine Qqh d2 ?_
   try unfold X0
   rw [ZZ underlying94 ty9 g 0 W.length cap .i64 2 K7 dw,show 0+(2:Int).toNat*1=2 from rfl]
   refine Qqm h2 (Za h1.o6).1 (Za h1.o6).2 ?_
   exact hd3 (mkB u) rfl _ (h1.set (x':=⟨mkB t,Yp s,mkB u,0,0,[],[]⟩) 2 (.string (mkB u)) rfl rfl rfl)
end
def OG (w0:Wd) (l:List UInt8) (hl:l.length≤80000):Ret Pg 54 #[.string (mkB l)] w0 (QK w0 l):=by
 refine Zln (R:=ZE _) ?_;unfold n68
 refine Qqv ?_
 have o2:=Zt w0 (Zo J9 Yb Yb).toArray 43
 have e2:Ext w0 (w0.alloc (.cells (Zo J9 Yb Yb).toArray 43)):=(Ext.refl w0).alloc _
 change ZU _ _ _ _ (w0.alloc (.cells (Zo J9 Yb Yb).toArray 43)) _
 generalize (w0.alloc (.cells (Zo J9 Yb Yb).toArray 43))=V at o2 e2 ⊢
 have l2:w0.heap.size≤w0.heap.size:=Nat.le_refl _
 have hp2:=(Qqj o2).1
 generalize hp:w0.heap.size=p2 at o2 hp2 ⊢
 refine Zi (zD V l 32 C1) ?_
 rintro wv w1 ⟨hO,e1⟩
 have o2:=e1.obj o2
 have e:=e2.trans e1
 have hO:=hO.base e2.size
 unfold SW
 cases hW:Ye 32 l with
 | nil=>exact absurd hW (QE _ _)
 | cons t r=>
  rw [hW] at hO
  obtain ⟨g,cap,rfl,hg0,_,hTg,_,hE⟩:=hO.row (λ _=>rfl) (by simp)
  have hll:((t::r).map mkB).length=(t::r).length:=List.length_map ..
  rw [hll] at hO ⊢
  cases r with
  | nil=>
   have hnone:Xt l=none:=by rw [G6,hW];rfl
   have d1:decide ((([t]:List (List UInt8)).length:Int) < 2)=true:=rfl
   refine Qqh d1 ?_
   exact DO e o2 hnone
  | cons s rest=>
   have YJ:(t::s::rest).length=rest.length+2:=rfl
   have d1:decide (((t::s::rest).length:Int) < 2)=false:=by simp only [decide_eq_false_iff_not];rw [YJ];omega
   have dw:(0:Int) < ((t::s::rest).length:Int):=by rw [YJ];omega
   have h0:w1.cell? ⟨g,0,none⟩=some (.string (mkB t)):=by simpa using hE 0 (mkB t) rfl 0 _ rfl
   unfold SV
   refine Qqh d1 ?_
   have oX:=Zt w1 qu 9
   have eX:Ext w1 (w1.alloc (.cells qu 9)):=(Ext.refl w1).alloc _
   change opV _ _ _ (w1.alloc (.cells qu 9)) _
   generalize (w1.alloc (.cells qu 9))=X at oX eX ⊢
   have hpb:=(Qqj oX).1
   generalize w1.heap.size=pb at oX hpb ⊢
   try unfold X0
   rw [ZZ underlying94 ty9 g 0 (t::s::rest).length cap .i64 0 K7 dw,show 0+(0:Int).toNat*1=0 from rfl]
   refine Qqh (eX.cell h0) ?_
   have oY:=Zt X (Zo ⟨mkB t,0,⟨#[]⟩,0,0,[],[]⟩ Yb Yb).toArray 43
   have eY:Ext X (X.alloc (.cells (Zo ⟨mkB t,0,⟨#[]⟩,0,0,[],[]⟩ Yb Yb).toArray 43)):=(Ext.refl X).alloc _
   change YW _ _ (X.alloc (.cells (Zo ⟨mkB t,0,⟨#[]⟩,0,0,[],[]⟩ Yb Yb).toArray 43))
   generalize (X.alloc (.cells (Zo ⟨mkB t,0,⟨#[]⟩,0,0,[],[]⟩ Yb Yb).toArray 43))=Y at oY eY ⊢
   have eXY:=eX.trans eY
   have s1:=e.size
   have s2:=e1.size
   have s3:=eX.size
   have n26:p2≠X.heap.size:=C1
   have nb:pb≠X.heap.size:=C1
   have l6:w0.heap.size≤X.heap.size:=C1
   generalize X.heap.size=p6 at oY n26 nb l6 ⊢
   exact OI ⟨e.trans eXY,by omega,l6,n26,eXY.obj o2,oY,ZM.nil _ _ _ _ _,ZM.nil _ _ _ _ _,hO.ext eXY⟩ (eY.obj oX) nb rfl λ w' h'=>OH hW hl h'
def Zdb a R w:=
 opV Pg (build 24 #[]) (Zc R) w λ b w=>
 S0 24 a b R w λ w=>
 qW Pg 24 a w λ r0=>
 R (.returned (.tuple #[r0,(QqQ 1),(.bool false)])) w
def Zdc a b c (d:KV) R w:=
 opV Pg (indexAt 94 c (QqQ 1)) (Zc R) w λ e w=>
 L0 9 e R w λ f w=>
 F0 24 a 0 R w λ g w=>
 S0 9 g f R w λ w=>
 d b w
def Zdd e f g b h i (j:KV) R w:=
 Zx h (.bool true) i λ c=>
 Zp (λ (a:Vl) (w:Wd)=>
 Zx c (.bool true) a λ k=>
 Zr k (
 Zdb e R w) (
 Zdc f g b j R w)) λ d=>
 Zm c false (
 opV Pg (indexAt 94 b (QqQ 1)) (Zc R) w λ l w=>
 L0 9 l R w λ m w=>
 C0 39 #[m] R w λ n w=>
 N0 n R w λ a w=>
 d a w) (
 d undef w)
def Zde b c d e (a:WPr) (f:KV) R w:=
 M0 22 d c a λ g=>
 J0 60 g 2 a λ h=>
 S0 58 h e R w λ w=>
 WB w λ i w=>
 f b w
def Zdf b d e c (a:WPr) (f:KV) R w:=
 J0 24 b 1 a λ g=>
 I0 22 g a λ h=>
 J0 24 b 1 a λ i=>
 I0 22 i a λ j=>
 M0 22 j c a λ k=>
 J0 60 k 2 a λ l=>
 I0 58 l a λ m=>
 I0 43 e a λ n=>
 opV Pg (buildSlice 58 1 #[(0,n)]) (Zc R) w λ o w=>
 a w∧(
 opV Pg (Builtin.append_ #[58,58] 58 #[m,o]) (Zc R) w λ p w=>
 a w∧(
 Zde d c h p a f R w))
def Zdg b c d (a:WPr) (e:KV) R w:=
 opV Pg (Builtin.append_ #[22,22] 22 #[c,d]) (Zc R) w λ f w=>
 a w∧(
 J0 24 b 1 a λ g=>
 S0 22 g f R w λ w=>
 WB w λ h w=>
 e (.bool true) w)
def SM b c (a:WPr) (d:KV) R w:=
 J0 24 b 1 a λ e=>
 I0 22 e a λ f=>
 qV Pg a (indexAt 94 c (QqQ 1)) λ g=>
 I0 9 g a λ h=>
 qV Pg a (indexAt 94 c (QqQ 2)) λ i=>
 I0 9 i a λ j=>
 qV Pg a (build 60 #[(0,h),(1,j)]) λ k=>
 opV Pg (buildSlice 22 1 #[(0,k)]) (Zc R) w λ l w=>
 a w∧(
 Zdg b f l a d R w)
def Nc a b R w:=
 opV Pg (build 24 #[]) (Zc R) w λ c w=>
 B0 .add 3 true b (QqQ 1) R w λ d w=>
 S0 24 a c R w λ w=>
 qW Pg 24 a w λ r0=>
 R (.returned (.tuple #[r0,d,(.bool false)])) w
def ja e f g b h i (j:KV) R w:=
 Zx h i (.bool false) λ c=>
 Zp (λ (a:Vl) (w:Wd)=>
 Zx c a (.bool false) λ k=>
 Zr k (
 Z4 w λ l w=>
 SM f b l j R w) (
 Nc e g R w)) λ d=>
 Zm c true (
 opV Pg (indexAt 94 b (QqQ 2)) (Zc R) w λ m w=>
 L0 9 m R w λ n w=>
 C0 39 #[n] R w λ a w=>
 d a w) (
 d undef w)
def zl e f g b h i (j:KV) R w:=
 Zx h i (.bool false) λ c=>
 Zp (λ (a:Vl) (w:Wd)=>
 ja e f g b c a j R w) λ d=>
 Zm c true (
 opV Pg (indexAt 94 b (QqQ 1)) (Zc R) w λ k w=>
 L0 9 k R w λ l w=>
 C0 39 #[l] R w λ a w=>
 d a w) (
 d undef w)
def zo e f g b h i (j:KV) R w:=
 Zx h i (.bool false) λ c=>
 Zp (λ (a:Vl) (w:Wd)=>
 zl e f g b c a j R w) λ d=>
 Zm c true (
 opV Pg (indexAt 94 b (QqQ 0)) (Zc R) w λ k w=>
 L0 9 k R w λ l w=>
 opV Pg (ZA .eql 9 true l (.string { data := #[109,97,112] })) (Zc R) w λ a w=>
 d a w) (
 d undef w)
def Lv a b c (d:KV) R w:=
 F0 24 a 1 R w λ e w=>
 L0 22 e R w λ f w=>
 G0 22 3 f R w λ g w=>
 B0 .sub 3 true g (QqQ 1) R w λ h w=>
 Z4 w λ i w=>
 Zdf a b c h i d R w
def EN e f g h b (i:KV) R w:=
 N0 g R w λ c w=>
 Zp (λ (a:Vl) (w:Wd)=>
 zo e f h b c a i R w) λ d=>
 Zm c true (
 G0 94 3 b R w λ j w=>
 B0 .eql 3 true j (QqQ 3) R w λ a w=>
 d a w) (
 d undef w)
def Lw e b a f g h i (c:KV) R w:=
 Zp (λ (j:Vl) (w:Wd)=>
 Zx a j (.bool false) λ k=>
 Zr k (
 Lv b a g c R w) (
 EN e b a f h c R w)) λ d=>
 Zm a true (
 d i w) (
 d undef w)
def EO e f g a (h:KV) R w:=
 G0 94 3 a R w λ i w=>
 B0 .neq 3 true i (QqQ 2) R w λ c w=>
 Zp (λ (b:Vl) (w:Wd)=>
 Zdd e f g a c b h R w) λ d=>
 Zm c false (
 opV Pg (indexAt 94 a (QqQ 0)) (Zc R) w λ j w=>
 L0 9 j R w λ k w=>
 opV Pg (ZA .neq 9 true k (.string { data := #[109,97,112,112,105,110,103] })) (Zc R) w λ b w=>
 d b w) (
 d undef w)
def Bj f g a c h i j k (d:KV) R w:=
 Zp (λ (b:Vl) (w:Wd)=>
 Zx a b (.bool false) λ l=>
 Zr l (
 d (.bool false) w) (
 Lw f g a c h j k d R w)) λ e=>
 Zm a true (
 X0 94 i c R w λ m w=>
 L0 9 m R w λ n w=>
 opV Pg (ZA .eql 9 true n (.string { data := #[101,110,100] })) (Zc R) w λ b w=>
 e b w) (
 e undef w)
def SG c d a b i e f (Zz:KW) R w:=
 E0q f 0 R w λ j w=>
 E0q f 1 R w λ k w=>
 opV Pg (alloc 43 true (.tuple #[])) (Zc R) w λ g w=>
 S0 43 g j R w λ w=>
 B0 .eql 3 true b (QqQ 0) R w λ l w=>
 Zp (λ (a:Vl) (w:Wd)=>
 B0 .add 3 true b (QqQ 1) R w λ m w=>
 Zz a m w) λ h=>
 Zr l (
 EO c d a e h R w) (
 Bj c d a b g i e k h R w)
def SH c d e a b f (Zz:KW) R w:=
 X0 94 b a R w λ g w=>
 L0 9 g R w λ h w=>
 C0 54 #[h] R w λ i w=>
 SG c d e a b f i Zz R w
def Lx a b R w:=
 opV Pg (build 24 #[]) (Zc R) w λ c w=>
 G0 94 3 b R w λ d w=>
 S0 24 a c R w λ w=>
 qW Pg 24 a w λ r0=>
 R (.returned (.tuple #[r0,d,(.bool false)])) w
def SI a b R w:=
 L0 24 b R w λ c w=>
 S0 24 a c R w λ w=>
 qW Pg 24 a w λ r0=>
 R (.returned (.tuple #[r0,(QqQ 0),(.bool true)])) w
def SJ c f a g h R w:=
 Zx g (.bool true) h λ d=>
 Zp (λ (b:Vl) (w:Wd)=>
 Zx d (.bool true) b λ i=>
 Zr i (
 Lx c a R w) (
 SI c f R w)) λ e=>
 Zm d false (
 G0 94 3 a R w λ j w=>
 B0 .sub 3 true j (QqQ 1) R w λ k w=>
 X0 94 a k R w λ l w=>
 L0 9 l R w λ m w=>
 opV Pg (ZA .neq 9 true m (.string { data := #[] })) (Zc R) w λ b w=>
 e b w) (
 e undef w)
def Ly d e f a R w:=
 G0 94 3 a R w λ g w=>
 B0 .eql 3 true g (QqQ 1) R w λ b w=>
 Zp (λ (h:Vl) (w:Wd)=>
 SJ d e a b h R w) λ c=>
 Zm b false (
 c f w) (
 c undef w)
def SK c d e a b (Zz:KW) R w:=
 X0 94 b a R w λ f w=>
 L0 9 f R w λ g w=>
 C0 53 #[g,(.int .u8 32)] R w λ h w=>
 SH c d e a b h Zz R w
def SL b c d e a (Zz:KW) R w:=
 B0 .add 3 true e (QqQ 1) R w λ f w=>
 G0 94 3 a R w λ g w=>
 B0 .lss 3 false f g R w λ h w=>
 Zr h (
 SK b c d e a Zz R w) (
 Ly b c d a R w)
def n59 a R w:=
 opV Pg (alloc 24 true (.tuple #[])) (Zc R) w λ b w=>
 C0 53 #[a,(.int .u8 10)] R w λ c w=>
 opV Pg (alloc 24 true (.tuple #[])) (Zc R) w λ d w=>
 Wy (λ e f w Zz=>
 SL b d e f c Zz R w) (.bool false) (QqQ 0) w
def Zle:QqX1 23 n59:=λ h=>by
 refine yD func23 ?_
 refine zs<|zr<|yv h λ h=>zm<|zm<|zn<|zk<|zs<|zr<|zm<|yc h c53 λ h=>zm<|zn<|zk<|zs ?_
 refine zr<|yv h λ h=>zn<|zk<|zs<|zr<|zm<|zn<|zk<|zs<|zs<|zr<|zm<|zn<|zk ?_
 refine Zl<|yl2 [3,4,7,8,9,10,11,12,15,16,17,18,19,20,21,22,23,24,25,26,27,28,29,30,31,32,33,34,35,36,37,38,39,40,41,42,43,44,45,46,47,48,49,50,51,52,53,54,55,56,57,58,59,60,61,62,63,64,65,66,67,68,69,70,71,72,73,74,75,76,77,78,79,80,81,82,83,84,85,86,87,88,89,90,91,92,93,94,95,96,97,98,99,100,101,102,103,104,105,106,107,108,109,110,111,112,113,114,115,116,117,118,119,120,121,122,123,124,125,126,127,128,129,130,131] 7 8 h λ σ w next h=>zs<|zs<|zr<|zm<|yb h λ h=>zm<|yx h λ h=>yb h λ h=>zn<|zk<|yC h (λ h=>?_) λ h=>?_
 · refine Zk<|zk<|zs<|Zl<|zs<|zr<|zm<|zm<|yv h λ h=>yv h λ h=>yc h c53 λ h=>zm<|zn<|zk<|zs ?_
   refine zr<|zm<|zm<|yv h λ h=>yv h λ h=>yc h c54 λ h=>zm<|yv h λ h=>yv h λ h=>yv h λ h=>yu h λ h=>zm<|zn<|zk<|Zl ?_
   refine zs<|zr<|zm<|yb h λ h=>zm<|zn<|zk<|yJ1 [3,4,7,12,35,36,37,41,42,43,44,45,46,47,48,49,50,51,52,53,54,55,56,57,58,59,60,61,62,63,64,65,66,67,68,69,70,71,72,73,74,75,76,77,78,79,80,81,82,83,84,85,86,87,88,89,90,91,92,93,94,95,96,97,98,99,100,101,102,103,104,105,106,107,108,109,110,111,112,113,114,115,116,117,118,119,120,121,122,123,124,125,126,127,128,129,130,131] 7 h (λ _ _ hkK2 h=>?_) λ σ w h=>?_
   · refine yC h (λ h=>?_) λ h=>?_
     · refine zs<|zs<|Zq<|yG 4<|zm<|yx h λ h=>yb h λ h=>zm<|zn<|yg1 4 3 false [45,46,47,48] 48 h (λ _ T hT h=>?_) λ σ w h=>?_
       · refine zm<|yv h λ h=>yv h λ h=>yb h λ h=>zn ?_
         exact zt hT h
       refine yG 2<|yp h λ h=>zm<|zn<|yg1 5 9 false [51,52,53,54,55] 55 h (λ _ T hT h=>?_) λ σ w h=>?_
       · refine zm<|yv h λ h=>yv h λ h=>yc h c39 λ h=>yv h λ h=>zn ?_
         exact zt hT h
       refine yG 1<|yp h λ h=>zn<|ZG<|zk<|yC h (λ h=>?_) λ h=>?_
       · refine zs<|zr<|yB h λ h=>yu h λ h=>zm<|zm<|zn<|zk<|Zg<|Zb<|Zb<|Zh<|Zh<|Zb<|Zb ?_
         exact Zh<|Zb<|Wt rfl rfl rfl rfl h
       refine Zk<|zk<|zr<|zm<|yv h λ h=>yv h λ h=>yv h λ h=>yu h λ h=>zn<|zk ?_
       exact zt hkK2 h
     refine zs<|Zq<|yG 2<|zm<|zm<|zn<|yg1 5 1 true [65,66,67,68,69] 69 h (λ _ T hT h=>?_) λ σ w h=>?_
     · refine zm<|zm<|yv h λ h=>yv h λ h=>yb h λ h=>zn ?_
       exact zt hT h
     refine yG 2<|yp h λ h=>zm<|zn<|ZG<|zk<|yC h (λ h=>?_) λ h=>?_
     · refine zr<|zm<|zn<|zk ?_
       exact zt hkK2 h
     refine zs<|Zq<|yG 2<|zm<|zm<|zn<|yg1 1 1 true [74] 74 h (λ _ T hT h=>?_) λ σ w h=>?_
     · refine zm<|zn ?_
       exact zt hT h
     refine yG 2<|yp h λ h=>zm<|zn<|ZG<|zk<|yC h (λ h=>?_) λ h=>?_
     · refine zs<|zr<|yv h λ h=>yv h λ h=>yx h λ h=>yb h λ h=>zm<|zn<|zk<|yh [80,81,82,83,84,85,86,87,88,89,90,91,92,93] h λ C hC h=>ye 0 hC h λ h=>?_
       refine ye 1 hC h λ h=>?_
       refine yw 2 hC ?_
       refine ye 3 hC h λ h=>?_
       refine ye 4 hC h λ h=>?_
       refine yw 5 hC ?_
       refine ye 6 hC h λ h=>?_
       refine ye 7 hC h λ h=>?_
       refine ye 8 hC h λ h=>?_
       refine ye 9 hC h λ h=>?_
       refine yo 10 ?_
       refine yS h λ h=>zn ?_
       obtain ⟨hC,h⟩:=h
       refine ⟨hC,?_⟩
       refine yo 11 ?_
       refine yx h λ h=>zn ?_
       obtain ⟨hC,h⟩:=h
       refine ⟨hC,?_⟩
       refine ye 12 hC h λ h=>?_
       refine ye 13 hC h λ h=>?_
       refine yq 14 2 ?_
       refine yu h λ h=>zn ?_
       obtain ⟨C8,hC,h⟩:=h
       refine ⟨C8,hC,?_⟩
       refine yz<|zk ?_
       exact zt hkK2 h
     refine zs<|Zq<|yG 3<|zm<|yv h λ h=>zm<|zn<|yg1 3 2 true [98,99,100] 100 h (λ _ T hT h=>?_) λ σ w h=>?_
     · refine zm<|yx h λ h=>yb h λ h=>zn ?_
       exact zt hT h
     refine yG 2<|yp h λ h=>zm<|zn<|yg1 4 7 true [103,104,105,106] 106 h (λ _ T hT h=>?_) λ σ w h=>?_
     · refine zm<|yv h λ h=>yv h λ h=>yb h λ h=>zn ?_
       exact zt hT h
     refine yG 2<|yp h λ h=>zm<|zn<|yg1 4 13 true [109,110,111,112] 112 h (λ _ T hT h=>?_) λ σ w h=>?_
     · refine zm<|yv h λ h=>yv h λ h=>yc h c39 λ h=>zn ?_
       exact zt hT h
     refine yG 2<|yp h λ h=>zm<|zn<|yg1 4 19 true [115,116,117,118] 118 h (λ _ T hT h=>?_) λ σ w h=>?_
     · refine zm<|yv h λ h=>yv h λ h=>yc h c39 λ h=>zn ?_
       exact zt hT h
     refine yG 2<|yp h λ h=>zm<|zn<|ZG<|zk<|yC h (λ h=>?_) λ h=>?_
     · refine zs<|zr<|zm<|zn<|zk<|yh [120,121,122,123,124,125,126,127,128,129,130,131] h λ C hC h=>ye 0 hC h λ h=>?_
       refine ye 1 hC h λ h=>?_
       refine yw 2 hC ?_
       refine ye 3 hC h λ h=>?_
       refine ye 4 hC h λ h=>?_
       refine yw 5 hC ?_
       refine ye 6 hC h λ h=>?_
       refine ye 7 hC h λ h=>?_
       refine ye 8 hC h λ h=>?_
       refine yo 9 ?_
       refine yS h λ h=>zn ?_
       obtain ⟨hC,h⟩:=h
       refine ⟨hC,?_⟩
       refine yo 10 ?_
       refine yx h λ h=>zn ?_
       obtain ⟨hC,h⟩:=h
       refine ⟨hC,?_⟩
       refine ye 11 hC h λ h=>?_
       refine yq 12 1 ?_
       refine yu h λ h=>zn ?_
       obtain ⟨C14,hC,h⟩:=h
       refine ⟨C14,hC,?_⟩
       refine yz<|zk ?_
       exact zt hkK2 h
     refine zs<|zr<|yB h λ h=>zm<|yb h λ h=>yu h λ h=>zm<|zm<|zn<|zk<|Zg<|Zb<|Zh<|Zh<|Zb ?_
     exact Zb<|Zh<|Zb<|Wt rfl rfl rfl rfl h
   exact Zf<|Zf<|zk<|zr<|zm<|yb h λ h=>zm<|zn<|zk<|⟨rfl,h⟩
 refine ZN<|Ze<|Ze<|Zs<|zk<|zs<|zs<|Zq<|yG 4<|zm<|yx h λ h=>yb h λ h=>zm<|zn<|yg1 1 3 false [136] 136 h (λ _ T hT h=>?_) λ σ w h=>?_
 · refine zm<|zn ?_
   exact zt hT h
 refine yG 2<|yp h λ h=>zm<|zn<|yg1 7 6 false [139,140,141,142,143,144,145] 145 h (λ _ T hT h=>?_) λ σ w h=>?_
 · refine zm<|zm<|yx h λ h=>yb h λ h=>yv h λ h=>yv h λ h=>yb h λ h=>zn ?_
   exact zt hT h
 refine yG 1<|yp h λ h=>zn<|ZG<|zk<|yC h (λ h=>zs<|zr<|yB h λ h=>zm<|yx h λ h=>yu h λ h=>zm<|zm<|zn<|zk<|Zg<|Zb<|Wt rfl rfl rfl rfl h) λ h=>Zk<|zk<|zs<|zr<|yv h λ h=>yu h λ h=>zm<|zm ?_
 exact zn<|zk<|Zg<|Wt rfl rfl rfl rfl h
section
variable {b16:Nat} {lcs:AVl} {w0 w w1:Wd} {p2 p12 B bw cw:Nat} {nm:BAr} {done:List MrD} {rv t7:Vl} {r:MrD} {a b:BAr} {K2:KV} {R:RT}
def Mr (h:PS b16 lcs w0 w1 p2 B ⟨nm,done,none⟩ rv) (e:Ext w1 w) (hl:done.length≤1048576) (hbw:w1.heap.size≤bw) (ha:w.cell? ⟨bw,1,none⟩=some (.string a)) (hb:w.cell? ⟨bw,2,none⟩=some (.string b))
 (hK:∀ w' rv',PS b16 lcs w0 w' p2 B ⟨nm,done,some ⟨a,b,[]⟩⟩ rv'→(∀ b,w.heap[b]?=some (.cells #[.string ⟨#[]⟩,.slice none 0 0] 24 (0,0))→b≠p2→w'.heap[b]?=some (.cells #[.string ⟨#[]⟩,.slice none 0 0] 24 (0,0)))→K2 (.bool true) w') :
 Z4 w λ C w=>SM (Qq5 p2) (.slice (some ⟨bw,0,none⟩) 3 cw) C K2 R w:=by
 obtain ⟨css,dss,hO1,m1,m2⟩:=h.row
 have:dss=[]:=List.eq_nil_of_length_eq_zero m2.1
 subst this
 rw [List.append_nil] at hO1
 have hO:=hO1.ext e
 have lbw:bw < w.heap.size:=World.block_lt_of_cell? _ _ ha
 replace m1:=m1.imp λ _ _ (h:Cf w1 w0.heap.size w0.heap.size B _ _)=>h.ext e
 have h1:=h
 replace h:=h.go e
 obtain ⟨g,hgd⟩:∃ g,rv.ownBlock.getD w.heap.size=g:=⟨_,rfl⟩
 have n2:p2≠g:=by rw [← hgd];exact JR hO h.obj K7
 have nW:bw≠g:=by
  rw [← hgd]
  cases hv:rv.ownBlock with
  | none=>show bw≠w.heap.size;omega
  | some b=>have:=(World.ownsRow.lt hO1 b hv).2;show bw≠b;omega
 refine YX g g (w1:=w) (λ _ _ _ _=>rfl) ?_
 haveI:Yk (KB w g g):=⟨⟨w,λ _ _ _ _=>rfl⟩⟩
 have q:=Za h.obj
 unfold SM
 refine Qqh q.1 ?_
 rw [Yc λ QP w' k'=>ZZ (k:=k') underlying94 ty9 bw 0 3 cw .i64 1 K7 K7,show 0+(1:Int).toNat*1=1 from rfl]
 refine Qqh ha ?_
 rw [Yc λ QP w' k'=>ZZ (k:=k') underlying94 ty9 bw 0 3 cw .i64 2 K7 K7,show 0+(2:Int).toNat*1=2 from rfl]
 refine Qqh hb ?_
 have eV:Ext w (w.drew.alloc (Obj.cells #[Value.string a,Value.string b,Value.slice none 0 0] 60)):=(Ext.refl w).drew.alloc _
 have oV:=Zt w.drew #[Value.string a,Value.string b,Value.slice none 0 0] 60
 rw [World.size_drew] at oV
 generalize (w.drew.alloc (Obj.cells #[Value.string a,Value.string b,Value.slice none 0 0] 60))=V at eV oV ⊢
 refine ⟨λ b hb _ _=>eV.block b hb,?_⟩
 have hOV:=hO.ext eV
 have hll:css.length=done.length:=m1.1
 have hr1:rv.oneCell'=true:=h.one
 unfold Zdg
 refine CO (x:=⟨YZ ⟨a,b,[]⟩ (.slice none 0 0),rfl⟩) (λ u hu=>?_) hOV oV (Nat.le_trans h.e.size eV.size) C1 ?_
 · simp only [List.mem_cons,List.not_mem_nil,or_false] at hu
   rcases hu with rfl | rfl | rfl<;>rfl
 intro v' w' hO' hg
 have e16:=Xe hOV hg (eV.obj h.ln) K7
 have e2:=Xe hOV hg (eV.obj h.obj) K7
 refine ⟨λ b hb hbg _=>(hg.block b (Nat.lt_of_lt_of_le hb eV.size) λ e=>hbg (by rw [← hgd,← e];rfl)).trans (eV.block b hb),?_⟩
 have lo:∀ b,rv.ownBlock=some b→w0.heap.size≤b:=λ b hb=>(World.ownsRow.lt hO b hb).1
 have e':Ext w0 w':=(h.e.trans eV).grown hg lo
 have v1:v'.oneCell'=true:=Zd.oneCell (hO'.slice (E:=λ _ cs x=>cs=x.1) (λ x=>x.2) (λ _ _=>rfl))
 refine Qqb (Za e2).1 (Za e2).2 ?_
 refine Yx ?_
 have n16:b16≠p2:=by
  rintro rfl
  have:=h.ln.symm.trans h.obj
  cases this
 have hc:Chg p2 w' (w'.setCell ⟨p2,1,none⟩ v'):=⟨by rw [World.size_setCell];exact Nat.le_refl _,λ b _ hb=>YA.setCell _ p2 _ _ b hb⟩
 have hz:(w'.setCell ⟨p2,1,none⟩ v').heap.size=w'.heap.size:=World.size_setCell ..
 refine hK _ v' ⟨(hc.block b16 (Qqj e16).1 n16).trans e16,e'.setCell (p:=⟨p2,1,none⟩) h.lp _,h.lp,Zy (o:=1) e2 _,h.b1,?_,css,[⟨YZ ⟨a,b,[]⟩ (.slice none 0 0),rfl⟩],Xq hO' hc (YT hO' e2 K7),m1.imp λ _ _ ⟨fv,g1,g2⟩=>⟨fv,g1,((g2.ext eV).growT hOV hg K7 K7 K7).chgT hc e2 K7 K7 K7⟩,rfl,λ k x cs hx hcs=>?_⟩ λ b hb Y7=>(hc.block b (Qqj (Xe hOV hg (eV.obj hb) K7)).1 Y7).trans (Xe hOV hg (eV.obj hb) K7)
 · rw [hz]
   exact Nat.le_trans h.b2 (Nat.le_trans eV.size hg.size)
 · cases k with
   | succ k=>simp at hx
   | zero=>
    simp at hx hcs
    subst hx hcs
    exact ⟨_,rfl,[],ZM.nil _ _ _ _ _,(λ b hb=>by cases hb),rfl,λ k x cs hx=>by simp at hx⟩
def H3 (h:PS b16 lcs w0 w1 p2 B ⟨nm,done,some r⟩ rv) (e:Ext w1 w) (hp:w1.heap.size≤p12) (x:FrD) (bv tv:Vl) (o12:w.heap[p12]?=some (.cells (Zo x bv tv).toArray 43 (0,0))) (hb:ZM w w0.heap.size 5 1 Xp bv x.bytes) (ht:ZM w w0.heap.size 78 3 ZW tv x.table) (hl:done.length≤1000000) (hf:r.fields.length≤1048576)
 (hK:∀ w' rv',PS b16 lcs w0 w' p2 B ⟨nm,done,some ⟨r.fr,r.to,r.fields++[x]⟩⟩ rv'→(∀ b,w.heap[b]?=some (.cells #[.string ⟨#[]⟩,.slice none 0 0] 24 (0,0))→b≠p2→w'.heap[b]?=some (.cells #[.string ⟨#[]⟩,.slice none 0 0] 24 (0,0)))→K2 t7 w') :
 Lv (Qq5 p2) t7 (Qq5 p12) K2 R w:=by
 have h0:=h.go e
 obtain ⟨css,dss,hO,m1,m2⟩:=h.row
 obtain ⟨c,rfl⟩:∃ c,dss=[c]:=List.length_eq_one_iff.1 m2.1
 obtain ⟨fv,hcf,css7,hF,hFlt,hFm⟩:=m2.2 0 r c rfl rfl
 have hO0:=hO.ext e
 have hF0:=hF.ext e
 have YJ:(css++[c]).length=css.length+1:=by simp
 have hdl:css.length=done.length:=m1.1
 obtain ⟨gr,cap,rfl,hlo',hgs,⟨oc,f,hgr⟩,hfz,Xj⟩:=hO0.row (λ x=>x.2) (by rw [YJ];omega)
 have hEl:=Xj css.length c (by simp)
 rw [hcf] at hEl
 rw [YJ] at h0
 have hwk:IntKind.i64.wrap (((css.length+1:Nat):Int) - 1)=(css.length:Int):=by rw [Z0 C1 C1];omega
 have hr1:=h0.one
 unfold Lv
 refine Qqb (Za h0.obj).1 hwk ?_
 obtain ⟨gf,hgd⟩:∃ gf,fv.ownBlock.getD w.heap.size=gf:=⟨_,rfl⟩
 have nR:gr≠gf:=by rw [← hgd];exact JR hF0 hgr K7
 have l12:=(Qqj o12).1
 have n12:p12≠gf:=by
  rw [← hgd]
  cases hv:fv.ownBlock with
  | none=>show p12≠w.heap.size;omega
  | some g=>have:=hFlt g hv;show p12≠g;omega
 have n2f:p2≠gf:=by rw [← hgd];exact JR hF0 h0.obj K7
 have q2:=(Za h0.obj).1
 have dk:(css.length:Int) < ((css.length+1:Nat):Int):=C1
 refine YX gf gf (w1:=w) (λ _ _ _ _=>rfl) ?_
 haveI:Yk (KB w gf gf):=⟨⟨w,λ _ _ _ _=>rfl⟩⟩
 have q12:=Za o12
 have hfc:w.cell? ⟨gr,css.length*3+2,none⟩=some fv:=hEl 2 fv rfl
 have L12:∀ w',KB w gf gf w'→QC Pg w' 43 ⟨p12,0,none⟩ (.agg (Zo x bv tv).toArray):=λ w' hw'=>QC.many Vr rfl (λ j u hu=>by
  rw [Addr.add_lit]
  exact KB.cell (b:=p12) hw' n12 n12 (by rw [q12.1];simpa using hu))
 unfold Zdf
 simp (disch:=try exact DI) only [↓PR,QR,simprocAttr,q2,hwk,dk,hfc,Nat.zero_add]
 rw [BB L12]
 refine Qqv ?_
 have eV:Ext w (w.drew.alloc (Obj.cells (Zo x bv tv).toArray 43)):=(Ext.refl w).drew.alloc _
 have oV:=Zt w.drew (Zo x bv tv).toArray 43
 rw [World.size_drew] at oV
 change KB w gf gf (w.drew.alloc (Obj.cells (Zo x bv tv).toArray 43))∧opV _ _ _ (w.drew.alloc (Obj.cells (Zo x bv tv).toArray 43)) _
 generalize (w.drew.alloc (Obj.cells (Zo x bv tv).toArray 43))=V at eV oV ⊢
 refine ⟨λ b hb _ _=>eV.block b hb,?_⟩
 have hFV:=hF0.ext eV
 have hfl:css7.length=r.fields.length:=hFm.1
 have hB1:B≤w1.heap.size:=h.b2
 have hB0:w0.heap.size≤B:=h.b1
 have s1:=e.size
 have s2:=eV.size
 have ob1:bv.oneCell'=true:=Zd.oneCell (Vy hb)
 have ot1:tv.oneCell'=true:=Zd.oneCell (Qv ht)
 have hlo:∀ b,fv.ownBlock=some b→B≤b:=λ b hb=>(World.ownsRow.lt hF b hb).1
 refine CN (x:=⟨Zo x bv tv,rfl⟩) (λ u hu=>?_) hFV oV C1 C1 ?_
 · simp only [List.mem_cons,List.not_mem_nil,or_false] at hu
   rcases hu with rfl | rfl | rfl | rfl | rfl | rfl | rfl<;>first | rfl | assumption
 intro v' w' hF' hg
 refine ⟨λ b hb hbg _=>(hg.block b (Nat.lt_of_lt_of_le hb eV.size) λ e=>hbg (by rw [← hgd,← e];rfl)).trans (eV.block b hb),?_⟩
 have e16:=Xe hFV hg (eV.obj h0.ln) K7
 have e2:=Xe hFV hg (eV.obj h0.obj) K7
 have eg:=Xe hFV hg (eV.obj hgr) K7
 have e':Ext w0 w':=(h0.e.trans eV).grown hg λ b hb=>Nat.le_trans hB0 (hlo b hb)
 have hOw:=(hO0.ext eV).grown hg λ b hb hb2=>nR (by
  have:gr=b:=by simpa [Value.ownBlock] using hb
  rw [this,← hgd,hb2]
  rfl)
 obtain ⟨gr2,cap2,hv2,_,_,_,hfz2,hel2⟩:=hOw.row (λ x=>x.2) (by rw [YJ];omega)
 injection hv2 with hv2 _ _
 injection hv2 with hv2
 injection hv2 with hv2
 subst hv2
 have hEl2:=hel2 css.length c (by simp)
 rw [hcf] at hEl2
 have hfc2:w'.cell? ⟨gr,css.length*3+2,none⟩=some fv:=hEl2 2 fv rfl
 have v1:v'.oneCell'=true:=Zd.oneCell (hF'.slice (E:=λ _ cs x=>cs=x.1) (λ x=>x.2) (λ _ _=>rfl))
 unfold Zde
 simp (disch:=try exact DI) only [↓PR,QR,simprocAttr,hwk,dk,Nat.zero_add,hfc2,hfz2]
 refine Yx ?_
 have n16:b16≠gr:=by
  rintro rfl
  rw [e16] at eg
  cases eg
 have n2:p2≠gr:=by
  rintro rfl
  rw [e2] at eg
  cases eg
 have hc:Chg gr w' (w'.setCell ⟨gr,css.length*3+2,none⟩ v'):=⟨by rw [World.size_setCell];exact Nat.le_refl _,λ b _ hb=>YA.setCell _ gr _ _ b hb⟩
 have hz:(w'.setCell ⟨gr,css.length*3+2,none⟩ v').heap.size=w'.heap.size:=World.size_setCell ..
 have s3:=hg.size
 have hset:=hOw.set (k:=css.length) (cs:=c) (by simp) (j:=2) K7 v'
 rw [show (css++[c]).set css.length (⟨c.1.set 2 v',by simp [c.2]⟩:Cs 3)=css++[⟨c.1.set 2 v',by simp [c.2]⟩] by simp,YJ] at hset
 refine hK _ _ ⟨(hc.block b16 (Qqj e16).1 n16).trans e16,e'.setCell (p:=⟨gr,css.length*3+2,none⟩) hlo' _,h.lp,(hc.block p2 (Qqj e2).1 n2).trans e2,h.b1,by rw [hz];omega,css,[⟨c.1.set 2 v',by simp [c.2]⟩],hset,m1.imp λ _ _ ⟨fv2,g1,g2⟩=>⟨fv2,g1,((g2.ext (e.trans eV)).grow hFV hg K7 K7 λ g hg1 hg2=>by
  obtain ⟨_,_,Yo,_⟩:=g2
  have:=Yo g hg2
  have:=hlo g hg1
  omega).chgT hc eg K7 K7 K7⟩,rfl,λ k y cs hx hcs=>?_⟩ λ b hb _=>(hc.block b (Qqj (Xe hFV hg (eV.obj hb) K7)).1 λ e=>by rw [e] at hb;have:=(Xe hFV hg (eV.obj hb) K7).symm.trans eg;cases this).trans (Xe hFV hg (eV.obj hb) K7)
 cases k with
 | succ k=>simp at hx
 | zero=>
  simp at hx hcs
  subst hx hcs
  refine ⟨v',by show c.1.set 2 v'=_;rw [hcf];rfl,css7++[⟨Zo x bv tv,rfl⟩],Xq hF' hc (YT hF' eg K7),λ b hb=>by rw [hz];exact (World.ownsRow.lt hF' b hb).2,Gk (hFm.imp λ _ _ q=>((q.ext (e.trans eV)).grow hFV hg K7 K7).chg hc eg K7 K7) ⟨rfl,λ k y cs hx hcs=>?_⟩⟩
  cases k with
  | succ k=>simp at hx
  | zero=>
   simp at hx hcs
   subst hx hcs
   have hE:E7 w w0.heap.size (Zo x bv tv) x:=⟨bv,tv,rfl,hb,ht⟩
   exact ((hE.ext eV).grow hFV hg K7 K7).chg hc eg K7 K7
end
def EA {l:List UInt8} {s:BAr}:decide (mkB l=s)=decide (l=s.data.toList):=by
 rw [decide_eq_decide]
 constructor
 · rintro rfl;rw [XL]
 · rintro rfl;rfl
structure PZ (w0 w:Wd) (p2 p6 g16 B:Nat) (lcs:AVl) (L:List (List UInt8)) (st:PsD) (rv:Vl):Prop where
 ps:PS g16 lcs w0 w p6 B st rv
 o2:w.heap[p2]?=some (.cells #[.string ⟨#[]⟩,.slice none 0 0] 24 (0,0))
 l2:w0.heap.size≤p2
 n26:p2≠p6
 ls:∀ (k:Nat) (x:List UInt8),L[k]?=some x→lcs[k]?=some (.string (mkB x))
def Vt (w0:Wd) (o:Option Xn×Nat) (r:Vl) (w':Wd):Prop:=Ext w0 w'∧((∃ m v,o.1=some m∧r = .tuple #[v,.int .i64 0,.bool true]∧Xx w' v m)∨(o.1=none∧∃ v,r = .tuple #[v,.int .i64 (o.2:Int),.bool false]∧Xx w' v ⟨⟨#[]⟩,[]⟩))
section
variable {w0 w w1:Wd} {p2 g16 p6 p10 bw cw:Nat} {lcs:AVl} {B:Nat} {st:PsD} {rv:Vl} {l:List UInt8} {L W:List (List UInt8)} {i:Nat} {o:Option Xn×Nat}
def PZ.go (h:PZ w0 w p2 p6 g16 B lcs L st rv) (e:Ext w w1):PZ w0 w1 p2 p6 g16 B lcs L st rv:=⟨h.ps.go e,e.obj h.o2,h.l2,h.n26,h.ls⟩
def Tx (h:PZ w0 w p2 p6 g16 B lcs L st rv) (ho:o=(none,i+1)):opV Pg (build 24 #[]) (Zc (ZE (Vt w0 o))) w λ t35 w=>opU Pg (storeAt 24 (Qq5 p2) t35) (Zc (ZE (Vt w0 o))) w λ w=>qW Pg 24 (Qq5 p2) w λ r0=>ZE (Vt w0 o) (.returned (.tuple #[r0,.int .i64 ((i+1:Nat):Int),.bool false])) w:=by
 have q:=Za h.o2
 refine Qqb q.1 q.2 ?_
 refine ⟨(h.ps.e.setCell (p:=⟨p2,0,none⟩) h.l2 _).setCell (p:=⟨p2,1,none⟩) h.l2 _,.inr ⟨by rw [ho],_,by rw [ho];rfl,Yb,rfl,Zd.nil ..⟩⟩
def Me (h:PZ w0 w p2 p6 g16 B lcs L ⟨st.name,st.done,none⟩ rv) (hw:∀ (j:Nat) (s:List UInt8),W[j]?=some s→w.cell? ⟨bw,j,none⟩=some (.string (mkB s))) {K2:KV}
 (hno:Kw W=none→o=(none,0+1)) (hK:∀ n w',Kw W=some n→PZ w0 w' p2 p6 g16 B lcs L ⟨n,st.done,none⟩ rv→K2 (.bool false) w') :
 EO (Qq5 p2) (Qq5 p6) (.bool false) (.slice (some ⟨bw,0,none⟩) W.length cw) K2 (ZE (Vt w0 o)) w:=by
 have fail:∀ w',Ext w w'→Kw W=none→Zdb (Qq5 p2) (ZE (Vt w0 o)) w':=λ w' e hh=>Tx (i:=0) (h.go e) (hno hh)
 unfold EO Zdd
 match W,hw,hno,hK,fail with
 | [],hw,hno,hK,fail=>
  have d1:(((([]:List (List UInt8)).length:Nat):Int) != 2)=true:=rfl
  refine Qqh d1 ?_
  exact fail w (Ext.refl _) rfl
 | [a],hw,hno,hK,fail=>
  have d1:(((([a]:List (List UInt8)).length:Nat):Int) != 2)=true:=rfl
  refine Qqh d1 ?_
  exact fail w (Ext.refl _) rfl
 | a::b::c::r,hw,hno,hK,fail=>
  have d1:((((a::b::c::r).length:Nat):Int) != 2)=true:=by simp only [List.length_cons,bne_iff_ne];omega
  refine Qqh d1 ?_
  exact fail w (Ext.refl _) rfl
 | [a,b],hw,hno,hK,fail=>
  have d1:(((([a,b]:List (List UInt8)).length:Nat):Int) != 2)=false:=rfl
  have dw0:(0:Int) < (([a,b]:List (List UInt8)).length:Int):=by show (0:Int) < 2;decide
  have dw1:(1:Int) < (([a,b]:List (List UInt8)).length:Int):=by show (1:Int) < 2;decide
  have hh:Kw [a,b]=if a=V3∧Yq (mkB b)=true then some (mkB b) else none:=rfl
  refine Qqh d1 ?_
  try unfold X0
  rw [ZZ underlying94 ty9 bw 0 ([a,b]:List (List UInt8)).length cw .i64 0 K7 dw0,show 0+(0:Int).toNat*1=0 from rfl]
  have e1:decide (mkB a=⟨#[109,97,112,112,105,110,103]⟩)=decide (a=V3):=EA
  refine Qqb (hw 0 a rfl) e1 ?_
  by_cases ha:a=V3
  · rw [decide_eq_true ha]
    refine Qqh d1 ?_
    try unfold X0
    rw [ZZ underlying94 ty9 bw 0 ([a,b]:List (List UInt8)).length cw .i64 1 K7 dw1,show 0+(1:Int).toNat*1=1 from rfl]
    refine Qqh (hw 1 b rfl) ?_
    refine zcr (U6 w (mkB b)) λ w2 e2=>?_
    cases hn:Yq (mkB b) with
    | false=>
     rw [hn,if_neg (by simp)] at hh
     refine Qqh d1 ?_
     exact fail w2 e2 hh
    | true=>
     rw [hn,if_pos ⟨ha,rfl⟩] at hh
     unfold Zdc
     refine Qqh d1 ?_
     try unfold X0
     rw [ZZ underlying94 ty9 bw 0 ([a,b]:List (List UInt8)).length cw .i64 1 K7 dw1,show 0+(1:Int).toNat*1=1 from rfl]
     have h2:=h.go e2
     refine Qqm (e2.cell (hw 1 b rfl)) (Za h2.ps.obj).1 (Za h2.ps.obj).2 ?_
     exact hK _ _ hh ⟨h2.ps.named (mkB b),(YA.setCell w2 p6 0 _ p2 h2.n26).trans h2.o2,h2.l2,h2.n26,h2.ls⟩
  · rw [decide_eq_false ha]
    rw [if_neg λ h=>ha h.1] at hh
    refine Qqh d1 ?_
    exact fail w (Ext.refl _) hh
def Mg (h:PZ w0 w1 p2 p6 g16 B lcs L ⟨st.name,st.done,none⟩ rv) (e:Ext w1 w) (hbw:w1.heap.size≤bw) (hi:i≤1000000000) (hl:st.done.length≤1048576) (hw:∀ (j:Nat) (s:List UInt8),W[j]?=some s→w.cell? ⟨bw,j,none⟩=some (.string (mkB s))) {K2:KV}
 (hno:KA W=none→o=(none,i+1)) (hK:∀ q w' rv',KA W=some q→PZ w0 w' p2 p6 g16 B lcs L ⟨st.name,st.done,some ⟨q.1,q.2,[]⟩⟩ rv'→K2 (.bool true) w') :
 EN (Qq5 p2) (Qq5 p6) (.bool false) (.int .i64 i) (.slice (some ⟨bw,0,none⟩) W.length cw) K2 (ZE (Vt w0 o)) w:=by
 have hwi:IntKind.i64.wrap ((i:Int)+1)=((i+1:Nat):Int):=by rw [Z0 C1 C1];omega
 have fail:∀ w',Ext w w'→KA W=none→Nc (Qq5 p2) (.int .i64 i) (ZE (Vt w0 o)) w':=λ w' e' hh=>by
  have h':=(h.go e).go e'
  have q:=Za h'.o2
  unfold Nc
  refine Qqm hwi q.1 q.2 ?_
  exact ⟨(h'.ps.e.setCell (p:=⟨p2,0,none⟩) h'.l2 _).setCell (p:=⟨p2,1,none⟩) h'.l2 _,.inr ⟨by rw [hno hh],_,by rw [hno hh];rfl,Yb,rfl,Zd.nil ..⟩⟩
 unfold EN
 match W,hw,hno,hK,fail with
 | [],hw,hno,hK,fail=>
  have d1:(((([]:List (List UInt8)).length:Nat):Int) == 3)=false:=rfl
  unfold zo zl ja
  refine Qqh d1 ?_
  exact fail w (Ext.refl _) rfl
 | [a],hw,hno,hK,fail=>
  have d1:(((([a]:List (List UInt8)).length:Nat):Int) == 3)=false:=rfl
  unfold zo zl ja
  refine Qqh d1 ?_
  exact fail w (Ext.refl _) rfl
 | [a,b],hw,hno,hK,fail=>
  have d1:(((([a,b]:List (List UInt8)).length:Nat):Int) == 3)=false:=rfl
  unfold zo zl ja
  refine Qqh d1 ?_
  exact fail w (Ext.refl _) rfl
 | a::b::c::d::r,hw,hno,hK,fail=>
  have d1:((((a::b::c::d::r).length:Nat):Int) == 3)=false:=by simp only [List.length_cons,beq_eq_false_iff_ne];omega
  unfold zo zl ja
  refine Qqh d1 ?_
  exact fail w (Ext.refl _) rfl
 | [a,b,c],hw,hno,hK,fail=>
  have d1:(((([a,b,c]:List (List UInt8)).length:Nat):Int) == 3)=true:=rfl
  have dw0:(0:Int) < (([a,b,c]:List (List UInt8)).length:Int):=by show (0:Int) < 3;decide
  have dw1:(1:Int) < (([a,b,c]:List (List UInt8)).length:Int):=by show (1:Int) < 3;decide
  have dw2:(2:Int) < (([a,b,c]:List (List UInt8)).length:Int):=by show (2:Int) < 3;decide
  have hh:KA [a,b,c]=if a=IY∧(Yq (mkB b)=true∧Yq (mkB c)=true) then some (mkB b,mkB c) else none:=rfl
  unfold zo
  refine Qqh d1 ?_
  try unfold X0
  rw [ZZ underlying94 ty9 bw 0 ([a,b,c]:List (List UInt8)).length cw .i64 0 K7 dw0,show 0+(0:Int).toNat*1=0 from rfl]
  have e1:decide (mkB a=⟨#[109,97,112]⟩)=decide (a=IY):=EA
  unfold zl
  refine Qqm d1 (hw 0 a rfl) e1 ?_
  by_cases ha:a=IY
  · have e1:decide (mkB a=⟨#[109,97,112]⟩)=true:=by rw [e1];exact decide_eq_true ha
    rw [decide_eq_true ha]
    refine Qqh d1 ?_
    try unfold X0
    rw [ZZ underlying94 ty9 bw 0 ([a,b,c]:List (List UInt8)).length cw .i64 1 K7 dw1,show 0+(1:Int).toNat*1=1 from rfl]
    refine Qqh (hw 1 b rfl) ?_
    refine zcr (U6 w (mkB b)) λ w2 e2=>?_
    unfold ja
    cases hn:Yq (mkB b) with
    | false=>
     rw [hn,if_neg (by simp)] at hh
     refine Qqb d1 e1 ?_
     exact fail w2 e2 hh
    | true=>
     rw [hn] at hh
     refine Qqb d1 e1 ?_
     try unfold X0
     rw [ZZ underlying94 ty9 bw 0 ([a,b,c]:List (List UInt8)).length cw .i64 2 K7 dw2,show 0+(2:Int).toNat*1=2 from rfl]
     refine Qqh (e2.cell (hw 2 c rfl)) ?_
     refine zcr (U6 w2 (mkB c)) λ w3 e3=>?_
     have e23:=e2.trans e3
     cases hn2:Yq (mkB c) with
     | false=>
      rw [hn2,if_neg (by simp)] at hh
      refine Qqb d1 e1 ?_
      exact fail w3 e23 hh
     | true=>
      rw [hn2,if_pos ⟨ha,rfl,rfl⟩] at hh
      refine Qqb d1 e1 ?_
      have h3:=h.go (e.trans e23)
      exact Mr h.ps (e.trans e23) hl hbw (e23.cell (hw 1 b rfl)) (e23.cell (hw 2 c rfl)) λ w' rv' h' h2=>hK _ w' rv' hh ⟨h',h2 p2 h3.o2 h.n26,h.l2,h.n26,h.ls⟩
  · rw [decide_eq_false ha]
    rw [if_neg λ h=>ha h.1] at hh
    unfold ja
    refine Qqh d1 ?_
    exact fail w (Ext.refl _) hh
end
section
variable {w0 w w1:Wd} {p2 g16 p6 p10 bw cw cap:Nat} {lcs:AVl} {B:Nat} {st:PsD} {rv bv tv:Vl} {l:List UInt8} {L:List (List UInt8)} {i:Nat} {o:Option Xn×Nat} {x:FrD} {b:Bool}
def Mf (h:PZ w0 w1 p2 p6 g16 B lcs L st rv) (e:Ext w1 w) (hbw:w1.heap.size≤bw) (hp:w1.heap.size≤p10) (hi0:0 < i) (hi:i≤1000000000) (hLi:L[i]?=some l) (YJ:L.length≤1000000000)
 (hl:st.done.length≤1000000) (hcl:∀ r,st.cur=some r→r.fields.length≤1000000) (hw:∀ (j:Nat) (s:List UInt8),(Ye 32 l)[j]?=some s→w.cell? ⟨bw,j,none⟩=some (.string (mkB s)))
 (o10:w.heap[p10]?=some (.cells (Zo x bv tv).toArray 43 (0,0))) (hb:ZM w w0.heap.size 5 1 Xp bv x.bytes) (ht:ZM w w0.heap.size 78 3 ZW tv x.table) (hr:(b=true∧Xt l=some x)∨(b=false∧Xt l=none)) {K2:KV}
 (hno:X5 st i l=none→o=(none,i+1)) (hK:∀ st' B' w' rv',X5 st i l=some st'→PZ w0 w' p2 p6 g16 B' lcs L st' rv'→K2 (.bool st'.cur.isSome) w') :
 Bj (Qq5 p2) (Qq5 p6) (.bool st.cur.isSome) (.int .i64 i) (Qq5 p10) (.slice (some ⟨g16,0,none⟩) L.length cap) (.slice (some ⟨bw,0,none⟩) (Ye 32 l).length cw) (.bool b) K2 (ZE (Vt w0 o)) w:=by
 have hwi:IntKind.i64.wrap ((i:Int)+1)=((i+1:Nat):Int):=by rw [Z0 C1 C1];omega
 have hw0:=h.go e
 obtain ⟨nm,dn,cur⟩:=st
 cases cur with
 | some r=>
  have hs:X5 ⟨nm,dn,some r⟩ i l=if l=IX then some ⟨nm,dn++[r],none⟩ else (Xt l).map λ x=>⟨nm,dn,some ⟨r.fr,r.to,r.fields++[x]⟩⟩:=by
   unfold X5
   rw [if_neg C1]
  have hci:=h.ls i l hLi
  have hil:=(Qqx hLi).1
  have dk:(i:Int) < (L.length:Int):=C1
  have hq:w.cell? ⟨g16,i*1,none⟩=some (.string (mkB l)):=by rw [(Za hw0.ps.ln).1,Nat.mul_one];exact hci
  have e1:decide (mkB l=⟨#[101,110,100]⟩)=decide (l=IX):=EA
  unfold Bj
  simp (disch:=try exact DI) only [↓PR,QR,simprocAttr,Option.isSome_some,dk,hq,e1]
  by_cases hle:l=IX
  · rw [if_pos hle] at hs
    rw [decide_eq_true hle]
    simp (disch:=try exact DI) only [↓PR,QR,simprocAttr,Option.isSome_some]
    exact hK ⟨nm,dn++[r],none⟩ w.heap.size w rv hs ⟨hw0.ps.close,hw0.o2,hw0.l2,hw0.n26,hw0.ls⟩
  · rw [if_neg hle] at hs
    rw [decide_eq_false hle]
    unfold Lw
    rcases hr with ⟨rfl,hx⟩ | ⟨rfl,hx⟩
    · rw [hx] at hs
      simp (disch:=try exact DI) only [↓PR,QR,simprocAttr,Option.isSome_some]
      refine H3 h.ps e hp x bv tv o10 hb ht hl (by have:=hcl r rfl;omega) λ w' rv' h' h2=>?_
      exact hK ⟨nm,dn,some ⟨r.fr,r.to,r.fields++[x]⟩⟩ B w' rv' hs ⟨h',h2 p2 hw0.o2 h.n26,h.l2,h.n26,h.ls⟩
    · rw [hx] at hs
      have hno:=hno hs
      have q:=Za hw0.o2
      unfold EN zo zl ja Nc
      simp (disch:=try exact DI) only [↓PR,QR,simprocAttr,Option.isSome_some,hwi,q.1,q.2]
      exact ⟨(hw0.ps.e.setCell (p:=⟨p2,0,none⟩) hw0.l2 _).setCell (p:=⟨p2,1,none⟩) hw0.l2 _,.inr ⟨by rw [hno],_,by rw [hno];rfl,Yb,rfl,Zd.nil ..⟩⟩
 | none=>
  have hs:X5 ⟨nm,dn,none⟩ i l=(KA (Ye 32 l)).map λ q=>⟨nm,dn,some ⟨q.1,q.2,[]⟩⟩:=by
   unfold X5
   rw [if_neg C1]
  unfold Bj Lw
  simp (disch:=try exact DI) only [↓PR,QR,simprocAttr,Option.isSome_none]
  refine Mg (st:=⟨nm,dn,none⟩) h e hbw hi (by show dn.length≤_;have:dn.length≤1000000:=hl;omega) hw (λ hn=>hno (by rw [hs,hn];rfl)) λ q w' rv' hq h'=>?_
  exact hK ⟨nm,dn,some ⟨q.1,q.2,[]⟩⟩ B w' rv' (by rw [hs,hq];rfl) h'
def T5 {s s':PsD} {i:Nat} {l:List UInt8} (h:X5 s i l=some s') (h1:s.done.length≤i) (h2:∀ r,s.cur=some r→r.fields.length≤i):s'.done.length≤i+1∧∀ r,s'.cur=some r→r.fields.length≤i+1:=by
 unfold X5 at h
 split at h
 · cases hp:Kw (Ye 32 l) with
   | none=>rw [hp] at h;cases h
   | some n=>
    rw [hp] at h
    injection h with h
    subst h
    exact ⟨by show s.done.length≤_;omega,λ r hr=>by have:=h2 r hr;omega⟩
 · split at h
   · rename_i r hc
     split at h
     · injection h with h
       subst h
       exact ⟨by show (s.done++[r]).length≤_;rw [List.length_append,List.length_singleton];omega,λ r hr=>by cases hr⟩
     · cases hp:Xt l with
       | none=>rw [hp] at h;cases h
       | some x=>
        rw [hp] at h
        injection h with h
        subst h
        refine ⟨by show s.done.length≤_;omega,λ r' hr=>?_⟩
        injection hr with hr
        subst hr
        show (r.fields++[x]).length≤_
        have:=h2 r hc
        rw [List.length_append,List.length_singleton]
        omega
   · cases hp:KA (Ye 32 l) with
     | none=>rw [hp] at h;cases h
     | some q=>
      rw [hp] at h
      injection h with h
      subst h
      refine ⟨by show s.done.length≤_;omega,λ r' hr=>?_⟩
      injection hr with hr
      subst hr
      simp
def OC (h:PZ w0 w p2 p6 g16 B lcs L st rv) (hi:i+1=L.length) (hLi:L[i]?=some l) (YJ:L.length≤1000000000) (ho:o=goQ st i [l]) :
 Ly (Qq5 p2) (Qq5 p6) (.bool st.cur.isSome) (.slice (some ⟨g16,0,none⟩) L.length cap) (ZE (Vt w0 o)) w:=by
 have hgo:goQ st i [l]=if l=[]∧(0 < i∧st.cur=none) then (some ⟨st.name,st.done⟩,0) else (none,i+1):=by rw [goQ]
 rw [hgo] at ho
 have hm:IntKind.i64.wrap ((L.length:Int) - 1)=((i:Nat):Int):=by rw [Z0 C1 C1];omega
 have dk:(i:Int) < (L.length:Int):=C1
 have hq:w.cell? ⟨g16,i*1,none⟩=some (.string (mkB l)):=by rw [(Za h.ps.ln).1,Nat.mul_one];exact h.ls i l hLi
 have q2:=Za h.o2
 have q6:=Za h.ps.obj
 have fail:¬ (l=[]∧(0 < i∧st.cur=none))→Lx (Qq5 p2) (.slice (some ⟨g16,0,none⟩) L.length cap) (ZE (Vt w0 o)) w:=λ hn=>by
  rw [if_neg hn] at ho
  unfold Lx
  refine Qqb q2.1 q2.2 ?_
  exact ⟨(h.ps.e.setCell (p:=⟨p2,0,none⟩) h.l2 _).setCell (p:=⟨p2,1,none⟩) h.l2 _,.inr ⟨by rw [ho],_,by rw [ho,hi];rfl,Yb,rfl,Zd.nil ..⟩⟩
 have e1:(!decide (mkB l=⟨#[]⟩))=!decide (l=[]):=by rw [EA]
 unfold Ly SJ
 by_cases h1:i=0
 · have d1:((L.length:Int) == 1)=true:=by rw [beq_iff_eq];omega
   refine Qqh d1 ?_
   exact fail λ h=>by omega
 · have d1:((L.length:Int) == 1)=false:=by rw [beq_eq_false_iff_ne];omega
   cases hc:st.cur with
   | some r=>
    simp (disch:=try exact DI) only [↓PR,QR,simprocAttr,d1,Option.isSome_some]
    exact fail λ h=>by rw [hc] at h;cases h.2.2
   | none=>
    simp (disch:=try exact DI) only [↓PR,QR,simprocAttr,d1,Option.isSome_none,hm,dk,hq,e1]
    by_cases hl:l=[]
    · rw [decide_eq_true hl]
      rw [if_pos ⟨hl,by omega,hc⟩] at ho
      unfold SI
      have hR:=h.ps.read
      rw [hc] at hR
      simp only [Option.toList,List.append_nil] at hR
      have r1:=Zd.oneCell hR
      refine Qqp d1 q6.1 q2.1 q2.2 ?_
      obtain ⟨css,dss,a1,a2,a3⟩:=h.ps.row
      have hd:dss=[]:=by
       have:=a3.1
       rw [hc] at this
       exact List.eq_nil_of_length_eq_zero this
      subst hd
      rw [List.append_nil] at a1
      have hch:Chg p2 w ((w.setCell ⟨p2,0,none⟩ (.string st.name)).setCell ⟨p2,1,none⟩ rv):=⟨by rw [World.size_setCell,World.size_setCell];exact Nat.le_refl _,λ b _ hb=>(YA.setCell _ p2 1 _ b hb).trans (YA.setCell w p2 0 _ b hb)⟩
      refine ⟨(h.ps.e.setCell (p:=⟨p2,0,none⟩) h.l2 _).setCell (p:=⟨p2,1,none⟩) h.l2 _,.inl ⟨⟨st.name,st.done⟩,_,by rw [ho],rfl,rv,rfl,(Xq a1 hch (YT a1 h.o2 K7)).reads (a2.imp λ _ _ ⟨fv,g1,g2⟩=>?_)⟩⟩
      exact Cf.mr ⟨fv,g1,g2.chgT hch h.o2 K7 K7 K7⟩
    · rw [decide_eq_false hl]
      refine Qqh d1 ?_
      exact fail λ h=>hl h.1
end
def EB (w0:Wd) (sl:List UInt8) (hsl:sl.length≤1000000) (hz:∀ u∈Ye 10 sl,u.length≤80000):Ret Pg 23 #[.string (mkB sl)] w0 (Vt w0 (goQ KG 0 (Ye 10 sl))):=by
 have hLc:=VR 10 sl
 have Y7:=QE 10 sl
 refine Zle (R:=ZE _) ?_;unfold n59
 refine Qqv ?_
 have o2:=Zt w0 #[.string ⟨#[]⟩,.slice none 0 0] 24
 have e2:Ext w0 (w0.alloc (.cells #[.string ⟨#[]⟩,.slice none 0 0] 24)):=(Ext.refl w0).alloc _
 change ZU _ _ _ _ (w0.alloc (.cells #[.string ⟨#[]⟩,.slice none 0 0] 24)) _
 generalize (w0.alloc (.cells #[.string ⟨#[]⟩,.slice none 0 0] 24))=V at o2 e2 ⊢
 refine Zi (zD V sl 10 C1) ?_
 rintro lv w1 ⟨hO,e1⟩
 have o2:=e1.obj o2
 have e:=e2.trans e1
 have hL:0 < (Ye 10 sl).length:=List.length_pos_iff.2 Y7
 generalize Ye 10 sl=L at *
 obtain ⟨lcs,g16,cap,rfl,o16,hls⟩:∃ (lcs:AVl) (g cap:Nat),lv = .slice (some ⟨g,0,none⟩) L.length cap∧w1.heap[g]?=some (.cells lcs 9 (0,0))∧∀ (k:Nat) (x:List UInt8),L[k]?=some x→lcs[k]?=some (.string (mkB x)):=by
  obtain ⟨g,cap,hv,_,_,_,_,hE⟩:=hO.row (λ _=>rfl) (by rw [List.length_map];exact hL)
  rcases hO.2 with ⟨h0,hn⟩ | ⟨g',cap',cur,hv',_,hg',_⟩
  · rw [hv] at h0;cases h0
  · rw [hv] at hv'
    injection hv' with hv1 _ _
    injection hv1 with hv1
    injection hv1 with hv1 _ _
    subst hv1
    refine ⟨cur,g,cap,by rw [hv,List.length_map],hg',λ k x hx=>?_⟩
    have:=hE k (mkB x) (by rw [List.getElem?_map,hx];rfl) 0 _ rfl
    rw [(Za hg').1] at this
    simpa using this
 refine Qqv ?_
 have o6:=Zt w1 #[.string ⟨#[]⟩,.slice none 0 0] 24
 have e6:Ext w1 (w1.alloc (.cells #[.string ⟨#[]⟩,.slice none 0 0] 24)):=(Ext.refl w1).alloc _
 change Wy _ _ _ (w1.alloc (.cells #[.string ⟨#[]⟩,.slice none 0 0] 24))
 generalize (w1.alloc (.cells #[.string ⟨#[]⟩,.slice none 0 0] 24))=X at o6 e6 ⊢
 have l2:=(Qqj o2).1
 have n26:w0.heap.size≠w1.heap.size:=C1
 have l6:w0.heap.size≤w1.heap.size:=e.size
 have lw0:w0.heap.size≤w0.heap.size:=Nat.le_refl _
 generalize hp2:w0.heap.size=p2 at o2 n26 ⊢
 generalize w1.heap.size=p6 at o6 n26 l6 ⊢
 have hPZ:PZ w0 X p2 p6 g16 X.heap.size lcs L KG Yb:=⟨⟨e6.obj o16,e.trans e6,l6,o6,(e.trans e6).size,Nat.le_refl _,[],[],ZM.nil _ _ _ _ _,⟨rfl,λ k x cs hx=>by simp [KG] at hx⟩,⟨rfl,λ k x cs hx=>by simp [KG] at hx⟩⟩,e6.obj o2,Nat.le_of_eq hp2,n26,hls⟩
 refine Xu (λ a b w=>∃ (i B:Nat) (st:PsD) (rv:Vl),a = .bool st.cur.isSome∧b = .int .i64 i∧i < L.length∧PZ w0 w p2 p6 g16 B lcs L st rv∧goQ KG 0 L=goQ st i (L.drop i)∧st.done.length≤i∧(∀ r,st.cur=some r→r.fields.length≤i)∧(i=0→st.cur=none)) (λ _ b _=>L.length - (intOf b).toNat) ⟨0,X.heap.size,KG,Yb,rfl,rfl,hL,hPZ,by rw [List.drop_zero],Nat.le_refl _,(λ r hr=>nomatch hr),λ _=>rfl⟩ ?_
 rintro _ _ w ⟨i,B,st,rv,rfl,rfl,hi,h,hg,hd,hcu,hz0⟩
 obtain ⟨l,hl⟩:=getElem?_lt hi
 have hdr:L.drop i=l::L.drop (i+1):=by
  obtain ⟨h1,h2⟩:=Qqx hl
  rw [List.drop_eq_getElem_cons h1,h2]
 have hw1:IntKind.i64.wrap ((i:Int)+1)=((i+1:Nat):Int):=by rw [Z0 C1 C1];omega
 unfold SL
 by_cases Yo:i+1 < L.length
 · have d1:decide (((i+1:Nat):Int) < (L.length:Int))=true:=by simp only [decide_eq_true_eq];omega
   have dk:(i:Int) < (L.length:Int):=C1
   have hq:∀ w',Ext w w'→w'.cell? ⟨g16,i*1,none⟩=some (.string (mkB l)):=λ w' e'=>by rw [(Za (e'.obj h.ps.ln)).1,Nat.mul_one];exact hls i l hl
   have hdn:L.drop (i+1)≠[]:=by rw [Ne,List.drop_eq_nil_iff];omega
   have hll:=hz l (List.mem_of_getElem? hl)
   unfold SK
   refine Qqp hw1 d1 dk (hq w (Ext.refl _)) ?_
   refine Zi (zD w l 32 C1) ?_
   rintro wv w2 ⟨hOw,f2⟩
   unfold SH
   refine Qqb dk (hq w2 f2) ?_
   refine Zi (OG w2 l hll) ?_
   rintro _ w3 ⟨f3,v,x,b,rfl,⟨bv,tv,rfl,hb,ht⟩,hr⟩
   have u1:bv.oneCell'=true:=Zd.oneCell (Vy hb)
   have u2:tv.oneCell'=true:=Zd.oneCell (Qv ht)
   have f23:=f2.trans f3
   unfold SG
   refine Qqv ?_
   have oY:=Zt w3 (Zo x bv tv).toArray 43
   have eY:Ext w3 (w3.alloc (.cells (Zo x bv tv).toArray 43)):=(Ext.refl w3).alloc _
   change Zr _ (EO _ _ _ _ _ _ (w3.alloc (.cells (Zo x bv tv).toArray 43))) (Bj _ _ _ _ _ _ _ _ _ _ (w3.alloc (.cells (Zo x bv tv).toArray 43)))
   generalize (w3.alloc (.cells (Zo x bv tv).toArray 43))=Y at oY eY ⊢
   have f3Y:=f3.trans eY
   have fY:=f23.trans eY
   have hp10:w.heap.size≤w3.heap.size:=f23.size
   generalize w3.heap.size=p10 at oY hp10 ⊢
   obtain ⟨bw,cw,rfl,hbw,_,_,_,hEw⟩:=hOw.row (λ _=>rfl) (by rw [List.length_map];exact List.length_pos_iff.2 (QE 32 l))
   rw [List.length_map]
   have hwds:∀ (j:Nat) (s:List UInt8),(Ye 32 l)[j]?=some s→Y.cell? ⟨bw,j,none⟩=some (.string (mkB s)):=λ j s hj=>by
    have:=hEw j (mkB s) (by rw [List.getElem?_map,hj];rfl) 0 _ rfl
    simp only [Nat.mul_one,Nat.add_zero] at this
    exact f3Y.cell this
   have hm:L.length - (intOf (.int .i64 ((i+1:Nat):Int))).toNat < L.length - (intOf (.int .i64 (i:Int))).toNat:=by show L.length - (i+1) < L.length - i;omega
   by_cases h0:i=0
   · have d0:((i:Int) == 0)=true:=by rw [beq_iff_eq];omega
     have hc0:=hz0 h0
     obtain ⟨nm,dn,cur⟩:=st
     have hc0:cur=none:=hc0
     subst hc0
     have hst:X5 ⟨nm,dn,none⟩ i l=(Kw (Ye 32 l)).map λ n=>⟨n,dn,none⟩:=by unfold X5;rw [if_pos h0]
     simp (disch:=try exact DI) only [↓PR,QR,simprocAttr,d0,Option.isSome_none]
     refine Me (st:=⟨nm,dn,none⟩) (h.go fY) hwds (λ hn=>?_) λ n w' hn h'=>?_
     · rw [hg,hdr,Aw hdn (by rw [hst,hn];rfl),h0]
     · exact ⟨⟨i+1,B,⟨n,dn,none⟩,rv,rfl,rfl,Yo,h',by rw [hg,hdr,z7 hdn (by rw [hst,hn];rfl)],by have:dn.length≤i:=hd;show dn.length≤i+1;omega,(λ r hr=>nomatch hr),λ _=>rfl⟩,hm⟩
   · have d0:((i:Int) == 0)=false:=by rw [beq_eq_false_iff_ne];omega
     refine Qqh d0 ?_
     refine Mf h fY (Nat.le_trans (Nat.le_refl _) hbw) hp10 C1 C1 hl C1 C1 (λ r hr=>by have:=hcu r hr;omega) hwds oY (ZM.base (hb.ext eY) (by have:=h.ps.e.size;have:=f2.size;omega)) (ZM.base (ht.ext eY) (by have:=h.ps.e.size;have:=f2.size;omega)) hr (λ hn=>?_) λ st' B' w' rv' hst h'=>?_
     · rw [hg,hdr,Aw hdn hn]
     · obtain ⟨a1,a2⟩:=T5 hst hd hcu
       exact ⟨⟨i+1,B',st',rv',rfl,rfl,Yo,h',by rw [hg,hdr,z7 hdn hst],a1,a2,λ h=>by omega⟩,hm⟩
 · have d1:decide (((i+1:Nat):Int) < (L.length:Int))=false:=by simp only [decide_eq_false_iff_not];omega
   have hdn:L.drop (i+1)=[]:=List.drop_eq_nil_iff.2 C1
   refine Qqb hw1 d1 ?_
   exact OC h C1 hl C1 (by rw [hg,hdr,hdn])
def qM (w0:Wd) (s:BAr) (hs:s.size≤1000000) (hz:∀ u∈Ye 10 s.data.toList,u.length≤80000):Ret Pg 23 #[.string s] w0 (Vt w0 (zB s)):=EB w0 s.data.toList (by rw [Vb];exact hs) hz
def Fi (w0:Wd) (v:Vl) (x:FrD) (hx:QI w0 v x) (hk:x.kind=1∨x.kind=7):Ret Pg 60 #[v] w0 λ r w'=>VO w' w0.heap.size r (Xb x)∧Ext w0 w':=by
 obtain ⟨bv,tv,rfl,hB,hT,b1,b2⟩:=hx.op
 refine Zh4 (R:=ZE _) ?_;unfold n44
 rw [YO]
 have q1:=Zt w0 (Zo x bv tv).toArray 43
 have e1:Ext w0 (w0.alloc (.cells (Zo x bv tv).toArray 43)):=(Ext.refl w0).alloc _
 generalize (w0.alloc (.cells (Zo x bv tv).toArray 43))=W at q1 e1 ⊢
 obtain ⟨p1,hp1⟩:∃ p1,w0.heap.size=p1:=⟨_,rfl⟩
 rw [hp1] at q1 ⊢
 have c1:=(Za q1).1
 have fin:∀ (w:Wd) (l:List BAr),Ext w0 w→l.length≤1000→Xb x=l→(VO (w.alloc (.cells (l.map Value.string).toArray 9)) p1 (.slice (some ⟨w.heap.size,0,none⟩) l.length l.length) (Xb x)∧Ext w0 (w.alloc (.cells (l.map Value.string).toArray 9))):=by
  intro w l e hl hw
  rw [hw]
  exact ⟨Uh w l hl (by have:=e.size;omega),e.alloc _⟩
 rcases hk with k1 | k7
 · simp (disch:=try exact DI) only [↓PR,QR,simprocAttr,c1,k1,Lg]
   exact fin W [x.to,⟨#[99,111,112,121]⟩,x.fr] e1 (by simp) (by unfold Xb Xh WS;rw [if_pos k1,k1];rfl)
 · simp (disch:=try exact DI) only [↓PR,QR,simprocAttr,c1,k7,zj,Bi,R0]
   exact fin W [x.to,⟨#[102,105,116]⟩] e1 (by simp) (by unfold Xb Xh WS;rw [k7];rfl)
def HX:∀ x∈[xZ,Um],(x.kind=1∨x.kind=7)∧Yz x=true∧(Xb x).length≤3∧Xb x≠[]∧(Kx ⟨#[32]⟩ (Xb x)).size≤100:=K7
section
variable {a0 w:Wd} {base bF:Nat} {lv:Vl} {ls:List BAr} {R:RT}
def Zet (e:Ext a0 w) (oF:a0.heap[bF]?=some (.cells (Zo xZ Yb Yb++Zo Um Yb Yb).toArray 43 (0,0))) (hO:VO w base lv ls) (hb:base≤w.heap.size) (h0:a0.heap.size≤base) (hl:ls.length≤100) {Zz:Vl→Vl→Vl→Wd→Prop}
 (hK:∀ lv' w',Ext a0 w'→VO w' base lv' (ls++[xZ,Um].map (λ x=>Kx ⟨#[32]⟩ (Xb x))++[⟨#[101,110,100]⟩])→base≤w'.heap.size→Zz (.bool true) lv' (.int .i64 1) w') :
 GC (λ t1004 t1005 t47 w QV=>opV Pg (ZA .lss 3 false t47 (.int .i64 2)) (Zc R) w λ t48 w=>Zr t48 (RD (.slice (some ⟨bF,0,none⟩) 2 2) t47 t1004 t1005 QV R w) (RC (.int .i64 0) t1004 t1005 Zz R w)) (.bool true) lv (.int .i64 0) w:=by
 have hF:=Eo oF rfl rfl rfl rfl
 obtain ⟨A',c',hv,_,_,_,Xj⟩:=Zd.open hF
 injection hv with hv1 _ hv2
 subst hv1 hv2
 refine Ur (λ x y z w'=>∃ k:Nat,x = .bool true∧z = .int .i64 k∧k≤[xZ,Um].length∧Ext a0 w'∧VO w' base y (ls++([xZ,Um].take k).map λ x=>Kx ⟨#[32]⟩ (Xb x))∧base≤w'.heap.size) (λ _ _ z _=>[xZ,Um].length - (intOf z).toNat) ⟨0,rfl,rfl,Nat.zero_le _,e,by simpa using hO,hb⟩ ?_
 rintro _ y _ w1 ⟨k,rfl,rfl,hk,e1,hO1,hb1⟩
 have YJ:(ls++([xZ,Um].take k).map λ x=>Kx ⟨#[32]⟩ (Xb x)).length≤1000000:=by
  rw [List.length_append,List.length_map,List.length_take]
  simp only [List.length_cons,List.length_nil]
  omega
 rcases ZY hk with ⟨x,hx,_,Yo,ZT⟩ | ⟨hk,_,ZT⟩
 · obtain ⟨g1,g2,g3,g4,g5⟩:=HX x (List.mem_of_getElem? hx)
   obtain ⟨b,o,cs,hA0,_,hA,hEx⟩:=Xj k x hx
   injection hA0 with hA0
   injection hA0 with hA1 hA2
   subst hA1 hA2
   rw [Nat.zero_add] at hA
   obtain ⟨bv,tv,rfl,hB,hT,o1,o2⟩:=hEx.op
   have dk:(k:Int) < 2:=by simp only [List.length_cons,List.length_nil] at Yo;omega
   have hwk:IntKind.i64.wrap ((k:Int)+1)=(k:Int)+1:=Z0 C1 C1
   refine Qqb ZT dk ?_
   unfold RD
   refine Qqb (hA.c7 e1) dk ?_
   have oV:=Zt w1 (Zo x bv tv).toArray 43
   have eV:Ext w1 (w1.alloc (.cells (Zo x bv tv).toArray 43)):=(Ext.refl w1).alloc _
   generalize (w1.alloc (.cells (Zo x bv tv).toArray 43))=V at oV eV ⊢
   generalize w1.heap.size=p9 at oV ⊢
   have EV:=e1.trans eV
   refine Qqh (Za oV).1 ?_
   refine zcr (GI V _ x ⟨_,_,rfl,hB.ext EV,hT.ext EV⟩) λ w2 e2=>?_
   rw [g2]
   have E2:=EV.trans e2
   unfold Zb3
   refine Qqh (Za (e2.obj oV)).1 ?_
   refine Zi (Fi w2 _ x ⟨_,_,rfl,hB.ext E2,hT.ext E2⟩ g1) ?_
   rintro u w3 ⟨hu,e3⟩
   have E3:=E2.trans e3
   refine zcr (jW hu ⟨#[32]⟩ (List.length_pos_iff.2 g4) C1 C1) λ w4 e4=>?_
   have E4:=E3.trans e4
   unfold Zb2
   have e14:=eV.trans (e2.trans (e3.trans e4))
   refine FJ (w0:=a0) (Kx ⟨#[32]⟩ (Xb x)) (hO1.ext e14) (by have:=e14.size;omega) YJ E4 h0 λ v' w5 hO5 e5 hb5=>?_
   refine Qqh hwk ?_
   refine ⟨⟨k+1,by trivial,rfl,Yo,e5,?_,hb5⟩,Yh (kd := .i64) Yo⟩
   rw [YU hx,List.map_append,← List.append_assoc]
   exact hO5
 · subst hk
   rw [List.take_length] at hO1
   rw [List.take_length] at YJ
   have d2:decide ((([xZ,Um].length:Nat):Int) < 2)=false:=K7
   refine Qqh d2 ?_
   unfold RC
   refine FJ (w0:=a0) ⟨#[101,110,100]⟩ hO1 hb1 YJ e1 h0 λ v' w5 hO5 e5 hb5=>?_
   refine Qqv ?_
   exact hK v' w5 e5 hO5 hb5
end
def ZfV:BAr:=⟨#[109,97,112,112,105,110,103,32,109,10,109,97,112,32,65,32,65,10,110,32,102,105,116,10,98,32,99,111,112,121,32,98,10,101,110,100,10]⟩
def Zbk (w0:Wd) {w:Wd} {v:Vl} {bF bM:Nat} (h:Zao w w0 v bF bM):Ret Pg 25 #[v] w0 λ r w'=>r = .tuple #[.string ZfV,.int .i64 0]∧Ext w0 w':=by
 obtain ⟨_,_,_,Y7,oF,oM,rfl⟩:=h
 refine ZkE (R:=ZE _) ?_;unfold n20
 rw [YO]
 have q1:=Zt w0 #[.string ⟨#[109]⟩,.slice (some ⟨bM,0,none⟩) 1 1] 24
 have e1:Ext w0 (w0.alloc (.cells #[.string ⟨#[109]⟩,.slice (some ⟨bM,0,none⟩) 1 1] 24)):=(Ext.refl w0).alloc _
 generalize (w0.alloc (.cells #[.string ⟨#[109]⟩,.slice (some ⟨bM,0,none⟩) 1 1] 24))=W at q1 e1 ⊢
 generalize w0.heap.size=p1 at q1 ⊢
 refine Qqh (Za q1).1 ?_
 refine Zi (Kl W ⟨#[109]⟩) ?_
 rintro _ w1 ⟨rfl,e2⟩
 have E2:=e1.trans e2
 have q2:=e2.obj q1
 unfold Zb8
 rw [show Yq ⟨#[109]⟩=true from rfl]
 refine Qqh (Za q2).1 ?_
 rw [XO _ _ _ _ K7,show (⟨#[109,97,112,112,105,110,103,32]⟩:BAr)++⟨#[109]⟩=⟨#[109,97,112,112,105,110,103,32,109]⟩ from rfl]
 simp (disch:=try exact DI) only [↓PR,QR,simprocAttr,λ o=>(Za (((Ext.refl w1).alloc o).obj q2)).1]
 have hO:=Uh w1 [⟨#[109,97,112,112,105,110,103,32,109]⟩] (by simp) E2.size
 have eV:Ext w1 (w1.alloc (.cells (([⟨#[109,97,112,112,105,110,103,32,109]⟩]:List BAr).map Value.string).toArray 9)):=(Ext.refl w1).alloc _
 change GC _ _ _ _ (w1.alloc (.cells (([⟨#[109,97,112,112,105,110,103,32,109]⟩]:List BAr).map Value.string).toArray 9))
 generalize (w1.alloc (.cells (([⟨#[109,97,112,112,105,110,103,32,109]⟩]:List BAr).map Value.string).toArray 9))=V at hO eV ⊢
 have EV:=E2.trans eV
 have cM:=(Za (EV.obj oM)).1
 refine Ur (λ x y z w'=>x = .bool true∧Ext w0 w'∧((z = .int .i64 0∧Ext V w'∧VO w' w0.heap.size y [⟨#[109,97,112,112,105,110,103,32,109]⟩])∨(z = .int .i64 1∧VO w' w0.heap.size y ([⟨#[109,97,112,112,105,110,103,32,109]⟩,⟨#[109,97,112,32,65,32,65]⟩]++[xZ,Um].map (λ x=>Kx ⟨#[32]⟩ (Xb x))++[⟨#[101,110,100]⟩])))) (λ _ _ z _=>1 - (intOf z).toNat) ⟨rfl,EV,.inl ⟨rfl,Ext.refl V,hO⟩⟩ ?_
 rintro _ y _ w3 ⟨rfl,e3,h⟩
 unfold Zb7
 rcases h with ⟨rfl,eW,hO3⟩ | ⟨rfl,hO3⟩
 · refine Qqv ?_
   unfold Zb6
   try unfold X0
   rw [ZZ underlying22 qp bM 0 1 1 .i64 0 K7 K7,show 0+(0:Int).toNat*3=0 from rfl]
   refine Qqh (Za (e3.obj oM)).1 ?_
   have o7:=Zt w3 #[.string ⟨#[65]⟩,.string ⟨#[65]⟩,.slice (some ⟨bF,0,none⟩) 2 2] 60
   have eX:Ext w3 (w3.alloc (.cells #[.string ⟨#[65]⟩,.string ⟨#[65]⟩,.slice (some ⟨bF,0,none⟩) 2 2] 60)):=(Ext.refl w3).alloc _
   have sX:(w3.alloc (.cells #[.string ⟨#[65]⟩,.string ⟨#[65]⟩,.slice (some ⟨bF,0,none⟩) 2 2] 60)).heap.size=w3.heap.size+1:=World.size_alloc ..
   rw [← sX]
   generalize (w3.alloc (.cells #[.string ⟨#[65]⟩,.string ⟨#[65]⟩,.slice (some ⟨bF,0,none⟩) 2 2] 60))=X at o7 eX ⊢
   generalize w3.heap.size=p7 at o7 ⊢
   refine Zi (LJ X ⟨#[65]⟩ ⟨#[65]⟩) ?_
   rintro _ w ⟨rfl,e4⟩
   have E4:=e3.trans (eX.trans e4)
   replace o7:=e4.obj o7
   have hO:=hO3.ext (eX.trans e4)
   have lo7:y.ownBlock≠some p7:=YT hO o7 K7
   unfold Zb4
   rw [show (Yq ⟨#[65]⟩&&Yq ⟨#[65]⟩)=true from rfl]
   refine Qqh (Za o7).1 ?_
   rw [XO _ _ _ _ K7,XO _ _ _ _ K7]
   refine Qqh (Za o7).1 ?_
   rw [XO _ _ _ _ K7,show (⟨#[109,97,112,32]⟩:BAr)++⟨#[65]⟩++⟨#[32]⟩++⟨#[65]⟩=⟨#[109,97,112,32,65,32,65]⟩ from rfl]
   refine Qqv ?_
   have oY:(w.alloc (.cells #[.string ⟨#[109,97,112,32,65,32,65]⟩] 9)).cell? ⟨w.heap.size,0,none⟩=some (.string ⟨#[109,97,112,32,65,32,65]⟩):=by rw [QN];rfl
   have eY:Ext w (w.alloc (.cells #[.string ⟨#[109,97,112,32,65,32,65]⟩] 9)):=(Ext.refl w).alloc _
   generalize (w.alloc (.cells #[.string ⟨#[109,97,112,32,65,32,65]⟩] 9))=Y at oY eY ⊢
   refine VP ⟨#[109,97,112,32,65,32,65]⟩ (hO.ext eY) oY (by have:=E4.size;have:=eY.size;omega) K7 ?_
   intro v' w' hO' hg
   have e':Ext w0 w':=(E4.trans eY).grown hg λ b hb=>(World.ownsRow.lt hO b hb).1
   have l7:=(Qqj o7).1
   have o7':=(hg.block p7 (by have:=eY.size;omega) λ e=>lo7 e.symm).trans (eY.obj o7)
   refine Qqh (Za o7').1 ?_
   exact Zet e' oF hO' e'.size (Nat.le_refl _) K7 λ lv' w5 e5 hO5 hb5=>⟨⟨rfl,e5,.inr ⟨rfl,hO5⟩⟩,by decide⟩
 · refine Qqv ?_
   unfold Zb5
   refine zcr (jW hO3 ⟨#[10]⟩ K7 K7 K7) λ w4 e4=>?_
   try unfold B0
   rw [XO _ _ _ _ K7]
   refine Qqv ?_
   exact ⟨by rfl,e3.trans e4⟩
def ZcS d e (R:RT) w:=
 Zx d e (.bool false) λ b=>
 Zp (λ (a:Vl) (w:Wd)=>
 Zx b a (.bool false) λ f=>
 R (.returned f) w) λ c=>
 Zm b true (
 C0 12 #[] R w λ a w=>
 c a w) (
 c undef w)
def ZcT d e f R w:=
 Zx e f (.bool false) λ b=>
 Zp (λ (a:Vl) (w:Wd)=>
 ZcS b a R w) λ c=>
 Zm b true (
 B0 .eql 49 true d (QqQ 6) R w λ a w=>
 c a w) (
 c undef w)
def ZcU d e f b R w:=
 Zp (λ (a:Vl) (w:Wd)=>
 ZcT e b a R w) λ c=>
 Zm b true (
 B0 .eql 3 false d f R w λ a w=>
 c a w) (
 c undef w)
def ZcV d e (R:RT) w:=
 Zx d e (.bool false) λ b=>
 Zp (λ (a:Vl) (w:Wd)=>
 Zx b a (.bool false) λ f=>
 R (.returned f) w) λ c=>
 Zm b true (
 C0 12 #[] R w λ a w=>
 c a w) (
 c undef w)
def ZcW d e f R w:=
 Zx e f (.bool false) λ b=>
 Zp (λ (a:Vl) (w:Wd)=>
 ZcV b a R w) λ c=>
 Zm b true (
 B0 .eql 49 true d (QqQ 0) R w λ a w=>
 c a w) (
 c undef w)
def ZcX d e b R w:=
 Zp (λ (a:Vl) (w:Wd)=>
 ZcW e b a R w) λ c=>
 Zm b true (
 B0 .eql 3 true d (QqQ 0) R w λ a w=>
 c a w) (
 c undef w)
def Sj a b c d R w:=
 L0 24 a R w λ e w=>
 opV Pg (build 24 #[]) (Zc R) w λ f w=>
 C0 17 #[e,f] R w λ g w=>
 ZcU b c d g R w
def Sk a b c d R w:=
 L0 24 a R w λ e w=>
 L0 24 b R w λ f w=>
 C0 17 #[e,f] R w λ g w=>
 ZcX c d g R w
def Sl b c d a R w:=
 E0q a 0 R w λ f w=>
 E0q a 1 R w λ g w=>
 E0q a 2 R w λ h w=>
 opV Pg (alloc 24 true (.tuple #[])) (Zc R) w λ e w=>
 S0 24 e f R w λ w=>
 N0 h R w λ i w=>
 Zr i (
 Sj b c d g R w) (
 Sk b e c d R w)
def Si c a R w:=
 E0q a 0 R w λ d w=>
 E0q a 1 R w λ e w=>
 E0q a 2 R w λ f w=>
 opV Pg (alloc 24 true (.tuple #[])) (Zc R) w λ b w=>
 S0 24 b d R w λ w=>
 C0 23 #[c] R w λ g w=>
 Sl b e f g R w
def n51 a R w:=
 G0 9 3 a R w λ b w=>
 B0 .gtr 3 true b (QqQ 3000) R w λ c w=>
 Zr c (
 C0 12 #[] R w λ d w=>
 R (.returned d) w) (
 C0 22 #[a] R w λ e w=>
 Si a e R w)
def Zk6:QqX1 5 n51:=λ h=>by
 refine yD func5 ?_
 refine zs<|zr<|zm<|zn<|zk<|zs<|zs<|zr<|zm<|yx h λ h=>yb h λ h=>zn<|zk<|yC h (λ h=>zs<|zr<|yc h c12 λ h=>zm<|zn<|zk<|Zg<|Zb<|Zj rfl rfl h) λ h=>?_
 refine Zk<|zk<|zs<|zr<|zm<|yc h c22 λ h=>zm<|yv h λ h=>yv h λ h=>yv h λ h=>yv h λ h=>yu h λ h=>zm<|zm<|zn ?_
 refine zk<|zs<|zr<|zm<|yc h c23 λ h=>zm<|yv h λ h=>yv h λ h=>yv h λ h=>yv h λ h=>yu h λ h=>zm<|zm<|zn<|zk ?_
 refine zs<|zs<|zr<|zm<|yv h λ h=>zn<|zk<|yC h (λ h=>?_) λ h=>?_
 · refine zs<|Zq<|yG 4<|yv h λ h=>yB h λ h=>yc h c17 λ h=>zm<|zn<|yg1 3 3 true [31,32,33] 33 h (λ _ T hT h=>?_) λ σ w h=>?_
   · refine zm<|zm<|yb h λ h=>zn ?_
     exact zt hT h
   refine yG 2<|yp h λ h=>zm<|zn<|yg1 2 8 true [36,37] 37 h (λ _ T hT h=>?_) λ σ w h=>?_
   · refine zm<|yb h λ h=>zn ?_
     exact zt hT h
   refine yG 2<|yp h λ h=>zm<|zn<|yg1 1 12 true [40] 40 h (λ _ T hT h=>?_) λ σ w h=>?_
   · refine yc h c12 λ h=>zn ?_
     exact zt hT h
   exact yG 2<|yp h λ h=>zm<|zn<|ZG<|zk<|Zg<|Zb<|Zj rfl rfl h
 refine Zk<|zk<|zs<|Zq<|yG 4<|yv h λ h=>yv h λ h=>yc h c17 λ h=>zm<|zn<|yg1 2 3 true [46,47] 47 h (λ _ T hT h=>?_) λ σ w h=>?_
 · refine zm<|yb h λ h=>zn ?_
   exact zt hT h
 refine yG 2<|yp h λ h=>zm<|zn<|yg1 2 7 true [50,51] 51 h (λ _ T hT h=>?_) λ σ w h=>?_
 · refine zm<|yb h λ h=>zn ?_
   exact zt hT h
 refine yG 2<|yp h λ h=>zm<|zn<|yg1 1 11 true [54] 54 h (λ _ T hT h=>?_) λ σ w h=>?_
 · refine yc h c12 λ h=>zn ?_
   exact zt hT h
 exact yG 2<|yp h λ h=>zm<|zn<|ZG<|zk<|Zg<|Zj rfl rfl h
def MZ (w0:Wd) (hE:UN w0):Ret Pg 12 #[] w0 λ r w'=>r = .bool true∧Ext w0 w':=by
 refine Zk7 (R:=ZE _) ?_;unfold n52
 refine Zi (Gq w0) ?_
 rintro v1 w1 ⟨_,_,hP1⟩
 refine zcr (Zbk w1 hP1) λ w2 e2=>?_
 unfold ZfV
 have E2:=hP1.e.trans e2
 clear hP1 e2
 unfold Sz Zp
 refine Qqv ?_
 unfold Sy Zp
 refine Qqv ?_
 refine Zi (Gq w2) ?_
 rintro v3 w3 ⟨_,_,hP3⟩
 unfold Sx
 refine Zi (Xy w3) ?_
 rintro v4 w4 ⟨hD4,e4⟩
 refine Zi (Xy w4) ?_
 rintro v5 w5 ⟨hD5,e5⟩
 refine zcr (I2 w5 _ _ _ Fh Yl Yl (hP3.val.ext (e4.trans e5)) (hD4.ext e5) hD5 (Zex _ (by simp))) λ w6 e6=>?_
 rw [ZaU]
 have E6:=E2.trans (hP3.e.trans (e4.trans (e5.trans e6)))
 clear hP3 hD4 hD5 e4 e5 e6 E2
 refine Qqv ?_
 unfold Sv
 refine Qqv ?_
 refine Zi (Gq w6) ?_
 rintro v7 w7 ⟨bF1,bM1,hP7⟩
 refine Zi (Gq w7) ?_
 rintro v8 w8 ⟨bF2,bM2,hP8⟩
 unfold Su
 rw [hP7.v,hP8.v]
 refine Qqv ?_
 have a1:=Zt w8 #[.string ⟨#[109]⟩,.slice (some ⟨bM1,0,none⟩) 1 1] 24
 have ea:Ext w8 (w8.alloc (.cells #[.string ⟨#[109]⟩,.slice (some ⟨bM1,0,none⟩) 1 1] 24)):=(Ext.refl w8).alloc _
 have sa:(w8.alloc (.cells (Value.agg #[.string Qqk,.slice none 0 0]).cells 24)).heap.size=w8.heap.size+1:=World.size_alloc ..
 have sa':(w8.alloc (.cells #[.string ⟨#[109]⟩,.slice (some ⟨bM1,0,none⟩) 1 1] 24)).heap.size=w8.heap.size+1:=World.size_alloc ..
 rw [sa]
 generalize (w8.alloc (.cells #[.string ⟨#[109]⟩,.slice (some ⟨bM1,0,none⟩) 1 1] 24))=A at a1 ea sa' ⊢
 have a2:=Zt A #[.string ⟨#[109]⟩,.slice (some ⟨bM2,0,none⟩) 1 1] 24
 have eb:Ext A (A.alloc (.cells #[.string ⟨#[109]⟩,.slice (some ⟨bM2,0,none⟩) 1 1] 24)):=(Ext.refl A).alloc _
 rw [sa'] at a2
 generalize (A.alloc (.cells #[.string ⟨#[109]⟩,.slice (some ⟨bM2,0,none⟩) 1 1] 24))=B at a2 eb ⊢
 refine ZB ?_
 have eD:Ext B (drew B):=(Ext.refl B).drew
 generalize (drew B)=D at eD ⊢
 have l8:=hP8.e.size
 have l7:=hP7.e.size
 have lF1:=hP7.lF
 have lM1:=hP7.lM
 have lF2:=hP8.lF
 have lM2:=hP8.lM
 have nF1:=(Qqj hP7.oF).1
 have nM1:=(Qqj hP7.oM).1
 have nF2:=(Qqj hP8.oF).1
 have nM2:=(Qqj hP8.oM).1
 have nn1:=hP7.ne
 have nn2:=hP8.ne
 have eBD:=(ea.trans eb).trans eD
 have o3:=(eb.trans eD).obj a1
 have o4:=eD.obj a2
 have oM1:=(hP8.e.trans eBD).obj hP7.oM
 have oF1:=(hP8.e.trans eBD).obj hP7.oF
 have oM2:=eBD.obj hP8.oM
 have oF2:D.heap[bF2]?=some (.cells #[.string ⟨#[110]⟩,.int .i64 7,.string ⟨#[]⟩,.int .i64 0,.int .i64 0,Yb,Yb,.string ⟨#[98]⟩,.int .i64 1,.string ⟨#[98]⟩,.int .i64 0,.int .i64 0,Yb,Yb] 43 (0,0)):=eBD.obj hP8.oF
 have E0:Ext w0 D:=E6.trans (hP7.e.trans (hP8.e.trans eBD))
 have h06:=E6.size
 generalize w8.heap.size=p3 at *
 unfold St
 refine Qqh (Za o3).1 ?_
 rw [Yc λ QP w' k'=>ZZ (k:=k') underlying22 qp bM1 0 1 1 .i64 0 K7 K7,show 0+(0:Int).toNat*3=0 from rfl]
 refine Qqh (Za oM1).1 ?_
 refine (Yc (s:=sliceAt 58 (.slice (some ⟨bF1,0,none⟩) 2 2) none (some (.int .i64 1)) none) λ QP w' k'=>Uf underlying58 Vr bF1 0 2 2 .i64 1 K7).mpr ?_
 refine Qqv ?_
 rw [Yc λ QP w' k'=>ZZ (k:=k') underlying22 qp bM1 0 1 1 .i64 0 K7 K7,show 0+(0:Int).toNat*3=0 from rfl]
 refine Qqb (Za oM1).1 (Za oM1).2 ?_
 refine Yx ?_
 have k1:∀ b,b≠bM1→(D.setCell ⟨bM1,2,none⟩ (.slice (some ⟨bF1,0,none⟩) 1 2)).heap[b]?=D.heap[b]?:=λ b hb=>YA.setCell D bM1 2 _ b hb
 have E1:Ext w0 (D.setCell ⟨bM1,2,none⟩ (.slice (some ⟨bF1,0,none⟩) 1 2)):=E0.setCell (p:=⟨bM1,2,none⟩) (show w0.heap.size≤bM1 by omega) _
 replace oM1:=Zy (o:=2) oM1 (.slice (some ⟨bF1,0,none⟩) 1 2)
 replace oF1:=(k1 bF1 C1).trans oF1
 replace oM2:=(k1 bM2 C1).trans oM2
 replace oF2:=(k1 bF2 C1).trans oF2
 replace o3:=(k1 p3 C1).trans o3
 replace o4:=(k1 (p3+1) C1).trans o4
 clear k1 E0 eD eBD
 generalize (D.setCell ⟨bM1,2,none⟩ (.slice (some ⟨bF1,0,none⟩) 1 2))=S at *
 unfold Ss
 refine Qqh (Za o4).1 ?_
 try unfold X0
 rw [ZZ underlying22 qp bM2 0 1 1 .i64 0 K7 K7,show 0+(0:Int).toNat*3=0 from rfl]
 refine Qqh (Za oM2).1 ?_
 try unfold X0
 rw [ZZ underlying58 Vr bF2 0 2 2 .i64 0 K7 K7,show 0+(0:Int).toNat*7=0 from rfl]
 refine Qqb (Za oF2).1 (Za oF2).2 ?_
 refine (Va Vr oF2 (vs:=Zo yJ Yb Yb) rfl K7 (by intro v hv;simp only [List.mem_cons,List.not_mem_nil,or_false] at hv;rcases hv with rfl | rfl | rfl | rfl | rfl | rfl | rfl<;>rfl)).mpr ?_
 have kk:∀ b,b≠bF2→(Yn S bF2 0 (Zo yJ Yb Yb)).heap[b]?=S.heap[b]?:=λ b hb=>Qw _ _ _ b hb
 have E2:Ext w0 (Yn S bF2 0 (Zo yJ Yb Yb)):=Ks _ _ _ _ E1 C1
 have oF2':(Yn S bF2 0 (Zo yJ Yb Yb)).heap[bF2]?=some (.cells (Zo yJ Yb Yb++Zo Um Yb Yb).toArray 43 (0,0)):=(X3 (Zo yJ Yb Yb) 0 oF2).trans rfl
 replace oF1:=(kk bF1 C1).trans oF1
 replace oM1:=(kk bM1 C1).trans oM1
 replace oM2:=(kk bM2 C1).trans oM2
 replace o3:=(kk p3 C1).trans o3
 replace o4:=(kk (p3+1) C1).trans o4
 clear kk E1 oF2
 generalize (Yn S bF2 0 (Zo yJ Yb Yb))=Q at *
 have hM3:Xx Q (.agg #[.string ⟨#[109]⟩,.slice (some ⟨bM1,0,none⟩) 1 1]) Fs:=⟨_,rfl,EE (r:=⟨⟨#[65]⟩,⟨#[65]⟩,[xZ]⟩) oM1 ⟨_,_,rfl,by decide,by decide,λ _=>⟨bF1,0,rfl,λ k x hx=>by
  match k,hx with
  | 0,hx=>
   cases hx
   exact ⟨_,rfl,λ j v hv=>by
    rw [(Za oF1).1]
    have hj:j < 7:=(Qqx hv).1
    have hs:0+0*7+j=j:=C1
    rw [hs,List.getElem?_toArray,List.getElem?_append_left hj]
    exact hv,IR _ _ rfl rfl⟩
  | _+1,hx=>simp at hx⟩⟩⟩
 have hM4:Xx Q (.agg #[.string ⟨#[109]⟩,.slice (some ⟨bM2,0,none⟩) 1 1]) FA:=⟨_,rfl,EE (r:=⟨⟨#[65]⟩,⟨#[65]⟩,[yJ,Um]⟩) oM2 (Eo oF2' rfl rfl rfl rfl)⟩
 refine ZB ?_
 have eH:Ext Q (drew Q):=(Ext.refl Q).drew
 generalize (drew Q)=H at eH ⊢
 unfold Sr Zp
 refine Qqh (Za (eH.obj o3)).1 ?_
 have hin3:=Zex Fs (by simp)
 have hin4:=Zex FA (by simp)
 have go2:∀ w' p,FlR H w' p 0 (-1) 10→Z4 w' λ C7 w=>Lp (.pointer (some ⟨p3+1,0,none⟩)) (Qq5 p) (.bool true) C7 (ZE λ r w'=>r = .bool true∧Ext w0 w') w:=by
  rintro w9 p5 ⟨e9,o5⟩
  refine ZB ?_
  have eI:Ext w9 (drew w9):=(Ext.refl w9).drew
  generalize (drew w9)=I at eI ⊢
  have eQI:=eH.trans (e9.trans eI)
  replace o5:=eI.obj o5
  have oI4:=eQI.obj o4
  have hMI:=hM4.ext eQI
  have go3:∀ w' p,FlR I w' p 0 0 5→Lj (Qq5 p5) (.bool true) (Qq5 p) (.bool true) (ZE λ r w'=>r = .bool true∧Ext w0 w') w':=by
   rintro w10 p7 ⟨e10,o7⟩
   replace o5:=e10.obj o5
   have E3:=E2.trans (eQI.trans e10)
   unfold Lj Zp
   have d1:(!(decide ((0:Int)=0)&&(decide ((-1:Int) = -1)&&(decide ((10:Int)=10)&&true))))=false:=K7
   have d2:(!(decide ((0:Int)=0)&&(decide ((0:Int)=0)&&(decide ((5:Int)=5)&&true))))=false:=K7
   refine Qqp (Za o5).1 (Za o7).1 d1 d2 ?_
   unfold So Zp
   refine Qqb d1 d2 ?_
   unfold Sn Zp
   refine Qqv ?_
   unfold Sm
   refine Qqv ?_
   have r1:=Zt w10 (ZW ⟨1,2,9⟩).toArray 78
   have er:Ext w10 (w10.alloc (.cells (ZW ⟨1,2,9⟩).toArray 78)):=(Ext.refl w10).alloc _
   change ZU _ _ _ _ ((w10.alloc (.cells (ZW ⟨1,2,9⟩).toArray 78)).alloc _) (λ t91 w=>SA (.pointer (some ⟨(w10.alloc (.cells (ZW ⟨1,2,9⟩).toArray 78)).heap.size,0,none⟩)) t91 _ w)
   generalize (w10.alloc (.cells (ZW ⟨1,2,9⟩).toArray 78))=X at r1 er ⊢
   have r2:=Zt X (Zo xp Yb (.slice (some ⟨w10.heap.size,0,none⟩) 1 1)).toArray 43
   have ex:Ext X (X.alloc (.cells (Zo xp Yb (.slice (some ⟨w10.heap.size,0,none⟩) 1 1)).toArray 43)):=(Ext.refl X).alloc _
   change ZU _ _ _ _ (X.alloc (.cells (Zo xp Yb (.slice (some ⟨w10.heap.size,0,none⟩) 1 1)).toArray 43)) _
   generalize (X.alloc (.cells (Zo xp Yb (.slice (some ⟨w10.heap.size,0,none⟩) 1 1)).toArray 43))=Y at r2 ex ⊢
   have hRow:Q9 Y (.slice (some ⟨w10.heap.size,0,none⟩) 1 1) xp.table:=U7 (l:=xp.table) (ex.obj r1) K7 λ k z hz=>by
    match k,hz with
    | 0,hz=>cases hz;exact ⟨_,rfl,rfl,rfl⟩
    | _+1,hz=>simp [xp] at hz
   have hTab:QI Y (.agg (Zo xp Yb (.slice (some ⟨w10.heap.size,0,none⟩) 1 1)).toArray) xp:=⟨_,_,rfl,Zd.nil ..,hRow⟩
   generalize X.heap.size=p9 at *
   refine zcr (Jh Y _ ZfU 3 ⟨Yb,Yb,rfl,Zd.nil ..,Zd.nil ..⟩ K7) λ w11 e11=>?_
   rw [Zkv]
   unfold SA
   refine Qqh (Za (e11.obj r2)).1 ?_
   refine zcr (Jh w11 _ xp 2 (hTab.ext e11) K7) λ w12 e12=>?_
   rw [Zkw]
   unfold Zc5
   refine Qqh (Za (e12.obj (e11.obj r2))).1 ?_
   refine zcr (Jh w12 _ xp 3 (hTab.ext (e11.trans e12)) K7) λ w13 e13=>?_
   rw [Zkx]
   have E4:=E3.trans (er.trans (ex.trans (e11.trans (e12.trans e13))))
   unfold Zc4
   refine Qqv ?_
   refine Zi (CK w13 (hE.ext E4) ⟨#[109,97,112,112,105,110,103,32,109,10,109,97,112,32,65]⟩ K7 (by rw [PW];decide) (by rw [PW];decide)) ?_
   rintro _ w14 ⟨e14,hr⟩
   rw [ZaT] at hr
   rcases hr with ⟨m,v,ho,_⟩ | ⟨v,n,ho,rfl,hv⟩
   · cases ho
   injection ho with _ hn
   subst hn
   obtain ⟨rv,rfl,_,t1⟩:=hv.op
   unfold Zc3 Zp
   refine Qqv ?_
   unfold Zc2 Zp
   refine Qqv ?_
   unfold Zc1 Zp
   refine Qqv ?_
   unfold Zc0 Zp
   refine Qqv ?_
   unfold ZcZ Zp
   refine Qqv ?_
   unfold ZcY Zp
   refine Qqv ?_
   refine ⟨by trivial,?_⟩
   exact (E4.trans e14).alloc _
  unfold Lp Zp
  refine Qqh (Za oI4).1 ?_
  exact ⟨ZiZ (Ext.refl I) hMI hin4 MY go3,Zi0 (Ext.refl I) hMI hin4 MY go3⟩
 exact ⟨ZiX (Ext.refl H) (hM3.ext eH) hin3 MX go2,ZiY (Ext.refl H) (hM3.ext eH) hin3 MX go2⟩
abbrev Zap (w0:Wd):Ending→Wd→Prop:=ZE λ r w'=>r = .bool true∧Ext w0 w'
def Pj {w0 w:Wd} (hE:UN w0) (e:Ext w0 w):ZU Pg 12 #[] (Zc (Zap w0)) w λ t w=>Zap w0 (.returned t) w:=by
 refine zcr (MZ w (hE.ext e)) λ w1 e9=>?_
 refine Qqv ?_
 exact ⟨by trivial,e.trans e9⟩
def M1 {w0 w:Wd} (hE:UN w0) (e:Ext w0 w) (K:KV) (hK:∀ w',Ext w0 w'→K (.bool true) w'):ZU Pg 12 #[] (Zc (Zap w0)) w K:=by
 refine zcr (MZ w (hE.ext e)) λ w1 e9=>?_
 exact hK _ (e.trans e9)
def GU (w0:Wd) (hE:UN w0) (s:BAr):Ret Pg 5 #[.string s] w0 λ r w'=>r = .bool true∧Ext w0 w':=by
 refine Zk6 (R:=ZE _) ?_;unfold n51
 change opV _ _ (Zc (Zap w0)) w0 _
 have ds:decide ((s.size:Int) > 3000)=Zau s.size 3000:=rfl
 refine Qqh ds ?_
 cases Vs:Zau s.size 3000 with
 | true=>
  refine Qqv ?_
  exact Pj hE (Ext.refl _)
 | false=>
  have hs3:=Zav Vs
  have hsl:s.data.toList.length≤3000:=by rw [Vb];exact hs3
  have Er:∀ u∈Ye 10 s.data.toList,u.length≤80000:=λ u hu=>by have:=VS hu;omega
  refine Qqv ?_
  refine Zi (CK w0 hE s C1 (by have:=Ak 10 s.data.toList;omega) Er) ?_
  rintro _ w1 ⟨e1,h1⟩
  unfold Si
  rcases h1 with ⟨m,v,ho,rfl,hv⟩ | ⟨v,n,ho,rfl,hv⟩
  · obtain ⟨rv,rfl,hR,t1⟩:=hv.op
    refine Qqv ?_
    have o3:=Zt w1 (Z2 m rv).toArray 24
    have e3:Ext w1 (w1.alloc (.cells (Z2 m rv).toArray 24)):=(Ext.refl w1).alloc _
    change ZU _ _ _ _ (w1.alloc (.cells (Z2 m rv).toArray 24)) _
    generalize (w1.alloc (.cells (Z2 m rv).toArray 24))=V at o3 e3 ⊢
    generalize w1.heap.size=p3 at o3 ⊢
    refine Zi (qM V s C1 Er) ?_
    rintro _ w2 ⟨e2,h2⟩
    rcases h2 with ⟨m',v',ho',rfl,hv'⟩ | ⟨ho',_⟩
    · rw [ho] at ho'
      injection ho' with ho'
      subst ho'
      obtain ⟨rv',rfl,hR',t1'⟩:=hv'.op
      unfold Sl
      refine Qqv ?_
      have o6:=Zt w2 (Z2 m rv').toArray 24
      have e6:Ext w2 (w2.alloc (.cells (Z2 m rv').toArray 24)):=(Ext.refl w2).alloc _
      change Sk _ _ _ _ _ (w2.alloc (.cells (Z2 m rv').toArray 24))
      generalize (w2.alloc (.cells (Z2 m rv').toArray 24))=X at o6 e6 ⊢
      generalize w2.heap.size=p6 at o6 ⊢
      have e36:=e2.trans e6
      unfold Sk
      refine Qqb (Za (e36.obj o3)).1 (Za o6).1 ?_
      refine zcr (FD X _ _ m m ⟨rv,rfl,hR.ext (e3.trans e36)⟩ ⟨rv',rfl,hR'.ext e6⟩) λ w4 e4=>?_
      have dm:decide (m=m)=true:=by simp
      rw [dm]
      unfold ZcX ZcW ZcV
      refine Qqv ?_
      refine M1 hE (e1.trans (e3.trans (e36.trans e4))) _ λ w' e'=>?_
      refine Qqv ?_
      exact ⟨by trivial,e'⟩
    · rw [ho] at ho';cases ho'
  · obtain ⟨rv,rfl,hR,t1⟩:=hv.op
    refine Qqv ?_
    have o3:=Zt w1 (Z2 ⟨ByteArray.empty,[]⟩ rv).toArray 24
    have e3:Ext w1 (w1.alloc (.cells (Z2 ⟨ByteArray.empty,[]⟩ rv).toArray 24)):=(Ext.refl w1).alloc _
    change ZU _ _ _ _ (w1.alloc (.cells (Z2 ⟨ByteArray.empty,[]⟩ rv).toArray 24)) _
    generalize (w1.alloc (.cells (Z2 ⟨ByteArray.empty,[]⟩ rv).toArray 24))=V at o3 e3 ⊢
    generalize w1.heap.size=p3 at o3 ⊢
    refine Zi (qM V s C1 Er) ?_
    rintro _ w2 ⟨e2,h2⟩
    rcases h2 with ⟨m',v',ho',_⟩ | ⟨ho',v',rfl,hv'⟩
    · rw [ho] at ho';cases ho'
    · rw [ho]
      obtain ⟨rv',rfl,hR',t1'⟩:=hv'.op
      unfold Sl
      refine Qqv ?_
      have e6:Ext w2 (w2.alloc (.cells (Z2 ⟨⟨#[]⟩,[]⟩ rv').toArray 24)):=(Ext.refl w2).alloc _
      change Sj _ _ _ _ _ (w2.alloc (.cells (Z2 ⟨⟨#[]⟩,[]⟩ rv').toArray 24))
      generalize (w2.alloc (.cells (Z2 ⟨⟨#[]⟩,[]⟩ rv').toArray 24))=X at e6 ⊢
      have e36:=e2.trans e6
      unfold Sj
      refine Qqh (Za (e36.obj o3)).1 ?_
      refine zcr (FD X _ _ ⟨ByteArray.empty,[]⟩ ⟨ByteArray.empty,[]⟩ ⟨rv,rfl,hR.ext (e3.trans e36)⟩ ⟨Yb,rfl,Zd.nil ..⟩) λ w4 e4=>?_
      have dm:decide ((⟨ByteArray.empty,[]⟩:Xn)=⟨ByteArray.empty,[]⟩)=true:=by simp
      rw [dm]
      have dn:((n:Int) == (n:Int))=true:=by simp
      unfold ZcU ZcT ZcS
      refine Qqh dn ?_
      refine M1 hE (e1.trans (e3.trans (e36.trans e4))) _ λ w' e'=>?_
      refine Qqh dn ?_
      exact ⟨by trivial,e'⟩
end Go.Proofs.YtgalpdihjbinjaaGreatDoor
namespace Go.Sw
open Go.ChangeShapes Go.WideShapes Go.RowKit Go.ChangeAt Go.Deep
section
variable {H:Type} {enc:TypeId×Vl→H} {P:Program} {w:Wd} {base:Nat} {spare:Nat→Bool} {held:Bool}
def Tw {r:Reach} {b0:Nat} {t:TypeId} {v:Vl} {d:DataW H} {ps:List MemPlace} (ht:P.underlying t=some .string) (hval:Value.okWide P w r b0 t v) (hd:DataW.Trod enc P w base spare held t v d ps):∃ s:BAr,v = .string s∧d = .lit (.string s.data.toList):=by
 obtain ⟨s,rfl⟩:=okWide_string ht hval
 obtain ⟨fuel,hf⟩:=hd
 obtain ⟨s',h,hx,hs⟩:=DataW.trod_string ht hf
 simp [Value.cells] at h
 simp only [Prod.mk.injEq] at hx
 exact ⟨s,rfl,by rw [hx.1,h]⟩
def GN (hl:laidOutB P=true) {W W':Wd} (he:Ext W W'):∀ {ts:List TypeId} {vs:List Vl} {ds:List (DataW H)} {ps:List MemPlace},(∀ t∈ts,P.readableRec t=true∧t < P.types.size)→(∀ x∈ps,x.block < W.heap.size) →
 DataW.TrodAll enc P W 0 (λ _=>true) true ts vs ds ps→DataW.TrodAll enc P W' 0 (λ b=>decide (b < W.heap.size)) true ts vs ds ps
 | [],_,_,_,_,_,h=>by obtain ⟨rfl,rfl,rfl⟩:=trodAll_nil h;exact trodAll_mk0
 | t::ts,_,_,_,hr,Yo,h=>by
  obtain ⟨v,vs1,d,ds1,a,b,rfl,rfl,rfl,h1,h2⟩:=trodAll_cons h
  refine ⟨a,b,?_,GN hl he (λ t ht=>hr t (List.mem_cons_of_mem _ ht)) (λ x hx=>Yo x (List.mem_append_right _ hx)) h2,rfl⟩
  exact Below.trod hl (hr t (List.mem_cons_self ..)).1 (hr t (List.mem_cons_self ..)).2 h1 ⟨he.os,he.tape,he.output,he.size,he.block⟩ (λ x hx=>Yo x (List.mem_append_left _ hx))
def P1 {f:Func} {s:ChangeSpec} {W W':Wd} {args:AVl} {ds gs:List (DataW H)} {before:List MemPlace} {tb:TypeId} (hl:laidOutB P=true) (hr:∀ t∈f.params.toList,P.readableRec t=true∧t < P.types.size) (hs:s.vars=[])
 (hW:DataW.Whole enc P f.params.toList s.vars false W args.toList ds gs before) (he:Ext W W') (hres:f.resultTypes = #[tb]) (htb:P.underlying tb=some .bool) (hfn:(s.fn H ds).results=[.lit (.bool true)]) (hargs:(s.fn H ds).args=ds) (hvars:(s.fn H ds).vars=[]) :
 s.post enc P f false true false false W args (.bool true) W':=by
 have hW':=hW
 obtain ⟨p,q,hA,hV,rfl,_,_⟩:=hW
 rw [hs] at hV
 obtain ⟨rfl,rfl⟩:=trodVars_none hV
 have Yo:∀ x∈p,x.block < W.heap.size:=λ x hx=>hW'.lt x (by simpa using hx)
 rw [List.append_nil] at hW'
 refine ⟨ds,[],p,[],p,[],hW',?_,?_,?_,Below.frame ⟨he.os,he.tape,he.output,he.size,he.block⟩ _,λ h=>by cases h⟩
 · rw [List.append_nil,hfn,hres]
   exact trodAll_mk1 (shut_bool htb _)
 · rw [List.append_nil,hargs]
   exact GN hl he hr Yo hA
 · rw [List.append_nil,hvars,hs]
   exact rfl
end
end Go.Sw
namespace Go.Proofs.YtgalpdihjbinjaaGreatDoor
open Sw
open Go.ChangeShapes Go.WideShapes Go.RowKit Go.ChangeAt Go.Deep
def bytesRow:1≤Pg.bytesOf 78:=Nat.le_of_ble_eq_true K5
end Go.Proofs.YtgalpdihjbinjaaGreatDoor
namespace Go.Proofs.YtgalpdihjbinjaaGreatDoor
open Sw
open Go.RowKit Go.Deep
def Q7:List (String×DataW Unit):=[("math/bits.deBruijn32tab", Rows.laid_math_bits_deBruijn32tab),("math/bits.deBruijn64tab", Rows.laid_math_bits_deBruijn64tab),("internal/strconv.uint64pow10", Rows.laid_internal_strconv_uint64pow10),("unicode/utf8.acceptRanges", Rows.laid_unicode_utf8_acceptRanges),("strconv.ErrRange", Rows.laid_strconv_ErrRange),("strconv.ErrSyntax", Rows.laid_strconv_ErrSyntax),("unicode/utf8.first", Rows.laid_unicode_utf8_first)]
def role_own:ownKnob Pg.godebug=none:=K5
def role_laidOut:laidOutB Pg=true:=K5
def TJ (os:Os) (args:AVl):laidMetH Pg Q7 ((World.laidAll Pg os Q7).forCall (λ _ _=>0) ⟨#[],args,[]⟩).memory:=by
 rw [MakeChecks.laidMetH_plain _ _ _ K5]
 exact laidMet_laidAll _ K5 K5
def TK {W:Wd} (h:laidMetH Pg Q7 W):UR W:=by
 rw [MakeChecks.laidMetH_plain _ _ _ K5] at h
 have h3:=laidMet.tail (laidMet.tail h)
 have he:(Rows.laid_internal_strconv_uint64pow10:DataW Unit)=Go.Lib.tabData .u64 Go.Lib.pow10Tab:=K5
 rw [he] at h3
 obtain ⟨g,hg⟩:=Option.isSome_iff_exists.1 ZfT
 have hty:(Pg.globals[g]?).map (·.type)=some 281:=by
  have h1:(Pg.globalNamed "internal/strconv.uint64pow10").bind (λ g=>(Pg.globals[g]?).map (·.type))=some 281:=K5
  rw [hg] at h1
  exact h1
 exact Go.Lib.tabIs_of_head hg hty underlying281 underlying191 K5 K5 h3
def DM : "*" ++ "errors.errorString" = "*errors.errorString" := by decide
def jn (u:TypeId) (h:Pg.typeName? 3 u=some "*errors.errorString"):u=292:=
 typeName_ptr_named (nm := "errors.errorString") (by rw [DM];kernel_rfl) K5 K7 u (by rw [DM];exact h)
def TI {W:Wd} (hs:W.ShapedOpen Pg) (h:laidMetH Pg Q7 W):UO W:=by
 refine ⟨TK h,Go.Proofs.cell_of_shapedOpen_int (k := .i64) hs (of_decide_eq_true K5) (zero := #[.int .i64 0]) (t:=3) K5 rfl K5 K5 underlying3,?_,?_⟩
 · rw [MakeChecks.laidMetH_plain _ _ _ K5] at h
   have h5:=h.tail.tail.tail.tail.tail
   obtain ⟨a,s,hv,_⟩:=laid_sentinel (g:=3) h5 K5 K5 underlying162 jn underlying292 underlying294 rfl rfl underlying9 K5 K5
   refine ⟨_,by rw [World.var?_cell (show Pg.globalNamed "strconv.ErrSyntax" = some 3 by kernel_rfl) hv 0];rfl,.inr ⟨_,_,rfl⟩⟩
 · rw [MakeChecks.laidMetH_plain _ _ _ K5] at h
   have h5:=h.tail.tail.tail.tail
   obtain ⟨a,s,hv,_⟩:=laid_sentinel (g:=4) h5 K5 K5 underlying162 jn underlying292 underlying294 rfl rfl underlying9 K5 K5
   refine ⟨_,by rw [World.var?_cell (show Pg.globalNamed "strconv.ErrRange" = some 4 by kernel_rfl) hv 0];rfl,.inr ⟨_,_,rfl⟩⟩
def ZfN:List Int:=[0,1,56,2,57,49,28,3,61,58,42,50,38,29,17,4,62,47,59,36,45,43,51,22,53,39,33,30,24,18,12,5,63,55,48,27,60,41,37,16,46,35,44,21,52,32,23,11,54,26,40,15,34,20,31,10,25,14,19,9,13,8,7,6]
def Za0 {W:Wd} (hs:W.ShapedOpen Pg) (h:laidMetH Pg Q7 W):UN W:=by
 refine ⟨TI hs h,?_⟩
 rw [MakeChecks.laidMetH_plain _ _ _ K5] at h
 have h2:=laidMet.tail h
 have he:(Rows.laid_math_bits_deBruijn64tab:DataW Unit)=Go.Lib.tabData .u8 ZfN:=K5
 rw [he] at h2
 have hg:Pg.globalNamed "math/bits.deBruijn64tab" = some 7:=K5
 have hv:=Go.Lib.tabIs_of_head hg (t:=306) K5 underlying306 underlying5 K5 K5 h2
 rw [World.var?_cell hg hv 15]
 rfl
def IU {H:Type} {enc:TypeId×Vl→H} {a:Assume} {C:Checked} {os:Os} {f:FuncId} {fn:Func} {s:ChangeSpec} {conds:List PathCond} {apart fresh handsOn again:Bool} {X:Wd→AVl→Prop}
 (hX:∀ (w w':Wd) (args:AVl),w.heap=w'.heap→X w args→X w' args)
 (own:ownKnob C.prog.godebug=none) (started:os.Started) (noInit:C.prog.inits.idxOf? f=none) (hfn:C.prog.funcs[f]?=some fn)
 (witness:∃ (w:Wd) (tape:Tape) (i:Input),w.os=os∧(w.forCall tape i).Shaped C.prog∧i.vars=[]∧Input.okWide C.prog (w.forCall tape i) .any w.heap.size f i ∧
  ((s.pre enc C.prog fn conds apart (w.forCall tape i).memory i.args∧X (w.forCall tape i).memory i.args)∧sizedMet enc C.prog fn (OpenSpec.ofChange s) apart (w.forCall tape i).memory i.args)∧a.holds C.prog (lone (Frame.enter C.prog f i.args .normal) [] (w.forCall tape i)))
 (contract:∀ (W:Wd) (base:Nat) (args:AVl) (ds gs:List (DataW H)) (before:List MemPlace),
  (∀ (j:Nat) t v,fn.params[j]?=some t→args[j]?=some v→Value.okWide C.prog W .any base t v) →
  DataW.Whole enc C.prog fn.params.toList s.vars apart W args.toList ds gs before →
  conds.all (PathCond.test C.prog ⟨fn.params.toList,ds,s.plain.varTypes C.prog,gs⟩)=true →
  (DataW.weightsEach C.prog (fn.params.toList++s.plain.varTypes C.prog) (ds++gs)).all (· ≤ reachBytes)=true→X W args→W.ShapedOpen C.prog →
  a.holds C.prog (lone (Frame.enter C.prog f args .normal) [] W) →
  Calls C.prog f args W λ e W'=>∃ v,e = .returned v∧s.post enc C.prog fn apart fresh handsOn again W args v W') :
 ReturnsInHanded a C os f .any (λ w args=>(s.pre enc C.prog fn conds apart w args∧X w args)∧sizedMet enc C.prog fn (OpenSpec.ofChange s) apart w args) (s.post enc C.prog fn apart fresh handsOn again):=by
 refine returnsInHanded_of_calls own started noInit witness ?_
 intro w tape i _ hsh _ hok hpre hholds
 obtain ⟨_,_,_,fn',hfn',_,_,_,_,hval⟩:=hok
 have e:fn'=fn:=Option.some.inj (hfn'.symm.trans hfn)
 subst e
 obtain ⟨⟨⟨ds,gs,before,hw,hc⟩,hx⟩,hz⟩:=hpre
 have hw':=DataW.Whole.of_heap (w':=w.forCall tape i) (by rfl) hw
 refine (contract (w.forCall tape i) w.heap.size i.args ds gs before hval hw' hc (hz.weights hw) (hX _ _ _ (by rfl) hx) hsh hholds).mono λ e W' ⟨v,he,hp⟩=>?_
 subst he
 exact ChangeSpec.post_blind hp
end Go.Proofs.YtgalpdihjbinjaaGreatDoor
namespace Go.Proofs.YtgalpdihjbinjaaGreatDoor
open Sw
open Go.ChangeShapes Go.WideShapes Go.RowKit Go.ChangeAt Go.Deep
theorem xe (W:Wd) (s0:BAr)  (hE:UN W):Ret Pg 5 #[.string s0] W λ r w'=>r = .bool true∧Ext W w':=GU W hE s0
theorem mparses_lifted (os:Os) (started:os.Started) (H:Type) (enc:TypeId×Vl→H) :
 ReturnsInHanded {} Tryz.checked os 5 .any (λ w args=>(Rows.mappingParsesSpec.pre enc Pg Tryz.f5 Rows.mappingParsesRow.domain false w args∧laidMetH Pg Q7 w)∧sizedMet enc Pg Tryz.f5 (OpenSpec.ofChange Rows.mappingParsesSpec) false w args) (Rows.mappingParsesSpec.post enc Pg Tryz.f5 false true false false):=by
 refine IU (C:=Tryz.checked) (X:=λ w _=>laidMetH Pg Q7 w) (λ _ _ _ hh h=>h.of_heap hh) role_own started K5 func5
  (ChangeSpec.witness_shaped (enc:=enc) (C:=Tryz.checked) (os:=os) (X:=λ w _=>laidMetH Pg Q7 w) false (World.laidAll Pg os Q7) #[.string Qqk] 8 (World.laidAll_os _ _ _) (World.shaped_of_ZipB K5 K5) K5 K5 K5 (TJ os _)) ?_
 intro W base args ds gs before hval hW _ Vs hL hsh _
 have hW':=hW
 obtain ⟨p,q,hA0,hV,rfl,_,_⟩:=hW
 have hA:DataW.TrodAll enc Pg W 0 (λ _=>true) true Tryz.f5.params.toList args.toList ds p:=hA0
 rw [Tryz.params5] at hA hval Vs
 obtain ⟨v0,vs0,d0,ds0,p0,q0,ha0,rfl,rfl,h0,r0⟩:=trodAll_cons hA
 obtain ⟨rfl,rfl,rfl⟩:=trodAll_nil r0
 obtain rfl:args = #[v0]:=by cases args;simp_all
 obtain ⟨s0,rfl,_⟩:=Tw underlying9 (hval 0 _ v0 rfl rfl) h0
 refine Calls.mono (xe W s0 (Za0 hsh hL)) λ e W' ⟨v,he,hv,hx⟩=>?_
 subst he hv
 exact ⟨_,rfl,P1 role_laidOut (by decide +kernel) rfl hW' hx rfl underlying4 rfl rfl rfl⟩
theorem jx:Pg.inPlace 5=Rows.mappingParsesRow.inPlace:=K5
theorem G8:Pg.unfollowed 5=Rows.mappingParsesRow.unfollowed:=K5
theorem xy:Pg.recurses 5=Rows.mappingParsesRow.recurses:=K5
theorem yy:Pg.varsNamed 5=Rows.mappingParsesRow.named:=K5
theorem Co:joinedFacts Pg 5 Tryz.f5 Rows.mappingParsesSpec Rows.mappingParsesRow=true:=by
 unfold joinedFacts
 rw [jx,G8,xy,yy]
 kernel_rfl
theorem mparses_holds:Rows.MappingParsesSaid:=
 OpenClaim.holds_of_wide 5 Tryz.f5 rfl rfl rfl rfl rfl rfl rfl ⟨rfl,rfl,rfl,rfl,rfl⟩ rfl rfl rfl rfl rfl K5 func5 Co
  (of_decide_eq_true K5) (by unfold Func.isWrapper;first | (rw [if_pos (by decide +kernel)];kernel_rfl) | (rw [if_neg (by decide +kernel)];exact ⟨rfl,rfl⟩))
  (λ os started H enc _=>mparses_lifted os started H enc)
theorem mparses_card:Rows.MappingParsesCardSaid:=
 Claim7.holds_tied_plain_at .later [] [.data,.data,.data,.data,.sentinel,.sentinel,.pinned] true (true, "cedc2496089f77d4df55280aa44dc215bf5ea19b61a6b8ccb76ab88a333a5715") true
  mparses_holds (λ _ h=>by cases h) K5 (λ _ h=>by cases h) mappingParses_row_tie rfl ⟨rfl,rfl⟩ K5 rfl
  (λ f fn hf hfn=>by
   obtain rfl:f=5:=Option.some.inj ((show Pg.funcNamed "phrasebook/phrasebooklaw45.MappingParses" = some 5 by kernel_rfl).symm.trans hf) |>.symm
   obtain rfl:fn=Tryz.f5:=(Option.some.inj (func5.symm.trans hfn)).symm
   exact ⟨by kernel_rfl,λ j t ht=>by
    rw [Tryz.params5] at ht
    have hm:t∈[9]:=by simpa using Array.mem_of_getElem? ht
    have hall:([9].all λ u=>!Pg.wantsStandIn u)=true:=K5
    exact (show Pg.wantsStandIn t=false by simpa using List.all_eq_true.1 hall t hm)⟩)
  K5
end Go.Proofs.YtgalpdihjbinjaaGreatDoor
