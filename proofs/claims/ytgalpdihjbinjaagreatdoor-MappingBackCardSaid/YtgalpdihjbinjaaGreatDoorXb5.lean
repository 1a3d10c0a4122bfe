/-
  Lemmas for the claim.
-/
import Derived.Test.YtgalpdihjbinjaaGreatDoorXb4
set_option linter.all false
set_option maxHeartbeats 4000000
set_option maxRecDepth 100000
open Go.Instr (loadAt storeAt fieldAt indexAt buildSlice mapUpdate makeFunc alloc build box extract fill sliceAt lookup makeInterface)
open Go.Proofs.Tryz
namespace Go.Proofs.YtgalpdihjbinjaaGreatDoor
open Sw
def qF (a b:Vl) (ds:LDf) (R:RT) (w:Wd):Prop:=
 opV Pg (build 34 #[]) (ZB Pg ds [(some 34,a),(some 4,b)] R) w λ c w=>
 opU Pg (storeAt 34 a c) (ZB Pg ds [(some 34,a),(some 4,b)] R) w λ w=>
 opU Pg (storeAt 4 b (.bool false)) (ZB Pg ds [(some 34,a),(some 4,b)] R) w λ w=>
 Uc Pg ds [(some 34,a),(some 4,b)] R w
def qG (a b c d e:Vl) (f:WPr) (ds:LDf) (R:RT) (w:Wd):Prop:=
 Zy d e (.bool false) λ g=>
 ZV Pg 33 #[c,g,(.int .i64 11)] (ZB Pg ds [(some 34,a),(some 4,b)] R) w λ h w=>
 f w∧(
 qF a b ds R w)
def AY (e f g h i j c:Vl) (a:WPr) (ds:LDf) (R:RT) (w:Wd):Prop:=
 Zo (λ (b:Vl) (w:Wd)=>
 qG g h i c b a ds R w) λ d=>
 Zn c true (
 J0 24 e 1 a λ k=>
 I0 22 k a λ l=>
 M0 22 l j a λ m=>
 J0 60 m 1 a λ n=>
 I0 9 n a λ o=>
 J0 27 f 2 a λ p=>
 I0 9 p a λ q=>
 qV Pg a (ZF .eql 9 false o q) λ b=>
 d b w) (
 d undef w)
def AZ (d e a b f c:Vl) (ds:LDf) (R:RT) (w:Wd):Prop:=
 opV Pg (extract c 0) (ZB Pg ds [(some 34,a),(some 4,b)] R) w λ g w=>
 opV Pg (extract c 1) (ZB Pg ds [(some 34,a),(some 4,b)] R) w λ h w=>
 Yg w λ i w=>
 AY d e a b f g h i ds R w
def qH (c e f a b d:Vl) (ds:LDf) (R:RT) (w:Wd):Prop:=
 opN Pg (Y2 d) (ZB Pg ds [(some 34,a),(some 4,b)] R) w λ g w=>
 opV Pg (fieldAt 81 g 3) (ZB Pg ds [(some 34,a),(some 4,b)] R) w λ h w=>
 opU Pg (storeAt 3 h (.int .i64 (-1))) (ZB Pg ds [(some 34,a),(some 4,b)] R) w λ w=>
 opV Pg (loadAt 24 c) (ZB Pg ds [(some 34,a),(some 4,b)] R) w λ i w=>
 opV Pg (fieldAt 27 e 2) (ZB Pg ds [(some 34,a),(some 4,b)] R) w λ j w=>
 opV Pg (loadAt 9 j) (ZB Pg ds [(some 34,a),(some 4,b)] R) w λ k w=>
 ZV Pg 20 #[i,k] (ZB Pg ds [(some 34,a),(some 4,b)] R) w λ l w=>
 AZ c f a b d l ds R w
def A1 (a b d f c:Vl) (VR:KV) (ds:LDf) (R:RT) (w:Wd):Prop:=
 opV Pg (indexAt 22 f c) (ZB Pg ds [(some 34,a),(some 4,b)] R) w λ g w=>
 opV Pg (loadAt 60 g) (ZB Pg ds [(some 34,a),(some 4,b)] R) w λ h w=>
 opV Pg (alloc 60 true (.tuple #[])) (ZB Pg ds [(some 34,a),(some 4,b)] R) w λ e w=>
 opU Pg (storeAt 60 e h) (ZB Pg ds [(some 34,a),(some 4,b)] R) w λ w=>
 opN Pg (Y2 d) (ZB Pg ds [(some 34,a),(some 4,b)] R) w λ i w=>
 opV Pg (fieldAt 81 i 3) (ZB Pg ds [(some 34,a),(some 4,b)] R) w λ j w=>
 opU Pg (storeAt 3 j c) (ZB Pg ds [(some 34,a),(some 4,b)] R) w λ w=>
 opV Pg (loadAt 60 e) (ZB Pg ds [(some 34,a),(some 4,b)] R) w λ k w=>
 ZV Pg 36 #[d,k] (ZB Pg ds [(some 34,a),(some 4,b)] R) w λ m w=>
 opV Pg (ZF .add 3 true c (.int .i64 1)) (ZB Pg ds [(some 34,a),(some 4,b)] R) w λ l w=>
 VR l w
def A5 (e f g a b c h i d:Vl) (VR:KV) (ds:LDf) (R:RT) (w:Wd):Prop:=
 opV Pg (ZF .lss 3 false d i) (ZB Pg ds [(some 34,a),(some 4,b)] R) w λ j w=>
 Zs j (
 A1 a b c h d VR ds R w) (
 qH e f g a b c ds R w)
def yj (c e f a b g:Vl) (ds:LDf) (R:RT) (w:Wd):Prop:=
 opV Pg (fieldAt 24 c 1) (ZB Pg ds [(some 34,a),(some 4,b)] R) w λ h w=>
 opV Pg (loadAt 22 h) (ZB Pg ds [(some 34,a),(some 4,b)] R) w λ d w=>
 opV Pg (Builtin.len_ #[22] 3 #[d]) (ZB Pg ds [(some 34,a),(some 4,b)] R) w λ i w=>
 Y6 (λ j w VR=>
 A5 c e f a b g d i j VR ds R w) (.int .i64 0) w
def Dg (d e f a b c g h:Vl) (ds:LDf) (R:RT) (w:Wd):Prop:=
 Zy g h (.bool false) λ i=>
 ZV Pg 33 #[c,i,(.int .i64 2)] (ZB Pg ds [(some 34,a),(some 4,b)] R) w λ j w=>
 yj d e f a b c ds R w
def ze (c g h a b i:Vl) (ds:LDf) (R:RT) (w:Wd):Prop:=
 opV Pg (fieldAt 24 c 1) (ZB Pg ds [(some 34,a),(some 4,b)] R) w λ j w=>
 opV Pg (loadAt 22 j) (ZB Pg ds [(some 34,a),(some 4,b)] R) w λ k w=>
 opV Pg (Builtin.len_ #[22] 3 #[k]) (ZB Pg ds [(some 34,a),(some 4,b)] R) w λ l w=>
 opV Pg (ZF .geq 3 true l (.int .i64 1)) (ZB Pg ds [(some 34,a),(some 4,b)] R) w λ e w=>
 Zo (λ (d:Vl) (w:Wd)=>
 Dg c g h a b i e d ds R w) λ f=>
 Zn e true (
 opV Pg (fieldAt 24 c 1) (ZB Pg ds [(some 34,a),(some 4,b)] R) w λ m w=>
 opV Pg (loadAt 22 m) (ZB Pg ds [(some 34,a),(some 4,b)] R) w λ n w=>
 opV Pg (Builtin.len_ #[22] 3 #[n]) (ZB Pg ds [(some 34,a),(some 4,b)] R) w λ o w=>
 opV Pg (ZF .leq 3 true o (.int .i64 60)) (ZB Pg ds [(some 34,a),(some 4,b)] R) w λ d w=>
 f d w) (
 f undef w)
def JC (c e f a b d:Vl) (ds:LDf) (R:RT) (w:Wd):Prop:=
 opV Pg (fieldAt 24 c 0) (ZB Pg ds [(some 34,a),(some 4,b)] R) w λ g w=>
 opV Pg (loadAt 9 g) (ZB Pg ds [(some 34,a),(some 4,b)] R) w λ h w=>
 ZV Pg 35 #[h] (ZB Pg ds [(some 34,a),(some 4,b)] R) w λ i w=>
 ZV Pg 33 #[d,i,(.int .i64 1)] (ZB Pg ds [(some 34,a),(some 4,b)] R) w λ j w=>
 ze c e f a b d ds R w
def xT (d e f a b c g h:Vl) (ds:LDf) (R:RT) (w:Wd):Prop:=
 Zy g h (.bool false) λ i=>
 ZV Pg 33 #[c,i,(.int .i64 0)] (ZB Pg ds [(some 34,a),(some 4,b)] R) w λ j w=>
 JC d e f a b c ds R w
def JD (g h d a b i e:Vl) (ds:LDf) (R:RT) (w:Wd):Prop:=
 Zo (λ (c:Vl) (w:Wd)=>
 xT g h d a b i e c ds R w) λ f=>
 Zn e true (
 opV Pg (loadAt 27 d) (ZB Pg ds [(some 34,a),(some 4,b)] R) w λ j w=>
 ZV Pg 34 #[j] (ZB Pg ds [(some 34,a),(some 4,b)] R) w λ c w=>
 f c w) (
 f undef w)
def n14 (f g h:Vl) (R:RT) (w:Wd):Prop:=
 (λ (ds:LDf)=>
 opV Pg (box 24 f) (ZB Pg ds [(some 34,undef),(some 4,undef)] R) w λ d w=>
 opV Pg (box 27 g) (ZB Pg ds [(some 34,undef),(some 4,undef)] R) w λ c w=>
 opV Pg (box 27 h) (ZB Pg ds [(some 34,undef),(some 4,undef)] R) w λ e w=>
 opV Pg (alloc 34 true (.tuple #[])) (ZB Pg ds [(some 34,undef),(some 4,undef)] R) w λ a w=>
 opV Pg (alloc 4 true (.tuple #[])) (ZB Pg ds [(some 34,a),(some 4,undef)] R) w λ b w=>
 opV Pg (loadAt 24 d) (ZB Pg ds [(some 34,a),(some 4,b)] R) w λ i w=>
 opV Pg (loadAt 27 c) (ZB Pg ds [(some 34,a),(some 4,b)] R) w λ j w=>
 opV Pg (loadAt 27 e) (ZB Pg ds [(some 34,a),(some 4,b)] R) w λ k w=>
 opV Pg (build 81 #[(0,i),(1,j),(2,k),(3,(.int .i64 (-1))),(4,(.int .i64 (-1)))]) (ZB Pg ds [(some 34,a),(some 4,b)] R) w λ l w=>
 opV Pg (box 81 l) (ZB Pg ds [(some 34,a),(some 4,b)] R) w λ m w=>
 opV Pg (makeFunc (.func 32) #[] #[a,b]) (ZB Pg ds [(some 34,a),(some 4,b)] R) w λ n w=>
 ZdP Pg n #[] ds w λ ds w=>
 opV Pg (loadAt 27 c) (ZB Pg ds [(some 34,a),(some 4,b)] R) w λ o w=>
 ZV Pg 34 #[o] (ZB Pg ds [(some 34,a),(some 4,b)] R) w λ p w=>
 JD d c e a b m p ds R w) []
set_option maxHeartbeats 40000000 in
theorem ZjT {t0 t1 t2:Vl} {R:RT} {w:Wd} (h:n14 t0 t1 t2 R w):Calls Pg 14 #[t0,t1,t2] w R:=by
 refine yE func14 ?_
 unfold n14 at h
 dsimp only at h
 refine zs<|zr<|yv h λ _ w h=>yv h λ _ w h=>yv h λ _ w h=>yv h λ _ w h=>yv h λ _ w h=>zn<|zk<|zs<|zr<|yv h λ _ w h=>yv h λ _ w h=>yv h λ _ w h=>yB h λ _ w h=>?_
 refine yv h λ _ w h=>zm<|zn<|zk<|zs<|zr<|yF h λ _ w h=>?_
 refine DJ h rfl rfl ?_;intro ds w h
 refine zn<|zk<|zs<|Zt<|yG 4<|zm<|yv h λ _ w h=>yc h c34 λ _ w h=>zm<|zn<|yg1 2 3 true [23,24] 24 h (λ _ T hT h=>?_) λ σ w h=>?_
 · refine yv h λ _ w h=>yc h c34 λ _ w h=>zn ?_
   exact zt hT h
 refine yG 2<|yp h λ _ h=>yc h c33 λ _ w h=>zn<|ZK<|zk<|zs<|zr<|zm<|yv h λ _ w h=>yv h λ _ w h=>yc h c35 λ _ w h=>yc h c33 λ _ w h=>zn<|zk ?_
 refine zs<|Zt<|yG 6<|zm<|yv h λ _ w h=>yv h λ _ w h=>yx h λ _ w h=>yb h λ _ w h=>zm<|zn<|yg1 4 5 true [38,39,40,41] 41 h (λ _ T hT h=>?_) λ σ w h=>?_
 · refine yv h λ _ w h=>yv h λ _ w h=>yx h λ _ w h=>yb h λ _ w h=>zn ?_
   exact zt hT h
 refine yG 2<|yp h λ _ h=>yc h c33 λ _ w h=>zn<|ZK<|zk<|zs<|zs<|zr<|yv h λ _ w h=>yv h λ _ w h=>yx h λ _ w h=>zm<|zn<|zk ?_
 refine Zl<|yl1 [9,10,47,48,49,50,51,52,53,54,55,56,57,58,59] 47 h λ σ w next h=>zs<|zr<|yb h λ _ w h=>zn<|zk<|zs<|yC h (λ h=>?_) λ h=>?_
 · refine Zj<|zk<|zs<|Zl<|zs<|zr<|zm<|yv h λ _ w h=>yv h λ _ w h=>yv h λ _ w h=>zm<|yu h λ w h=>zn<|zk<|zs ?_
   refine zr<|zm<|zm<|yN h λ _ w h=>yv h λ _ w h=>yu h λ w h=>zn<|zk<|zr<|zm<|yv h λ _ w h=>yc h c36 λ _ w h=>zn<|Zf<|zk ?_
   exact zr<|yb h λ _ w h=>zm<|zn<|zk<|⟨rfl,h⟩
 refine ZM<|Ze<|Ze<|Zu<|zk<|zs<|zr<|zm<|yN h λ _ w h=>yv h λ _ w h=>yu h λ w h=>zn<|zk<|zs<|zr ?_
 refine yv h λ _ w h=>yv h λ _ w h=>yv h λ _ w h=>yc h c20 λ _ w h=>zm<|yv h λ _ w h=>yv h λ _ w h=>zm<|zm<|zn<|zk<|zs<|yh [70,71,72,73,74,75,76,77,78,79,80,81,82,83] h λ C hC h=>yw 0 hC ?_
 refine yw 1 hC ?_
 refine yw 2 hC ?_
 refine yj1 2 [11,10,9,8,7,6,5,4,3,2,1,0] [73,74,75,76,77,78,79,80,81] 81 h (λ _ hT hb h=>?_) (λ _ hT hb h=>?_) λ σ w hC h=>?_
 · refine ye 3 hC h λ _ h=>?_
   refine ye 4 hC h λ _ h=>?_
   refine yw 5 hC ?_
   refine ye 6 hC h λ _ h=>?_
   refine ye 7 hC h λ _ h=>?_
   refine ye 8 hC h λ _ h=>?_
   refine ye 9 hC h λ _ h=>?_
   refine ye 10 hC h λ _ h=>?_
   refine ye 11 hC h λ _ h=>?_
   exact yt hT hC h
 · refine yi 3 hC ?_
   refine yi 4 hC ?_
   refine yi 5 hC ?_
   refine yi 6 hC ?_
   refine yi 7 hC ?_
   refine yi 8 hC ?_
   refine yi 9 hC ?_
   refine yi 10 hC ?_
   refine yi 11 hC ?_
   exact yt hT hC h
 refine yP 12 hC h λ _ h=>?_
 refine yo 13 ?_
 refine yc h c33 λ _ w h=>zn ?_
 obtain ⟨hC,h⟩:=h
 refine ⟨hC,?_⟩
 exact yz<|zk<|zs<|zr<|yB h λ _ w h=>yu h λ w h=>yu h λ w h=>zn<|zk<|Zg<|X8 rfl h
open Go.RowKit (intOf Below)
theorem Ca {d:Xv} (h:(!Xn d)=true):∀ x∈d.msgs,∀ f∈x.fields,(Yy f).length≤1048576:=by
 intro x hx f hf
 have h0:(Xo d).2.2=0:=by
  unfold Xn at h
  simpa using h
 obtain ⟨_,_,h3,_⟩:=VF h0
 obtain ⟨k,hk⟩:=List.getElem?_of_mem hx
 obtain ⟨_,_,h40,h4,_⟩:=Kn (h3.next hk)
 have h1:=qg _ _ _ _ h4
 have h2:(Yy f).length≤(YW x.fields).length:=by
  unfold YW
  obtain ⟨l1,l2,hl⟩:=List.append_of_mem hf
  rw [hl,List.flatMap_append,List.flatMap_cons,List.length_append,List.length_append]
  omega
 omega
theorem PY {w0 w:Wd} {o:Option (Int×Int×Int)} {p3 p4:Nat} (e:Ext w0 w) (o3:w.heap[p3]?=some (.cells #[.int .i64 0,.int .i64 0,.int .i64 0] 34 (0,0))) (o4:w.heap[p4]?=some (.cells #[.bool false] 4 (0,0)))
 (h:o=none):Uc Pg [Wb p3 p4] (Fe p3 p4) (ZI (xE w0 o)) w:=by
 unfold Uc
 refine IE ?_
 unfold Sw.endM yW XT Fe
 simp only
 simp (disch:=try exact DI) only [↓PR,QR,simprocAttr,(Za o3).1,(Za o4).1]
 exact ⟨by rw [h];rfl,e⟩
section
variable {w0 A0 w:Wd} {cb p1 p2 p5 p3 p4:Nat} {m:Yo} {d e:Xv} {ru:Int} {rv dv ev:Vl} {O:Option (Int×Int×Int)}
structure jT (w0 A0:Wd) (p1 p2 p5 p3 p4:Nat) (m:Yo) (d e:Xv) (rv dv ev:Vl):Prop where
 ea:Ext w0 A0
 o1:A0.heap[p1]?=some (.cells (ZL m rv).toArray 24 (0,0))
 o2:A0.heap[p2]?=some (.cells (Yd d dv).toArray 27 (0,0))
 o5:A0.heap[p5]?=some (.cells (Yd e ev).toArray 27 (0,0))
 o3:A0.heap[p3]?=some (.cells #[.int .i64 0,.int .i64 0,.int .i64 0] 34 (0,0))
 o4:A0.heap[p4]?=some (.cells #[.bool false] 4 (0,0))
 l3:w0.heap.size≤p3
 l4:w0.heap.size≤p4
 hR:VC A0 rv m.rules
theorem jT.pan (h:jT w0 A0 p1 p2 p5 p3 p4 m d e rv dv ev) {w':Wd} {a f c:Int} (x:Ext A0 w') (ho:O=some (a,f,c)):ZB Pg [Wb p3 p4] (Fe p3 p4) (ZI (xE w0 O)) [Vj a f c] w':=ZaO (h.ea.trans x) h.l3 h.l4 (x.obj h.o3) (x.obj h.o4) ho
theorem Zbn (h:jT w0 A0 p1 p2 p5 p3 p4 m d e rv dv ev) (hC:CkM A0 w cb m d e ru (-1)) (hO:(if Ga m d e=true then none else some (-1,-1,11))=O) :
 qH (.pointer (some ⟨p1,0,none⟩)) (.pointer (some ⟨p2,0,none⟩)) (.pointer (some ⟨p5,0,none⟩)) (.pointer (some ⟨p3,0,none⟩)) (.pointer (some ⟨p4,0,none⟩)) (.pointer (some ⟨cb,0,none⟩)) [Wb p3 p4] (ZI (xE w0 O)) w:=by
 obtain ⟨rv',dv',ev',q,_⟩:=hC.obj
 have t1:=Zc.oneCell h.hR
 unfold qH
 simp (disch:=try exact DI) only [↓PR,QR,simprocAttr,(Za q).1,(Za q).2,(Za (hC.ext.obj h.o1)).1,(Za (hC.ext.obj h.o2)).1]
 have hC2:=hC.setRule (-1)
 generalize (w.setCell ⟨cb,8,none⟩ (.int .i64 (-1)))=X at hC2 ⊢
 refine zcr (jZ X _ m d.start ⟨_,rfl,h.hR.ext hC2.ext⟩) λ w1 e1=>?_
 have hC3:=hC2.go e1
 unfold AZ
 simp (disch:=try exact DI) only [↓PR,QR,simprocAttr]
 refine ZE ?_
 have eD:Ext w1 (drew w1):=(Ext.refl w1).drew
 have hC4:=hC3.go eD
 generalize (drew w1)=D at hC4 ⊢
 have fin:∀ b,b=Ga m d e→ZV Pg 33 #[.pointer (some ⟨cb,0,none⟩),.bool b,.int .i64 11] (ZB Pg [Wb p3 p4] (Fe p3 p4) (ZI (xE w0 O))) D λ _ w=>EC D w∧qF (.pointer (some ⟨p3,0,none⟩)) (.pointer (some ⟨p4,0,none⟩)) [Wb p3 p4] (ZI (xE w0 O)) w:=by
  rintro b rfl
  refine YP (XB hC4 _ 11) (λ w5 e5 hb=>?_) (λ w5 e5 hb=>?_)
  · refine ⟨e5,?_⟩
    rw [if_pos hb] at hO
    have E5:=hC4.ext.trans e5
    have q3:=E5.obj h.o3
    have q4:=E5.obj h.o4
    have YN:p3≠p4:=by rintro rfl;rw [q3] at q4;cases q4
    have lA3:w0.heap.size≤p3:=h.l3
    have lA4:w0.heap.size≤p4:=h.l4
    unfold qF
    simp (disch:=try exact DI) only [↓PR,QR,simprocAttr,(Za q3).1,(Za q3).2,(Za q4).1,(Za q4).2]
    have z3:=Zw (o:=2) (Zw (o:=1) (Zw (o:=0) q3 (.int .i64 0)) (.int .i64 0)) (.int .i64 0)
    have eZ:Ext w0 ((((w5.setCell ⟨p3,0,none⟩ (.int .i64 0)).setCell ⟨p3,1,none⟩ (.int .i64 0)).setCell ⟨p3,2,none⟩ (.int .i64 0)).setCell ⟨p4,0,none⟩ (.bool false)):=((((h.ea.trans E5).setCell lA3 _).setCell lA3 _).setCell lA3 _).setCell lA4 _
    have z4:=Zw (o:=0) ((YG.setCell ((w5.setCell ⟨p3,0,none⟩ (.int .i64 0)).setCell ⟨p3,1,none⟩ (.int .i64 0)) p3 2 (.int .i64 0) p4 (by omega)).trans ((YG.setCell (w5.setCell ⟨p3,0,none⟩ (.int .i64 0)) p3 1 (.int .i64 0) p4 (by omega)).trans ((YG.setCell w5 p3 0 (.int .i64 0) p4 (by omega)).trans q4))) (.bool false)
    have z3':=(YG.setCell _ p4 0 (.bool false) p3 YN).trans z3
    simp only [List.setIfInBounds_toArray,List.set_cons_zero,List.set_cons_succ] at z3' z4
    exact PY eZ z3' z4 hO.symm
  · rw [if_neg (by rw [hb];simp)] at hO
    exact h.pan (hC4.ext.trans e5) hO.symm
 unfold AY
 rcases Fl (λ r:MrD=>decide (r.fr=d.start)) m.rules with ⟨h1,h2,_,_,_⟩ | ⟨i,x,hxi,h1,h2,_,_,_⟩
 · have hp:KF m d.start=none:=h2
   have hs:Ga m d e=false:=by unfold Ga;rw [h1]
   rw [hp,Option.getD_none,show (none:Option Nat).isSome=false from rfl]
   simp (disch:=try exact DI) only [↓PR,QR,simprocAttr]
   unfold qG
   simp (disch:=try exact DI) only [↓PR,QR,simprocAttr]
   exact fin false hs.symm
 · have hp:KF m d.start=some i:=h2
   have hs:Ga m d e=decide (x.to=e.start):=by unfold Ga;rw [h1]
   rw [hp,Option.getD_some,show (some i).isSome=true from rfl]
   obtain ⟨br,or',cr,rfl,_,_,_,hil,helr⟩:=HR h.hR hxi
   obtain ⟨csr,_,hAr,hEr⟩:=helr i x hxi
   obtain ⟨fv,rfl,hFr⟩:=hEr
   simp (disch:=try exact DI) only [↓PR,QR,simprocAttr,(Za (hC4.ext.obj h.o1)).1,(Za (hC4.ext.obj h.o5)).1,hAr.c3 hC4.ext]
   unfold qG
   simp (disch:=try exact DI) only [↓PR,QR,simprocAttr]
   exact fin _ hs.symm
theorem Zbh (h:jT w0 A0 p1 p2 p5 p3 p4 m d e rv dv ev) (hC:CkM A0 w cb m d e ru (-1)) (hin:∀ r∈m.rules,∀ x∈r.fields,inF x=true) (bd:∀ x∈d.msgs,∀ f∈x.fields,(Yy f).length≤1048576) (be:∀ x∈e.msgs,∀ f∈x.fields,(Yy f).length≤1048576)
 (hO:Em m d e (Ku m d e 0 m.rules)=O) :
 yj (.pointer (some ⟨p1,0,none⟩)) (.pointer (some ⟨p2,0,none⟩)) (.pointer (some ⟨p5,0,none⟩)) (.pointer (some ⟨p3,0,none⟩)) (.pointer (some ⟨p4,0,none⟩)) (.pointer (some ⟨cb,0,none⟩)) [Wb p3 p4] (ZI (xE w0 O)) w:=by
 obtain ⟨A,c,rfl,hlc,hcm,hlm,Y1⟩:=Zc.open h.hR
 unfold yj
 simp (disch:=try exact DI) only [↓PR,QR,simprocAttr,(Za (hC.ext.obj h.o1)).1]
 refine ZJ (λ i w'=>∃ (k:Nat) (r:Int),i = .int .i64 k∧k≤m.rules.length∧CkM A0 w' cb m d e r (-1)∧Ku m d e 0 m.rules=Ku m d e k (m.rules.drop k)) (λ i _=>m.rules.length - (intOf i).toNat) ⟨0,_,rfl,by omega,hC,rfl⟩ ?_
 rintro _ w1 ⟨k,r0,rfl,hk,hC1,hR⟩
 unfold A5
 rcases ZT hk with ⟨x,hx,hdr,Yq,ZY⟩ | ⟨hk,hdr,ZY⟩
 · obtain ⟨bt,ot,cst,rfl,_,hAt,hE⟩:=Y1 k x hx
   obtain ⟨fv,rfl,hF,o1⟩:=hE.op
   obtain ⟨rv',dv',ev',q,_⟩:=hC1.obj
   rw [hdr,Ku] at hR
   simp (disch:=try exact DI) only [↓PR,QR,simprocAttr,ZY]
   unfold A1
   have lcb:=(Array.getElem?_eq_some_iff.1 q).1
   have qV:=Za q
   simp (disch:=try exact DI) only [↓PR,QR,simprocAttr,hAt.c3 hC1.ext,qV.1,qV.2]
   have hC2:=(hC1.setRule (k:Int)).go ((Ext.refl _).alloc (.cells #[.string x.fr,.string x.to,fv] 60))
   refine Uf (IY hC2 k rfl _ x ⟨_,rfl,hF⟩ hx (hin x (List.mem_of_getElem? hx)) bd be) (λ v w5 hq=>?_) (λ ch w5 hq=>?_) (λ w5 hq=>?_)
   · rcases hq with ⟨E5,⟨h0,hv,hC5⟩ | ⟨_,hv⟩⟩
     · rw [if_neg (by rw [h0];simp)] at hR
       simp (disch:=try exact DI) only [↓PR,QR,simprocAttr]
       exact ⟨⟨k+1,_,rfl,Yq,hC5,hR⟩,Ya (kd := .i64) Yq⟩
     · cases hv
   · rcases hq with ⟨E5,⟨_,hv,_⟩ | ⟨h0,hv⟩⟩
     · cases hv
     · injection hv with hv
       subst hv
       rw [if_pos h0] at hR
       refine h.pan E5 ?_
       rw [← hO,hR]
       unfold Em
       rw [if_pos h0]
   · rcases hq with ⟨_,⟨_,hv,_⟩ | ⟨_,hv⟩⟩<;>cases hv
 · subst hk
   rw [hdr,Ku] at hR
   simp (disch:=try exact DI) only [↓PR,QR,simprocAttr,ZY]
   refine Zbn h hC1 ?_
   rw [← hO,hR]
   rfl
end
theorem Qj (w0:Wd) (v1 v2 v3:Vl) (m:Yo) (d e:Xv) (hm:YO w0 v1 m) (hd:Xk w0 v2 d) (he:Xk w0 v3 e) (hin:∀ r∈m.rules,∀ x∈r.fields,inF x=true):Ret Pg 14 #[v1,v2,v3] w0 (xE w0 (KK m d e)):=by
 obtain ⟨rv,rfl,hR⟩:=hm
 obtain ⟨dv,rfl,hD⟩:=hd
 obtain ⟨ev,rfl,hE⟩:=he
 have t1:=Zc.oneCell hR
 have t2:=Zc.oneCell hD
 have t3:=Zc.oneCell hE
 refine ZjT (R:=ZI _) ?_;unfold n14
 simp (disch:=try exact DI) only [↓PR,QR,simprocAttr]
 refine ⟨Wb (w0.heap.size+1+1+1) (w0.heap.size+1+1+1+1),_,rfl,?_⟩
 simp only [World.size_alloc]
 generalize hA0:((((w0.alloc (Obj.cells (ZL m rv).toArray 24)).alloc (Obj.cells (Yd d dv).toArray 27)).alloc (Obj.cells (Yd e ev).toArray 27)).alloc (Obj.cells #[.int .i64 0,.int .i64 0,.int .i64 0] 34)).alloc (Obj.cells #[.bool false] 4)=A0
 have ea:Ext w0 A0:=by rw [← hA0];exact ee
 have o1:A0.heap[w0.heap.size]?=some (.cells (ZL m rv).toArray 24 (0,0)):=by rw [← hA0];simp (disch:=try exact DI) only [↓PR,QR,simprocAttr]
 have o2:A0.heap[w0.heap.size+1]?=some (.cells (Yd d dv).toArray 27 (0,0)):=by rw [← hA0];simp (disch:=try exact DI) only [↓PR,QR,simprocAttr]
 have o5:A0.heap[w0.heap.size+1+1]?=some (.cells (Yd e ev).toArray 27 (0,0)):=by rw [← hA0];simp (disch:=try exact DI) only [↓PR,QR,simprocAttr]
 have o3:A0.heap[w0.heap.size+1+1+1]?=some (.cells #[.int .i64 0,.int .i64 0,.int .i64 0] 34 (0,0)):=by rw [← hA0];simp (disch:=try exact DI) only [↓PR,QR,simprocAttr]
 have o4:A0.heap[w0.heap.size+1+1+1+1]?=some (.cells #[.bool false] 4 (0,0)):=by rw [← hA0];simp (disch:=try exact DI) only [↓PR,QR,simprocAttr]
 have Jj:A0.heap.size=w0.heap.size+1+1+1+1+1:=by rw [← hA0];simp only [World.size_alloc]
 clear hA0
 have hC:CkM A0 (A0.alloc (Obj.cells #[.string m.name,rv,.string d.name,dv,.string d.start,.string e.name,ev,.string e.start,.int .i64 (-1),.int .i64 (-1)] 81)) A0.heap.size m d e (-1) (-1):=⟨(Ext.refl _).alloc _,Nat.le_refl _,rv,dv,ev,Zv _ _ _,hR.ext ea,hD.ext ea,hE.ext ea⟩
 generalize (A0.alloc (Obj.cells #[.string m.name,rv,.string d.name,dv,.string d.start,.string e.name,ev,.string e.start,.int .i64 (-1),.int .i64 (-1)] 81))=W at hC ⊢
 generalize hcb:w0.heap.size+1+1+1+1+1=cb at Jj ⊢
 rw [Jj] at hC
 generalize hp4:w0.heap.size+1+1+1+1=p4 at o4 hcb ⊢
 generalize hp3:w0.heap.size+1+1+1=p3 at o3 hp4 ⊢
 generalize hp5:w0.heap.size+1+1=p5 at o5 hp3 ⊢
 generalize hp2:w0.heap.size+1=p2 at o2 hp5 ⊢
 generalize hp1:w0.heap.size=p1 at o1 hp2 ⊢
 simp (disch:=try exact DI) only [↓PR,QR,simprocAttr,(Za (hC.ext.obj o2)).1]
 have l3:w0.heap.size≤p3:=by omega
 have l4:w0.heap.size≤p4:=by omega
 generalize hO:KK m d e=O
 have hEnv:jT w0 A0 p1 p2 p5 p3 p4 m d e rv dv ev:=⟨ea,o1,o2,o5,o3,o4,l3,l4,hR.ext ea⟩
 have pan:∀ w' a f c,Ext A0 w'→O=some (a,f,c)→ZB Pg [Wb p3 p4] (Fe p3 p4) (ZI (xE w0 O)) [Vj a f c] w':=λ w' a f c x h=>hEnv.pan x h
 unfold KK at hO
 refine zcr (xi _ d ⟨_,rfl,hD.ext (ea.trans hC.ext)⟩) λ w1 e1=>?_
 have hC1:=hC.go e1
 have rest:∀ (w2:Wd) (bb:Bool),CkM A0 w2 cb m d e (-1) (-1)→bb=(!Xn d&&!Xn e)→ZV Pg 33 #[.pointer (some ⟨cb,0,none⟩),.bool bb,.int .i64 0] (ZB Pg [Wb p3 p4] (Fe p3 p4) (ZI (xE w0 O))) w2 λ _ w3=>JC (.pointer (some ⟨p1,0,none⟩)) (.pointer (some ⟨p2,0,none⟩)) (.pointer (some ⟨p5,0,none⟩)) (.pointer (some ⟨p3,0,none⟩)) (.pointer (some ⟨p4,0,none⟩)) (.pointer (some ⟨cb,0,none⟩)) [Wb p3 p4] (ZI (xE w0 O)) w3:=by
  rintro w2 bb hC2 hbb
  refine YP (XB hC2 _ 0) (λ w3 e3 hb=>?_) (λ w3 e3 hb=>?_)
  case refine_2=>
   rw [← hbb,if_pos hb] at hO
   exact pan _ _ _ _ (hC2.ext.trans e3) hO.symm
  have hvv:(!Xn d&&!Xn e)=true:=hbb.symm.trans hb
  rw [hvv,if_neg (by simp)] at hO
  have hvd:(!Xn d)=true:=by cases h:(!Xn d)<;>simp_all
  have hve:(!Xn e)=true:=by cases h:(!Xn e)<;>simp_all
  have hC3:=hC2.go e3
  have x3:=Za (hC3.ext.obj o1)
  unfold JC
  simp (disch:=try exact DI) only [↓PR,QR,simprocAttr,x3.1]
  refine zcr (UG _ m.name) λ w4 e4=>?_
  have hC4:=hC3.go e4
  refine YP (XB hC4 _ 1) (λ w5 e5 hb=>?_) (λ w5 e5 hb=>?_)
  case refine_2=>
   rw [if_pos hb] at hO
   exact pan _ _ _ _ (hC4.ext.trans e5) hO.symm
  rw [hb,if_neg (by simp)] at hO
  have hC5:=hC4.go e5
  have x5:=Za (hC5.ext.obj o1)
  obtain ⟨A,c,hrv,hlc,hcm,hlm,Y1⟩:=Zc.open hR
  rw [hrv] at x5
  have last:∀ b,b=decide (1≤m.rules.length∧m.rules.length≤60)→ZV Pg 33 #[.pointer (some ⟨cb,0,none⟩),.bool b,.int .i64 2] (ZB Pg [Wb p3 p4] (Fe p3 p4) (ZI (xE w0 O))) w5 λ _ w=>yj (.pointer (some ⟨p1,0,none⟩)) (.pointer (some ⟨p2,0,none⟩)) (.pointer (some ⟨p5,0,none⟩)) (.pointer (some ⟨p3,0,none⟩)) (.pointer (some ⟨p4,0,none⟩)) (.pointer (some ⟨cb,0,none⟩)) [Wb p3 p4] (ZI (xE w0 O)) w:=by
   rintro b rfl
   refine YP (XB hC5 _ 2) (λ w6 e6 hb=>?_) (λ w6 e6 hb=>?_)
   · rw [if_neg (by simpa using hb)] at hO
     exact Zbh hEnv (hC5.go e6) hin (Ca hvd) (Ca hve) hO
   · rw [if_pos (by simpa using hb)] at hO
     exact pan _ _ _ _ (hC5.ext.trans e6) hO.symm
  unfold ze
  by_cases h1:1≤m.rules.length
  · have d1:decide ((m.rules.length:Int)≥1)=true:=by simp;omega
    by_cases h2:m.rules.length≤60
    · have d2:decide ((m.rules.length:Int)≤60)=true:=by simp;omega
      simp (disch:=try exact DI) only [↓PR,QR,simprocAttr,x5.1,d1,d2,↓qF,↓qG,↓AY,↓AZ,↓qH,↓A1,↓A5,↓yj,↓Dg,↓ze,↓JC,↓xT,↓JD]
      exact last _ (by simp [h1,h2])
    · have d2:decide ((m.rules.length:Int)≤60)=false:=by simp;omega
      simp (disch:=try exact DI) only [↓PR,QR,simprocAttr,x5.1,d1,d2,↓qF,↓qG,↓AY,↓AZ,↓qH,↓A1,↓A5,↓yj,↓Dg,↓ze,↓JC,↓xT,↓JD]
      exact last _ (by simp [h2])
  · have d1:decide ((m.rules.length:Int)≥1)=false:=by simp;omega
    simp (disch:=try exact DI) only [↓PR,QR,simprocAttr,x5.1,d1,↓qF,↓qG,↓AY,↓AZ,↓qH,↓A1,↓A5,↓yj,↓Dg,↓ze,↓JC,↓xT,↓JD]
    exact last _ (by simp [h1])
 obtain ⟨vb,hv⟩:∃ vb,(!Xn d)=vb:=⟨_,rfl⟩
 rw [hv] at rest ⊢
 cases vb with
 | false=>
  rw [Bool.false_and] at rest
  unfold JD
  rw [joinK_eq]
  simp (disch:=try exact DI) only [↓PR,QR,simprocAttr,↓qF,↓qG,↓AY,↓AZ,↓qH,↓A1,↓A5,↓yj,↓Dg,↓ze,↓JC,↓xT,↓JD]
  exact rest w1 _ hC1 rfl
 | true=>
  rw [Bool.true_and] at rest
  unfold JD
  simp (disch:=try exact DI) only [↓PR,QR,simprocAttr,↓qF,↓qG,↓AY,↓AZ,↓qH,↓A1,↓A5,↓yj,↓Dg,↓ze,↓JC,↓xT,↓JD,(Za (hC1.ext.obj o5)).1]
  refine zcr (xi _ e ⟨_,rfl,hE.ext (ea.trans hC1.ext)⟩) λ w2 e2=>?_
  exact rest w2 _ (hC1.go e2) rfl
def Zb6 (a:Vl) (R:RT) (w:Wd):Prop:=
 E0q a 0 R w λ b w=>
 E0q a 1 R w λ c w=>
 opV Pg (alloc 34 true (.tuple #[])) (Zd R) w λ d w=>
 S0 34 d b R w λ w=>
 N0 c R w λ e w=>
 R (.returned e) w
def n29 (a b c:Vl) (R:RT) (w:Wd):Prop:=
 opV Pg (box 24 a) (Zd R) w λ d w=>
 opV Pg (box 27 b) (Zd R) w λ e w=>
 opV Pg (box 27 c) (Zd R) w λ f w=>
 L0 24 d R w λ g w=>
 L0 27 e R w λ h w=>
 L0 27 f R w λ i w=>
 C0 14 #[g,h,i] R w λ j w=>
 Zb6 j R w
theorem Zj4 {t0 t1 t2:Vl} {R:RT} {w:Wd} (h:n29 t0 t1 t2 R w):Calls Pg 16 #[t0,t1,t2] w R:=by
 refine yD func16 ?_
 refine zs<|zr<|yv h λ _ w h=>yv h λ _ w h=>yv h λ _ w h=>zm<|zn<|zk<|zs<|zr<|yv h λ _ w h=>yv h λ _ w h=>yv h λ _ w h=>yc h c14 λ _ w h=>zm ?_
 refine yv h λ _ w h=>yv h λ _ w h=>yv h λ _ w h=>yu h λ w h=>zm<|zn<|zk<|zs<|zr<|zm<|yv h λ _ w h=>zm<|zn<|zk<|Zg ?_
 exact Zi rfl rfl h
theorem AJ (w0:Wd) (v1 v2 v3:Vl) (m:Yo) (d e:Xv) (hm:YO w0 v1 m) (hd:Xk w0 v2 d) (he:Xk w0 v3 e) (hin:∀ r∈m.rules,∀ x∈r.fields,inF x=true):Ret Pg 16 #[v1,v2,v3] w0 λ r w'=>r = .bool (KK m d e).isNone∧Ext w0 w':=by
 obtain ⟨rv,rfl,hR⟩:=hm
 obtain ⟨dv,rfl,hD⟩:=hd
 obtain ⟨ev,rfl,hE⟩:=he
 have t1:=Zc.oneCell hR
 have t2:=Zc.oneCell hD
 have t3:=Zc.oneCell hE
 refine Zj4 (R:=ZI _) ?_;unfold n29
 simp (disch:=try exact DI) only [↓PR,QR,simprocAttr]
 generalize hA0:(((w0.alloc (Obj.cells (ZL m rv).toArray 24)).alloc (Obj.cells (Yd d dv).toArray 27)).alloc (Obj.cells (Yd e ev).toArray 27))=A0
 have ea:Ext w0 A0:=by rw [← hA0];exact ee
 clear hA0
 refine zcr (Qj A0 _ _ _ m d e ⟨_,rfl,hR.ext ea⟩ ⟨_,rfl,hD.ext ea⟩ ⟨_,rfl,hE.ext ea⟩ hin) λ w1 e1=>?_
 unfold Zb6 EB
 simp (disch:=try exact DI) only [↓PR,QR,simprocAttr]
 exact ⟨by cases KK m d e<;>rfl,(ea.trans e1).alloc _⟩
def yH (r:FrD) (n:Int):Option Int:=if r.kind=1 then some n else if r.kind=2 then (if j5 r.add=true then some (n+r.add) else none) else if r.kind=3 then some r.value else if r.kind=5 then (r.table.find? λ x=>decide (x.low≤n)&&decide (n≤x.high)).map (·.to) else none
def Ng:Option Int→Option Int
 | some v=>if Wy v=true then some v else none
 | none=>none
def Cu (r:FrD) (n:Int):Option Int:=if Wy n=false then none else Ng (yH r n)
def Lv (o:Option Int):Vl := .tuple #[.int .i64 (o.getD 0),.bool o.isSome]
theorem DV (w:Wd) (x:Qx) (q:Nat) (n:Int) (hq:w.heap[q]?=some (.cells #[.int .i64 n] 3 (0,0))):Ret Pg 44 #[.agg (Z9 x).toArray,.pointer (some ⟨q,0,none⟩)] w λ r w'=>r = .bool (decide (x.low≤n)&&decide (n≤x.high))∧Ext w w':=by
 have lq:=(Array.getElem?_eq_some_iff.1 hq).1
 have hc:=(Za hq).1
 refine ZjZ (R:=ZI _) ?_;unfold n22
 by_cases h1:x.low≤n
 · have d1:decide (n≥x.low)=true:=by simpa using h1
   by_cases h2:n≤x.high
   · have d2:decide (n≤x.high)=true:=by simpa using h2
     simp (disch:=try exact DI) only [↓PR,QR,simprocAttr,hc,d1,d2]
     exact ⟨by simp [h1],ee⟩
   · have d2:decide (n≤x.high)=false:=by simpa using h2
     simp (disch:=try exact DI) only [↓PR,QR,simprocAttr,hc,d1,d2]
     exact ⟨by simp,ee⟩
 · have d1:decide (n≥x.low)=false:=by simpa using h1
   simp (disch:=try exact DI) only [↓PR,QR,simprocAttr,hc,d1]
   exact ⟨by simp [h1],ee⟩
theorem N8 {n:Int} (h:Wy n=true):0≤n∧n < 34359738368:=by
 unfold Wy at h
 simpa only [Bool.and_eq_true,decide_eq_true_eq] using h
theorem Jn (w0:Wd) (v:Vl) (r:FrD) (n:Int) (hr:Wf w0 v r) (hin:inF r=true):Ret Pg 18 #[v,.int .i64 n] w0 λ u w'=>u=Lv (Cu r n)∧Ext w0 w':=by
 obtain ⟨bv,tv,rfl,hB,hT,b1,b2⟩:=hr.op
 refine ZjY (R:=ZI _) ?_;unfold n21
 rw [YB]
 have q2:=Zv w0 (Zz r bv tv).toArray 43
 have e2:Ext w0 (w0.alloc (.cells (Zz r bv tv).toArray 43)):=(Ext.refl w0).alloc _
 have s2:(w0.alloc (.cells (Zz r bv tv).toArray 43)).heap.size=w0.heap.size+1:=World.size_alloc ..
 generalize (w0.alloc (.cells (Zz r bv tv).toArray 43))=w2 at q2 e2 s2 ⊢
 generalize hp2:w0.heap.size=p2 at q2 ⊢
 simp (disch:=try exact DI) only [↓PR,QR,simprocAttr]
 have q3:=Zv w2 #[.int .i64 n] 3
 have e3:Ext w2 (w2.alloc (.cells #[.int .i64 n] 3)):=(Ext.refl w2).alloc _
 generalize (w2.alloc (.cells #[.int .i64 n] 3))=w3 at q3 e3 ⊢
 have l3:w0.heap.size≤w2.heap.size:=e2.size
 have n23:p2≠w2.heap.size:=by omega
 generalize w2.heap.size=p3 at q3 l3 n23 ⊢
 replace q2:=e3.obj q2
 have E3:=e2.trans e3
 refine Zk (QE w3 n) ?_
 rintro _ w' ⟨rfl,hw⟩
 rw [hw]
 clear hw
 have c2:=(Za q2).1
 have c3:=Za q3
 cases hn:Wy n with
 | false=>
  simp (disch:=try exact DI) only [↓PR,QR,simprocAttr]
  exact ⟨by unfold Cu;rw [hn];rfl,E3⟩
 | true=>
 have hM:Cu r n=Ng (yH r n):=by unfold Cu;rw [hn];rfl
 have rng:=N8 hn
 have none_:yH r n=none→∀ w',Ext w0 w'→(Value.tuple #[.int .i64 0,.bool false]=Lv (Cu r n)∧Ext w0 w'):=λ h w' e=>⟨by rw [hM,h];rfl,e⟩
 have tail:∀ (w1:Wd) (u:Int),Ext w0 w1→w1.heap[p3]?=some (.cells #[.int .i64 u] 3 (0,0))→yH r n=some u→ZV Pg 42 #[.int .i64 u] (Zd (ZI λ u w'=>u=Lv (Cu r n)∧Ext w0 w')) w1 λ t47 w=>Rl (.pointer (some ⟨p3,0,none⟩)) t47 (ZI λ u w'=>u=Lv (Cu r n)∧Ext w0 w') w:=by
  intro w1 u e1 hq hu
  refine Zk (QE w1 u) ?_
  rintro _ w' ⟨rfl,hw⟩
  rw [hw]
  unfold Rl
  cases hv:Wy u with
  | true=>
   simp (disch:=try exact DI) only [↓PR,QR,simprocAttr,(Za hq).1]
   exact ⟨by rw [hM,hu];simp only [Ng,hv];rfl,e1⟩
  | false=>
   simp (disch:=try exact DI) only [↓PR,QR,simprocAttr]
   exact ⟨by rw [hM,hu];simp only [Ng,hv];rfl,e1⟩
 have put:∀ (w1:Wd) (a:Vl),Ext w0 w1→w1.heap[p3]?=some (.cells #[.int .i64 n] 3 (0,0))→Ext w0 (w1.setCell ⟨p3,0,none⟩ a)∧(w1.setCell ⟨p3,0,none⟩ a).heap[p3]?=some (.cells #[a] 3 (0,0)):=λ w1 a e1 hq=>⟨e1.setCell l3 _,Zw (o:=0) hq a⟩
 unfold ZbW
 by_cases k1:r.kind=1
 · have hv:yH r n=some n:=by unfold yH;rw [if_pos k1]
   simp (disch:=try exact DI) only [↓PR,QR,simprocAttr,c2,c3.1,k1]
   exact tail w3 n E3 q3 hv
 by_cases k2:r.kind=2
 · simp (disch:=try exact DI) only [↓PR,QR,simprocAttr,c2,c3.1,k2,ZbV]
   refine Zk (QE w3 _) ?_
   rintro _ w' ⟨rfl,hw⟩
   rw [hw,OZ hin]
   clear hw
   cases ha:j5 r.add with
   | false=>
    simp (disch:=try exact DI) only [↓PR,QR,simprocAttr]
    exact none_ (by unfold yH;rw [if_neg k1,if_pos k2,ha];rfl) _ E3
   | true=>
    have hv:yH r n=some (n+r.add):=by unfold yH;rw [if_neg k1,if_pos k2,ha];rfl
    have hb : -34359738368 < r.add∧r.add < 34359738368:=by unfold j5 at ha;simpa only [Bool.and_eq_true,decide_eq_true_eq] using ha
    have hw:IntKind.i64.wrap (n+r.add)=n+r.add:=XC (by omega) (by omega)
    obtain ⟨g1,g2⟩:=put w3 (.int .i64 (n+r.add)) E3 q3
    simp (disch:=try exact DI) only [↓PR,QR,simprocAttr,ZbR,c2,c3.1,c3.2,hw]
    exact tail _ _ g1 g2 hv
 have e1:(r.kind == 1)=false:=by simpa using k1
 have e2':(r.kind == 2)=false:=by simpa using k2
 by_cases k3:r.kind=3
 · have hv:yH r n=some r.value:=by unfold yH;rw [if_neg k1,if_neg k2,if_pos k3]
   obtain ⟨g1,g2⟩:=put w3 (.int .i64 r.value) E3 q3
   simp (disch:=try exact DI) only [↓PR,QR,simprocAttr,c2,c3.1,c3.2,k3,MM,ZbU]
   exact tail _ _ g1 g2 hv
 have e3':(r.kind == 3)=false:=by simpa using k3
 by_cases k5:r.kind=5
 · have hv:yH r n=(r.table.find? λ x=>decide (x.low≤n)&&decide (n≤x.high)).map (·.to):=by unfold yH;rw [if_neg k1,if_neg k2,if_neg k3,if_pos k5]
   simp (disch:=try exact DI) only [↓PR,QR,simprocAttr,c2,c3.1,k5,MM,ZbT]
   refine zcr (zI w3 _ r.table _ _ (λ x=>decide (x.low≤n)&&decide (n≤x.high)) (hT.ext E3) c44 λ w' v y _ e' hv=>by subst hv;exact DV w' y _ n (e'.obj q3)) λ w4 e4=>?_
   have E4:=E3.trans e4
   rcases Fl (λ x:Qx=>decide (x.low≤n)&&decide (n≤x.high)) r.table with ⟨h1,_,_,_,h5⟩ | ⟨i,x,hxi,h1,_,_,_,h5⟩
   · rw [h5]
     simp (disch:=try exact DI) only [↓PR,QR,simprocAttr]
     exact none_ (by rw [hv,h1];rfl) _ E4
   · rw [h5]
     have d0:decide ((i:Int) < 0)=false:=by simp
     obtain ⟨bt,ot,ct,rfl,_,_,_,hil,helr⟩:=HR hT hxi
     obtain ⟨cs,_,hA,rfl⟩:=helr i x hxi
     obtain ⟨g1,g2⟩:=put w4 (.int .i64 x.to) E4 (e4.obj q3)
     simp (disch:=try exact DI) only [↓PR,QR,simprocAttr,d0,ZbS,(Za (e4.obj q2)).1,(Za (e4.obj q3)).1,(Za (e4.obj q3)).2,hA.c3 E4]
     exact tail _ _ g1 g2 (by rw [hv,h1];rfl)
 · have e5:(r.kind == 5)=false:=by simpa using k5
   simp (disch:=try exact DI) only [↓PR,QR,simprocAttr,c2,c3.1,e1,e2',e3',e5,MM]
   exact none_ (by unfold yH;rw [if_neg k1,if_neg k2,if_neg k3,if_neg k5]) _ E3
def Zho (b a:Vl) (R:RT) (w:Wd):Prop:=
 G0 9 3 a R w λ c w=>
 C0 85 #[b,a,c,(.int .i64 (-1))] R w λ d w=>
 R (.returned d) w
theorem Zhp {t0 t1:Vl} {R:RT} {w:Wd} (h:Zho t0 t1 R w):Calls Pg 48 #[t0,t1] w R:=by
 refine yD func48 ?_
 refine zs<|zr<|zm<|zn<|zk<|zs<|zr<|zm<|zm<|zm<|yx h λ _ w h=>yc h c85 λ _ w h=>zm<|zn<|zk ?_
 exact Zg<|Zi rfl rfl h
def Zhj (a b:Vl) (R:RT) (w:Wd):Prop:=
 C0 160 #[a,b] R w λ c w=>
 R (.returned c) w
theorem Zhk {t0 t1:Vl} {R:RT} {w:Wd} (h:Zhj t0 t1 R w):Calls Pg 133 #[t0,t1] w R:=by
 refine yD func133 ?_
 exact zs<|zr<|zm<|zn<|zk<|zs<|zr<|zm<|zm<|yc h ZiV λ _ w h=>zm<|zn<|zk<|Zg<|Zi rfl rfl h
def I5 (d e f a:Vl) (R:RT) (w:Wd):Prop:=
 E0q a 0 R w λ b w=>
 E0q a 1 R w λ c w=>
 opV Pg (ZF .neq 162 true c .nilIface) (Zd R) w λ g w=>
 Zs g (
 ZV Pg 153 #[(.string { data := #[80,97,114,115,101,85,105,110,116] }),d,e,f,c] (Zd R) w λ h w=>
 R (.returned (.tuple #[b,h])) w) (
 R (.returned (.tuple #[b,.nilIface])) w)
def Zhm (a b c:Vl) (R:RT) (w:Wd):Prop:=
 C0 155 #[a,b,c] R w λ d w=>
 I5 a b c d R w
theorem Zhn {t0 t1 t2:Vl} {R:RT} {w:Wd} (h:Zhm t0 t1 t2 R w):Calls Pg 127 #[t0,t1,t2] w R:=by
 refine yD func127 ?_
 refine zs<|zr<|zm<|zm<|zn<|zk<|zs<|zr<|zm<|zm<|zm<|yc h ZiU λ _ w h=>zm<|yv h λ _ w h=>yv h λ _ w h=>?_
 refine zm<|zm<|zn<|zk<|zs<|zs<|zr<|zm<|yb h λ _ w h=>zn<|zk<|yC h (λ h=>zs<|zr<|zm<|zm<|zm<|zm<|zm<|yc h ZiS λ _ w h=>zm<|zm<|zn<|zk<|Zg<|Zb<|Yk rfl rfl rfl h) λ h=>Zj<|zk ?_
 exact zs<|zr<|zm<|zm<|zm<|zn<|zk<|Zg<|Yk rfl rfl rfl h
def Zhu (g h i c j:Vl) (k:KW) (R:RT) (w:Wd):Prop:=
 opV Pg (Go.convert 3 191 j) (Zd R) w λ l w=>
 B0 .mul 191 false h l R w λ d w=>
 opV Pg (Go.convert 5 191 i) (Zd R) w λ m w=>
 B0 .add 191 false d m R w λ a w=>
 B0 .lss 191 false a d R w λ e w=>
 Zo (λ (b:Vl) (w:Wd)=>
 Zy e (.bool true) b λ n=>
 Zs n (
 opV Pg (makeInterface 239 (.int .i64 1)) (Zd R) w λ o w=>
 R (.returned (.tuple #[c,o])) w) (
 k g a w)) λ f=>
 Zn e false (
 B0 .gtr 191 false a c R w λ b w=>
 f b w) (
 f undef w)
def Zhy (c d a e b f:Vl) (g:KW) (R:RT) (w:Wd):Prop:=
 B0 .geq 191 false a c R w λ h w=>
 Zs h (
 opV Pg (makeInterface 239 (.int .i64 1)) (Zd R) w λ i w=>
 R (.returned (.tuple #[b,i])) w) (
 Zhu d a e b f g R w)
def Ls (c d e a f b:Vl) (g:KW) (R:RT) (w:Wd):Prop:=
 opV Pg (Go.convert 3 5 b) (Zd R) w λ h w=>
 B0 .geq 5 false a h R w λ i w=>
 Zs i (
 opV Pg (makeInterface 239 (.int .i64 2)) (Zd R) w λ j w=>
 R (.returned (.tuple #[(.int .u64 0),j])) w) (
 Zhy c d e a f b g R w)
def ZhF (a:Vl) (b:KV) (R:RT) (w:Wd):Prop:=
 C0 188 #[a] R w λ c w=>
 opV Pg (ZF .sub 5 true c (.int .u8 97)) (Zd R) w λ d w=>
 opV Pg (ZF .add 5 true d (.int .u8 10)) (Zd R) w λ e w=>
 b e w
def ZaS (a b c:Vl) (d:KV) (R:RT) (w:Wd):Prop:=
 Zy b c (.bool false) λ e=>
 Zs e (
 ZhF a d R w) (
 opV Pg (makeInterface 239 (.int .i64 2)) (Zd R) w λ f w=>
 R (.returned (.tuple #[(.int .u64 0),f])) w)
def Zei (b e:Vl) (f:KV) (R:RT) (w:Wd):Prop:=
 opV Pg (ZF .leq 5 true (.int .u8 97) e) (Zd R) w λ c w=>
 Zo (λ (a:Vl) (w:Wd)=>
 ZaS b c a f R w) λ d=>
 Zn c true (
 C0 188 #[b] R w λ g w=>
 opV Pg (ZF .leq 5 true g (.int .u8 122)) (Zd R) w λ a w=>
 d a w) (
 d undef w)
def ZaT (c d e f a g h i:Vl) (j:KW) (R:RT) (w:Wd):Prop:=
 Zy g h (.bool false) λ k=>
 Zo (λ (l:Vl) (w:Wd)=>
 Ls c d e l f i j R w) λ b=>
 Zs k (
 opV Pg (ZF .sub 5 true a (.int .u8 48)) (Zd R) w λ m w=>
 b m w) (
 C0 188 #[a] R w λ n w=>
 Zei a n b R w)
def Zej (e f g h a i:Vl) (j:KW) (R:RT) (w:Wd):Prop:=
 opV Pg (ZF .leq 5 true (.int .u8 48) a) (Zd R) w λ c w=>
 Zo (λ (b:Vl) (w:Wd)=>
 ZaT e f g h a c b i j R w) λ d=>
 Zn c true (
 opV Pg (ZF .leq 5 true a (.int .u8 57)) (Zd R) w λ b w=>
 d b w) (
 d undef w)
def ZhG (a b c:Vl) (R:RT) (w:Wd):Prop:=
 Zy a c (.bool false) λ d=>
 Zs d (
 opV Pg (makeInterface 239 (.int .i64 2)) (Zd R) w λ e w=>
 R (.returned (.tuple #[(.int .u64 0),e])) w) (
 R (.returned (.tuple #[b,.nilIface])) w)
def Zdm (d b e:Vl) (R:RT) (w:Wd):Prop:=
 Zo (λ (a:Vl) (w:Wd)=>
 ZhG b e a R w) λ c=>
 Zn b true (
 C0 189 #[d] R w λ f w=>
 N0 f R w λ a w=>
 c a w) (
 c undef w)
def Zdn (h b a i j k c l:Vl) (QJ:Vl→Vl→Vl→Wd→Prop) (R:RT) (w:Wd):Prop:=
 Zo (λ (b:Vl) (a:Vl) (w:Wd)=>
 B0 .add 3 true c (.int .i64 1) R w λ m w=>
 QJ b a m w) λ d=>
 X0 40 k c R w λ n w=>
 L0 5 n R w λ e w=>
 opV Pg (ZF .eql 5 true e (.int .u8 95)) (Zd R) w λ f w=>
 Zo (λ (o:Vl) (w:Wd)=>
 Zy f o (.bool false) λ p=>
 Zs p (
 d (.bool true) a w) (
 Zej h b a j e l d R w)) λ g=>
 Zn f true (
 g i w) (
 g undef w)
def SH (d e a b f g h i c j:Vl) (QJ:Vl→Vl→Vl→Wd→Prop) (R:RT) (w:Wd):Prop:=
 B0 .lss 3 false c i R w λ k w=>
 Zs k (
 Zdn e a b f g h c j QJ R w) (
 Zdm d a b R w)
def Zdo (b c d e f g:Vl) (R:RT) (w:Wd):Prop:=
 opV Pg (Go.convert 3 197 g) (Zd R) w λ h w=>
 opV Pg (ZF .shl 191 true (.int .u64 1) h) (Zd R) w λ i w=>
 opV Pg (ZF .sub 191 true i (.int .u64 1)) (Zd R) w λ j w=>
 opV Pg (Go.convert 9 40 e) (Zd R) w λ a w=>
 G0 40 3 a R w λ k w=>
 GD (λ l m n w QJ=>
 SH b c l m d j a k n f QJ R w) (.bool false) (.int .u64 0) (.int .i64 0) w
def Zhv (a:Vl) (b:KV) (R:RT) (w:Wd):Prop:=
 opV Pg (Go.convert 3 191 a) (Zd R) w λ c w=>
 opV Pg (ZF .quo 191 true (.int .u64 18446744073709551615) c) (Zd R) w λ d w=>
 opV Pg (ZF .add 191 true d (.int .u64 1)) (Zd R) w λ e w=>
 b e w
def Zdp (c d e a f:Vl) (R:RT) (w:Wd):Prop:=
 B0 .eql 3 true a (.int .i64 10) R w λ g w=>
 Zo (λ (h:Vl) (w:Wd)=>
 Zdo c h d e a f R w) λ b=>
 Zs g (
 b (.int .u64 1844674407370955162) w) (
 B0 .eql 3 true a (.int .i64 16) R w λ i w=>
 Zs i (
 b (.int .u64 1152921504606846976) w) (
 Zhv a b R w))
def Zdq (a:Vl) (e:KV) (R:RT) (w:Wd):Prop:=
 B0 .lss 3 true a (.int .i64 0) R w λ c w=>
 Zo (λ (b:Vl) (w:Wd)=>
 Zy c (.bool true) b λ f=>
 Zs f (
 opV Pg (makeInterface 239 (.int .i64 4)) (Zd R) w λ g w=>
 R (.returned (.tuple #[(.int .u64 0),g])) w) (
 e a w)) λ d=>
 Zn c false (
 B0 .gtr 3 true a (.int .i64 64) R w λ b w=>
 d b w) (
 d undef w)
def Zdr (c a d e f:Vl) (R:RT) (w:Wd):Prop:=
 B0 .eql 3 true a (.int .i64 0) R w λ g w=>
 Zo (λ (h:Vl) (w:Wd)=>
 Zdp c d e f h R w) λ b=>
 Zs g (
 b (.int .i64 64) w) (
 Zdq a b R w)
def Zhw (a c d:Vl) (b:KW) (R:RT) (w:Wd):Prop:=
 Zy c d (.bool false) λ e=>
 Zs e (
 opV Pg (sliceAt 9 a (some (.int .i64 2)) none none) (Zd R) w λ f w=>
 b f (.int .i64 16) w) (
 opV Pg (sliceAt 9 a (some (.int .i64 1)) none none) (Zd R) w λ g w=>
 b g (.int .i64 8) w)
def Zhx (a:Vl) (e:KW) (R:RT) (w:Wd):Prop:=
 G0 9 3 a R w λ f w=>
 B0 .geq 3 true f (.int .i64 3) R w λ c w=>
 Zo (λ (b:Vl) (w:Wd)=>
 Zhw a c b e R w) λ d=>
 Zn c true (
 opV Pg (Instr.index 9 a (.int .i64 1)) (Zd R) w λ g w=>
 C0 188 #[g] R w λ h w=>
 opV Pg (ZF .eql 5 true h (.int .u8 120)) (Zd R) w λ b w=>
 d b w) (
 d undef w)
def Zhz (a c d:Vl) (b:KW) (R:RT) (w:Wd):Prop:=
 Zy c d (.bool false) λ e=>
 Zs e (
 opV Pg (sliceAt 9 a (some (.int .i64 2)) none none) (Zd R) w λ f w=>
 b f (.int .i64 8) w) (
 Zhx a b R w)
def ZhA (a:Vl) (e:KW) (R:RT) (w:Wd):Prop:=
 G0 9 3 a R w λ f w=>
 B0 .geq 3 true f (.int .i64 3) R w λ c w=>
 Zo (λ (b:Vl) (w:Wd)=>
 Zhz a c b e R w) λ d=>
 Zn c true (
 opV Pg (Instr.index 9 a (.int .i64 1)) (Zd R) w λ g w=>
 C0 188 #[g] R w λ h w=>
 opV Pg (ZF .eql 5 true h (.int .u8 111)) (Zd R) w λ b w=>
 d b w) (
 d undef w)
def ZhB (a c d:Vl) (e:KW) (R:RT) (w:Wd):Prop:=
 Zy c d (.bool false) λ f=>
 Zo (λ (g:Vl) (h:Vl) (w:Wd)=>
 e g h w) λ b=>
 Zs f (
 opV Pg (sliceAt 9 a (some (.int .i64 2)) none none) (Zd R) w λ i w=>
 b i (.int .i64 2) w) (
 ZhA a b R w)
def ZhC (a:Vl) (e:KW) (R:RT) (w:Wd):Prop:=
 G0 9 3 a R w λ f w=>
 B0 .geq 3 true f (.int .i64 3) R w λ c w=>
 Zo (λ (b:Vl) (w:Wd)=>
 ZhB a c b e R w) λ d=>
 Zn c true (
 opV Pg (Instr.index 9 a (.int .i64 1)) (Zd R) w λ g w=>
 C0 188 #[g] R w λ h w=>
 opV Pg (ZF .eql 5 true h (.int .u8 98)) (Zd R) w λ b w=>
 d b w) (
 d undef w)
def ZhD (a:Vl) (b:KW) (R:RT) (w:Wd):Prop:=
 opV Pg (Instr.index 9 a (.int .i64 0)) (Zd R) w λ c w=>
 opV Pg (ZF .eql 5 true c (.int .u8 48)) (Zd R) w λ d w=>
 Zs d (
 ZhC a b R w) (
 b a (.int .i64 10) w)
def ZhE (a b:Vl) (c:KW) (R:RT) (w:Wd):Prop:=
 B0 .eql 3 true b (.int .i64 0) R w λ d w=>
 Zs d (
 ZhD a c R w) (
 opV Pg (makeInterface 239 (.int .i64 3)) (Zd R) w λ e w=>
 R (.returned (.tuple #[(.int .u64 0),e])) w)
def Zds (a b d e f g:Vl) (R:RT) (w:Wd):Prop:=
 Zy f g (.bool false) λ h=>
 Zo (λ (i:Vl) (j:Vl) (w:Wd)=>
 Zdr a d e i j R w) λ c=>
 Zs h (
 c a b w) (
 ZhE a b c R w)
def Zdt (e a f:Vl) (R:RT) (w:Wd):Prop:=
 B0 .eql 3 true a (.int .i64 0) R w λ g w=>
 B0 .leq 3 true (.int .i64 2) a R w λ c w=>
 Zo (λ (b:Vl) (w:Wd)=>
 Zds e a f g c b R w) λ d=>
 Zn c true (
 B0 .leq 3 true a (.int .i64 36) R w λ b w=>
 d b w) (
 d undef w)
def n8 (a b c:Vl) (R:RT) (w:Wd):Prop:=
 opV Pg (ZF .eql 9 true a (.string { data := #[] })) (Zd R) w λ d w=>
 Zs d (
 opV Pg (makeInterface 239 (.int .i64 2)) (Zd R) w λ e w=>
 R (.returned (.tuple #[(.int .u64 0),e])) w) (
 Zdt a b c R w)
set_option maxHeartbeats 40000000 in
theorem n8s {t0 t1 t2:Vl} {R:RT} {w:Wd} (h:n8 t0 t1 t2 R w):Calls Pg 155 #[t0,t1,t2] w R:=by
 refine yD func155 ?_
 refine zs<|zr<|zm<|zm<|zn<|zk<|zs<|zs<|zr<|zm<|yb h λ _ w h=>zn<|zk<|yC h (λ h=>zs<|zr<|yv h λ _ w h=>zm<|zm<|zn<|zk<|Zg<|Zb<|Yk rfl rfl rfl h) λ h=>?_
 refine Zj<|zk<|zs<|zr<|zm<|yb h λ _ w h=>zm<|zn<|zk<|zs<|zr<|zm<|zm<|zn<|zk ?_
 refine zs<|Zl<|zs<|Zt<|yG 3<|zm<|yb h λ _ w h=>zm<|zn<|yg1 2 2 true [29,30] 30 h (λ _ T hT h=>?_) λ σ w h=>?_
 · refine zm<|yb h λ _ w h=>zn ?_
   exact zt hT h
 refine yG 2<|yp h λ _ h=>zm<|zn<|ZK<|zk<|yJ2 [0,1,6,7,24,32,33,34,35,36,37,38,39,40,41,42,43,44,45,46,47,48,49,50,51,52,53,54,55,56,57,58,59,60,61,62,63,64,65,66,67,68,69,70,71,72,73,74,75] 0 1 h (λ _ _ hkK2 h=>?_) λ σ w h=>?_
 · refine yC h (λ h=>?_) λ h=>?_
   · refine Zj<|zk ?_
     exact zt hkK2 h
   refine zs<|zr<|zm<|yb h λ _ w h=>zm<|zn<|zk<|yC h (λ h=>?_) λ h=>?_
   · refine zs<|zr<|zm<|zn<|zk<|zs<|zr<|zm<|yv h λ _ w h=>yb h λ _ w h=>zn<|zk<|yC h (λ h=>?_) λ h=>?_
     · refine Zl<|zs<|Zt<|yG 4<|zm<|yx h λ _ w h=>yb h λ _ w h=>zm<|zn<|yg1 4 3 true [45,46,47,48] 48 h (λ _ T hT h=>?_) λ σ w h=>?_
       · refine zm<|yv h λ _ w h=>yc h Nt λ _ w h=>yb h λ _ w h=>zn ?_
         exact zt hT h
       refine yG 2<|yp h λ _ h=>zm<|zn<|ZK<|zk<|yJ2 [0,1,38,39,50,51,52,53,54,55,56,57,58,59,60,61,62,63,64,65,66,67,68,69,70,71,72,73,74,75] 0 1 h (λ _ _ hkK15 h=>?_) λ σ w h=>?_
       · refine yC h (λ h=>?_) λ h=>?_
         · refine zs<|zr<|zm<|zn<|zk<|zr<|zm<|yv h λ _ w h=>zm<|zn<|zk ?_
           exact zt hkK15 h
         refine zs<|Zt<|yG 4<|zm<|yx h λ _ w h=>yb h λ _ w h=>zm<|zn<|yg1 4 3 true [57,58,59,60] 60 h (λ _ T hT h=>?_) λ σ w h=>?_
         · refine zm<|yv h λ _ w h=>yc h Nt λ _ w h=>yb h λ _ w h=>zn ?_
           exact zt hT h
         refine yG 2<|yp h λ _ h=>zm<|zn<|ZK<|zk<|yC h (λ h=>?_) λ h=>?_
         · refine zs<|zr<|zm<|zn<|zk<|zr<|zm<|yv h λ _ w h=>zm<|zn<|zk ?_
           exact zt hkK15 h
         refine zs<|Zt<|yG 4<|zm<|yx h λ _ w h=>yb h λ _ w h=>zm<|zn<|yg1 4 3 true [69,70,71,72] 72 h (λ _ T hT h=>?_) λ σ w h=>?_
         · refine zm<|yv h λ _ w h=>yc h Nt λ _ w h=>yb h λ _ w h=>zn ?_
           exact zt hT h
         refine yG 2<|yp h λ _ h=>zm<|zn<|ZK<|zk<|yC h (λ h=>?_) λ h=>?_
         · refine zs<|zr<|zm<|zn<|zk<|zr<|zm<|yv h λ _ w h=>zm<|zn<|zk ?_
           exact zt hkK15 h
         refine zs<|zr<|zm<|zn<|zk<|zr<|zm<|yv h λ _ w h=>zm<|zn<|zk ?_
         exact zt hkK15 h
       refine Zf<|zk ?_
       exact zt hkK2 h
     refine Zj<|zk ?_
     exact zt hkK2 h
   exact zs<|zr<|yv h λ _ w h=>zm<|zm<|zn<|zk<|Zg<|Zb<|Zh<|Zb<|Yk rfl rfl rfl h
 refine Zf<|zk<|zs<|zs<|zr<|zm<|yb h λ _ w h=>zn<|zk<|yJ1 [2,6,7,78,79,80,81,82,83,84] 2 h (λ _ _ hkK3 h=>?_) λ σ w h=>?_
 · refine yC h (λ h=>?_) λ h=>?_
   · refine zr<|zm<|zn<|zk ?_
     exact zt hkK3 h
   refine zs<|Zt<|yG 3<|zm<|yb h λ _ w h=>zm<|zn<|yg1 2 2 false [81,82] 82 h (λ _ T hT h=>?_) λ σ w h=>?_
   · refine zm<|yb h λ _ w h=>zn ?_
     exact zt hT h
   refine yG 1<|yp h λ _ h=>zn<|ZK<|zk<|yC h (λ h=>zs<|zr<|yv h λ _ w h=>zm<|zm<|zn<|zk<|Zg<|Zb<|Zb<|Yk rfl rfl rfl h) λ h=>Zj<|zk ?_
   exact zt hkK3 h
 refine zk<|zs<|zr<|zm<|zn<|zk<|zs<|zs<|zr<|zm<|zn<|zk<|Zl<|zs<|zr ?_
 refine yb h λ _ w h=>zm<|zn<|zk<|yJ1 [10,86,87,88,89,92,93] 10 h (λ _ _ hkK4 h=>?_) λ σ w h=>?_
 · refine yC h (λ h=>?_) λ h=>?_
   · refine zr<|zm<|zn<|zk ?_
     exact zt hkK4 h
   refine zs<|zr<|yb h λ _ w h=>zm<|zn<|zk<|yC h (λ h=>?_) λ h=>?_
   · refine zr<|zm<|zn<|zk ?_
     exact zt hkK4 h
   refine zr<|zm<|yv h λ _ w h=>yb h λ _ w h=>yb h λ _ w h=>zm<|zn<|zk ?_
   exact zt hkK4 h
 refine Zf<|zk<|zs<|zr<|zm<|yv h λ _ w h=>yb h λ _ w h=>yb h λ _ w h=>zm<|zn<|zk<|zs<|zr<|zm<|zn ?_
 refine zk<|zs<|zr<|zm<|zn<|zk<|zs<|zs<|zr<|zm<|yv h λ _ w h=>yx h λ _ w h=>zm<|zn<|zk ?_
 refine Zl<|yl3 [6,7,12,13,15,16,17,101,102,103,104,105,106,107,108,109,110,111,112,113,114,115,116,117,118,119,120,121,122,123,124,125,126,127,128,129,130,131,132,133,134,135,136,137,138,139,140,141,142,143,144,145,146,147,148,149,150,151,152,153,154,155,156,157,158,159,160,161,162,163] 12 13 101 h λ σ w next h=>zs<|zr<|yb h λ _ w h=>zn<|zk<|zs<|yC h (λ h=>?_) λ h=>?_
 · refine Zj<|zk<|zs<|yJ2 [6,7,12,13,15,16,17,103,104,105,106,107,108,109,110,111,112,113,114,115,116,117,118,119,120,121,122,123,124,125,126,127,128,129,130,131,132,133,134,135,136,137,138,139,140,141,142,143,144,145,146,147,148,149,150,151,152,153,154,155,156,157,158,159,160,161,162] 12 13 h (λ _ _ hkK6 h=>?_) λ σ w h=>?_
   · refine Zl<|zs<|zr<|yv h λ _ w h=>yv h λ _ w h=>zm<|zn<|zk<|zs<|zr<|zm<|zn<|zk<|zs<|Zl ?_
     refine zs<|Zt<|yG 3<|zm<|yb h λ _ w h=>zm<|zn<|yg1 1 2 true [110] 110 h (λ _ T hT h=>?_) λ σ w h=>?_
     · refine zm<|zn ?_
       exact zt hT h
     refine yG 2<|yp h λ _ h=>zm<|zn<|ZK<|zk<|yC h (λ h=>?_) λ h=>?_
     · refine zs<|zr<|zm<|zn<|zk<|ZM<|QL rfl<|Ze<|Zu<|zk ?_
       exact zt hkK6 h
     refine zs<|Zt<|yG 3<|zm<|yb h λ _ w h=>zm<|zn<|yg1 2 2 true [116,117] 117 h (λ _ T hT h=>?_) λ σ w h=>?_
     · refine zm<|yb h λ _ w h=>zn ?_
       exact zt hT h
     refine yG 2<|yp h λ _ h=>zm<|zn<|ZK<|zk<|yJ1 [6,7,16,105,119,120,121,122,123,124,125,126,127,128,129,130,131,132,133] 16 h (λ _ _ hkK9 h=>?_) λ σ w h=>?_
     · refine yC h (λ h=>?_) λ h=>?_
       · refine zr<|zm<|yb h λ _ w h=>zm<|zn<|zk ?_
         exact zt hkK9 h
       refine zs<|Zt<|yG 4<|zm<|yc h Nt λ _ w h=>yb h λ _ w h=>zm<|zn<|yg1 3 3 true [126,127,128] 128 h (λ _ T hT h=>?_) λ σ w h=>?_
       · refine zm<|yc h Nt λ _ w h=>yb h λ _ w h=>zn ?_
         exact zt hT h
       refine yG 2<|yp h λ _ h=>zm<|zn<|ZK<|zk<|yC h (λ h=>?_) λ h=>?_
       · refine zr<|zm<|yc h Nt λ _ w h=>yb h λ _ w h=>yb h λ _ w h=>zm<|zn<|zk ?_
         exact zt hkK9 h
       refine zs<|zr<|yv h λ _ w h=>zm<|zm<|zn<|zk<|Zg<|Zb<|Zh<|Zb<|Zh<|Zb<|Zb<|Zb ?_
       exact Zh<|Zb<|Yk rfl rfl rfl h
     refine Zf<|zk<|zs<|zs<|zr<|zm<|zm<|yv h λ _ w h=>yb h λ _ w h=>zn<|zk<|yC h (λ h=>?_) λ h=>?_
     · refine zs<|zr<|yv h λ _ w h=>zm<|zm<|zn<|zk<|Zg<|Zb<|Zh<|Zb<|Zb<|Zb<|Zh<|Zb ?_
       exact Yk rfl rfl rfl h
     refine Zj<|zk<|zs<|zs<|zr<|zm<|zm<|yb h λ _ w h=>zn<|zk<|yC h (λ h=>?_) λ h=>?_
     · refine zs<|zr<|zm<|yv h λ _ w h=>zm<|zm<|zn<|zk<|Zg<|Zb<|Zh<|Zb<|Zb<|Zb<|Zh ?_
       exact Zb<|Yk rfl rfl rfl h
     refine Zj<|zk<|zs<|zr<|zm<|zm<|yv h λ _ w h=>yb h λ _ w h=>zm<|zn<|zk<|zs<|zr<|zm<|zm ?_
     refine yv h λ _ w h=>yb h λ _ w h=>zm<|zn<|zk<|zs<|zs<|Zt<|yG 4<|zm<|zm<|yb h λ _ w h=>zm<|zn<|yg1 3 3 false [156,157,158] 158 h (λ _ T hT h=>?_) λ σ w h=>?_
     · refine zm<|zm<|yb h λ _ w h=>zn ?_
       exact zt hT h
     refine yG 1<|yp h λ _ h=>zn<|ZK<|zk<|yC h (λ h=>?_) λ h=>?_
     · refine zs<|zr<|zm<|yv h λ _ w h=>zm<|zm<|zn<|zk<|Zg<|Zb<|Zh<|Zb<|Zb<|Zb<|Zh ?_
       exact Zb<|Yk rfl rfl rfl h
     refine Zj<|zk<|zr<|zm<|zm<|zn<|Zf<|zk ?_
     exact zt hkK6 h
   exact zk<|zr<|yb h λ _ w h=>zm<|zn<|zk<|⟨rfl,h⟩
 refine ZM<|Ze<|Ze<|Zu<|zk<|zs<|zs<|Zt<|yG 2<|zm<|zm<|zn<|yg1 3 1 true [166,167,168] 168 h (λ _ T hT h=>?_) λ σ w h=>?_
 · refine zm<|yc h Zi1 λ _ w h=>yv h λ _ w h=>zn ?_
   exact zt hT h
 refine yG 1<|yp h λ _ h=>zn<|ZK<|zk<|yC h (λ h=>zs<|zr<|yv h λ _ w h=>zm<|zm<|zn<|zk<|Zg<|Zb<|Yk rfl rfl rfl h) λ h=>Zj<|zk<|zs<|zr<|zm<|zm<|zm<|zn ?_
 exact zk<|Zg<|Yk rfl rfl rfl h
def ZkS (c a b:Vl) (R:RT) (w:Wd):Prop:=
 opV Pg (sliceAt 246 a none (some b) none) (Zd R) w λ d w=>
 C0 193 #[d,c] R w λ g w=>
 opV Pg (sliceAt 246 a none (some b) none) (Zd R) w λ e w=>
 opV Pg (Go.convert 40 9 e) (Zd R) w λ f w=>
 R (.returned f) w
def ZkT (a:Vl) (R:RT) (w:Wd):Prop:=
 opV Pg (ZF .lss 191 true a (.int .u64 100)) (Zd R) w λ b w=>
 Zs b (
 opV Pg (Go.convert 191 3 a) (Zd R) w λ c w=>
 C0 191 #[c] R w λ d w=>
 R (.returned d) w) (
 opV Pg (alloc 246 true (.tuple #[])) (Zd R) w λ e w=>
 C0 192 #[a] R w λ f w=>
 ZkS a e f R w)
def Zhs (b c:Vl) (R:RT) (w:Wd):Prop:=
 C0 194 #[(Value.slice none 0 0),b,c,(.bool false),(.bool false)] R w λ a w=>
 E0q a 0 R w λ e w=>
 E0q a 1 R w λ d w=>
 R (.returned d) w
def n7 (a b:Vl) (R:RT) (w:Wd):Prop:=
 B0 .eql 3 true b (.int .i64 10) R w λ c w=>
 Zs c (
 ZkT a R w) (
 Zhs a b R w)
theorem n7s {t0 t1:Vl} {R:RT} {w:Wd} (h:n7 t0 t1 R w):Calls Pg 160 #[t0,t1] w R:=by
 refine yD func160 ?_
 refine zs<|zr<|zm<|zn<|zk<|zs<|zs<|zr<|zm<|yb h λ _ w h=>zn<|zk<|yC h (λ h=>?_) λ h=>?_
 · refine zs<|zs<|zr<|zm<|yb h λ _ w h=>zn<|zk<|yC h (λ h=>zs<|zr<|zm<|yv h λ _ w h=>yc h Zi2 λ _ w h=>zm<|zn<|zk<|Zg<|Zb<|Zb<|Zi rfl rfl h) λ h=>Zj<|zk<|zs<|zr<|yv h λ _ w h=>zn ?_
   refine zk<|zs<|zr<|zm<|yc h Zi3 λ _ w h=>zm<|zn<|zk<|zs<|zr<|zm<|yv h λ _ w h=>zm<|yc h Zi4 λ _ w h=>zn ?_
   exact zk<|zs<|zr<|zm<|yv h λ _ w h=>yv h λ _ w h=>zm<|zn<|zk<|Zg<|Zb<|Zi rfl rfl h
 refine Zj<|zk<|zs<|zr<|zm<|zm<|yc h Zi5 λ _ w h=>zm<|yv h λ _ w h=>yv h λ _ w h=>zm<|zm<|zn<|zk<|zs ?_
 exact zr<|zm<|zm<|zn<|zk<|Zg<|Zi rfl rfl h
def Zld (a b c:Vl) (R:RT) (w:Wd):Prop:=
 opV Pg (sliceAt 282 b (some c) none none) (Zd R) w λ d w=>
 opV Pg (Builtin.append_ #[40,40] 40 #[a,d]) (Zd R) w λ e w=>
 R (.returned (.tuple #[e,(.string { data := #[] })])) w
def ZhK (a b:Vl) (R:RT) (w:Wd):Prop:=
 opV Pg (sliceAt 282 a (some b) none none) (Zd R) w λ c w=>
 opV Pg (Go.convert 40 9 c) (Zd R) w λ d w=>
 R (.returned (.tuple #[(Value.slice none 0 0),d])) w
def Zle (b c:Vl) (d:KV) (R:RT) (w:Wd):Prop:=
 B0 .sub 3 true c (.int .i64 1) R w λ a w=>
 X0 282 b a R w λ e w=>
 opU Pg (storeAt 5 e (.int .u8 45)) (Zd R) w λ w=>
 d a w
def ZhL (d e f b a:Vl) (R:RT) (w:Wd):Prop:=
 Zo (λ (a:Vl) (w:Wd)=>
 Zs f (
 Zld d b a R w) (
 ZhK b a R w)) λ c=>
 Zs e (
 Zle b a c R w) (
 c a w)
def ZhM (b c d:Vl) (e:KV) (R:RT) (w:Wd):Prop:=
 B0 .sub 3 true d (.int .i64 1) R w λ a w=>
 opV Pg (Instr.index 9 (.string { data := #[48,49,50,51,52,53,54,55,56,57,97,98,99,100,101,102,103,104,105,106,107,108,109,110,111,112,113,114,115,116,117,118,119,120,121,122] }) b) (Zd R) w λ f w=>
 X0 282 c a R w λ g w=>
 S0 5 g f R w λ w=>
 e a w
def Zlf (a c d e f:Vl) (VT:KW) (R:RT) (w:Wd):Prop:=
 B0 .sub 3 true d (.int .i64 1) R w λ b w=>
 B0 .and 197 false a f R w λ g w=>
 opV Pg (Instr.index 9 (.string { data := #[48,49,50,51,52,53,54,55,56,57,97,98,99,100,101,102,103,104,105,106,107,108,109,110,111,112,113,114,115,116,117,118,119,120,121,122] }) g) (Zd R) w λ h w=>
 X0 282 c b R w λ i w=>
 S0 5 i h R w λ w=>
 B0 .shr 191 false a e R w λ j w=>
 VT j b w
def ZhN (a b c d e f:Vl) (g:KV) (VT:KW) (R:RT) (w:Wd):Prop:=
 B0 .geq 191 false a e R w λ h w=>
 Zs h (
 Zlf a b c d f VT R w) (
 ZhM a b c g R w)
def ZhO (a b c d:Vl) (e:KV) (R:RT) (w:Wd):Prop:=
 opV Pg (Go.convert 3 197 d) (Zd R) w λ f w=>
 opV Pg (Go.convert 3 191 b) (Zd R) w λ g w=>
 opV Pg (Go.convert 3 197 b) (Zd R) w λ h w=>
 opV Pg (ZF .sub 197 true h (.int .u64 1)) (Zd R) w λ i w=>
 Kz (λ a j w VT=>
 ZhN a c j f g i e VT R w) a (.int .i64 65) w
def Zlg (b c d:Vl) (e:KV) (R:RT) (w:Wd):Prop:=
 B0 .sub 3 true d (.int .i64 1) R w λ a w=>
 opV Pg (Instr.index 9 (.string { data := #[48,49,50,51,52,53,54,55,56,57,97,98,99,100,101,102,103,104,105,106,107,108,109,110,111,112,113,114,115,116,117,118,119,120,121,122] }) b) (Zd R) w λ f w=>
 X0 282 c a R w λ g w=>
 S0 5 g f R w λ w=>
 e a w
def ZhH (a e f b:Vl) (JR:KW) (R:RT) (w:Wd):Prop:=
 B0 .sub 3 true f (.int .i64 1) R w λ c w=>
 B0 .quo 191 false a b R w λ d w=>
 B0 .mul 191 false d b R w λ g w=>
 B0 .sub 191 false a g R w λ h w=>
 opV Pg (Instr.index 9 (.string { data := #[48,49,50,51,52,53,54,55,56,57,97,98,99,100,101,102,103,104,105,106,107,108,109,110,111,112,113,114,115,116,117,118,119,120,121,122] }) h) (Zd R) w λ i w=>
 X0 282 e c R w λ j w=>
 S0 5 j i R w λ w=>
 JR d c w
def ZhI (a b c d:Vl) (e:KV) (JR:KW) (R:RT) (w:Wd):Prop:=
 B0 .geq 191 false a d R w λ f w=>
 Zs f (
 ZhH a b c d JR R w) (
 Zlg a b c e R w)
def Zdv (f a b g h c i:Vl) (R:RT) (w:Wd):Prop:=
 Zo (λ (d:Vl) (w:Wd)=>
 ZhL f g h c d R w) λ e=>
 Zs i (
 opV Pg (Go.convert 3 197 b) (Zd R) w λ j w=>
 C0 211 #[j] R w λ k w=>
 ZhO a b c k e R w) (
 opV Pg (Go.convert 3 191 b) (Zd R) w λ l w=>
 Kz (λ a d w JR=>
 ZhI a c d l e JR R w) a (.int .i64 65) w)
def ZhJ (R:RT) (w:Wd):Prop:=
 opV Pg (makeInterface 9 (.string { data := #[115,116,114,99,111,110,118,58,32,105,108,108,101,103,97,108,32,65,112,112,101,110,100,73,110,116,47,70,111,114,109,97,116,73,110,116,32,98,97,115,101] })) (Zd R) w λ a w=>
 opV Pg (Instr.panic a) (Zd R) w λ _ w=>
 False
def Zdw (e a b c f:Vl) (R:RT) (w:Wd):Prop:=
 opV Pg (alloc 282 true (.tuple #[])) (Zd R) w λ g w=>
 Zo (λ (a:Vl) (w:Wd)=>
 C0 210 #[b] R w λ h w=>
 Zdv e a b c f g h R w) λ d=>
 Zs c (
 opV Pg (Op.unary .neg a) (Zd R) w λ i w=>
 d i w) (
 d a w)
def Zdx (e f b g h i j:Vl) (R:RT) (w:Wd):Prop:=
 Zy i (.bool true) j λ c=>
 Zo (λ (a:Vl) (w:Wd)=>
 Zy c (.bool true) a λ k=>
 Zs k (
 ZhJ R w) (
 Zdw e f b g h R w)) λ d=>
 Zn c false (
 B0 .gtr 3 true b (.int .i64 36) R w λ a w=>
 d a w) (
 d undef w)
def n9 (e f a g h:Vl) (R:RT) (w:Wd):Prop:=
 B0 .lss 3 true a (.int .i64 2) R w λ c w=>
 Zo (λ (b:Vl) (w:Wd)=>
 Zdx e f a g h c b R w) λ d=>
 Zn c false (
 B0 .eql 3 true a (.int .i64 10) R w λ b w=>
 d b w) (
 d undef w)
set_option maxHeartbeats 40000000 in
theorem n9s {t0 t1 t2 t3 t4:Vl} {R:RT} {w:Wd} (h:n9 t0 t1 t2 t3 t4 R w):Calls Pg 194 #[t0,t1,t2,t3,t4] w R:=by
 refine yD func194 ?_
 refine zs<|zr<|zm<|zm<|zn<|zk<|zs<|zs<|Zt<|yG 3<|zm<|yb h λ _ w h=>zm<|zn<|yg1 2 2 false [22,23] 23 h (λ _ T hT h=>?_) λ σ w h=>?_
 · refine zm<|yb h λ _ w h=>zn ?_
   exact zt hT h
 refine yG 2<|yp h λ _ h=>zm<|zn<|yg1 2 6 false [26,27] 27 h (λ _ T hT h=>?_) λ σ w h=>?_
 · refine zm<|yb h λ _ w h=>zn ?_
   exact zt hT h
 refine yG 1<|yp h λ _ h=>zn<|ZK<|zk<|yC h (λ h=>zr<|yv h λ _ w h=>yv h λ _ w h=>zn<|h.elim) λ h=>Zj<|zk<|zs<|zr<|yv h λ _ w h=>zn<|zk<|zs ?_
 refine zr<|zm<|zn<|zk<|zs<|zs<|zr<|zm<|zn<|zk<|yJ1 [1,31,32] 1 h (λ _ _ hkK3 h=>?_) λ σ w h=>?_
 · refine yC h (λ h=>?_) λ h=>?_
   · refine zr<|zm<|yv h λ _ w h=>zm<|zn<|zk ?_
     exact zt hkK3 h
   refine Zj<|zk ?_
   exact zt hkK3 h
 refine zk<|zs<|zs<|zr<|zm<|yc h c210 λ _ w h=>zn<|zk<|yJ1 [1,13,14,15,16,17,18,35,36,37,38,39,40,41,42,43,44,45,46,47,48,49,50,51,52,53,54,55,56,57,58,59,60,61,62,63,64,65,66,67,68,69,70,71,72,73,74,75,76,77,78,79,80,81,82,83,84,85,86,87,88] 13 h (λ _ _ hkK4 h=>?_) λ σ w h=>?_
 · refine yC h (λ h=>?_) λ h=>?_
   · refine zs<|zr<|zm<|yv h λ _ w h=>yc h Zi8 λ _ w h=>yv h λ _ w h=>zm<|zn<|zk<|zs<|zr<|zm<|yv h λ _ w h=>zm<|zn ?_
     refine zk<|zs<|zr<|zm<|yv h λ _ w h=>yb h λ _ w h=>zm<|zn<|zk<|zs<|Zl<|yl2 [1,13,44,45,46,47,48,49,50,51,52,53,54,55,56,57] 1 13 h λ σ w next h=>zs<|zs<|zr ?_
     refine zm<|zm<|yb h λ _ w h=>zn<|zk<|yC h (λ h=>?_) λ h=>?_
     · refine Zj<|zk<|Zl<|zs<|zr<|zm<|yb h λ _ w h=>zm<|zn<|zk<|zs<|zr<|zm<|zm<|zm ?_
       exact yb h λ _ w h=>yv h λ _ w h=>yv h λ _ w h=>yu h λ w h=>zn<|zk<|zr<|zm<|zm<|yb h λ _ w h=>zm<|zn<|Zf<|zk<|⟨rfl,h⟩
     refine ZM<|Ze<|Ze<|Zu<|zk<|zs<|zr<|zm<|yb h λ _ w h=>zm<|zn<|zk<|zr<|zm<|zm ?_
     refine yv h λ _ w h=>yv h λ _ w h=>yu h λ w h=>zn<|zk ?_
     exact zt hkK4 h
   refine zs<|zr<|zm<|yv h λ _ w h=>zm<|zn<|zk<|zs<|Zl<|yl2 [1,13,18,66,67,68,69,70,71,72,73,74,75,76,77,78,79,80,81,82] 1 13 h λ σ w next h=>zs<|zs<|zr<|zm<|zm ?_
   refine yb h λ _ w h=>zn<|zk<|yC h (λ h=>?_) λ h=>?_
   · refine Zj<|zk<|Zl<|zs<|zr<|zm<|yb h λ _ w h=>zm<|zn<|zk<|zs<|zr<|zm<|zm<|yb h λ _ w h=>?_
     refine zm<|zn<|zk<|zs<|zr<|zm<|zm<|zm<|zm<|yb h λ _ w h=>yb h λ _ w h=>yv h λ _ w h=>yv h λ _ w h=>yu h λ w h=>zn ?_
     exact zk<|zr<|zm<|zm<|zn<|Zf<|zk<|⟨rfl,h⟩
   refine ZM<|Ze<|Ze<|Zu<|zk<|zs<|zr<|zm<|yb h λ _ w h=>zm<|zn<|zk<|zr<|zm<|zm ?_
   refine yv h λ _ w h=>yv h λ _ w h=>yu h λ w h=>zn<|zk ?_
   exact zt hkK4 h
 refine zk<|zs<|zs<|zr<|zm<|zn<|zk<|yJ1 [13,90,91,92,93] 13 h (λ _ _ hkK5 h=>?_) λ σ w h=>?_
 · refine yC h (λ h=>?_) λ h=>?_
   · refine zs<|zr<|zm<|yb h λ _ w h=>zm<|zn<|zk<|zr<|zm<|yv h λ _ w h=>yu h λ w h=>zn<|zk ?_
     exact zt hkK5 h
   refine Zj<|zk ?_
   exact zt hkK5 h
 refine zk<|zs<|zs<|zr<|zm<|zn<|zk<|yC h (λ h=>zs<|zr<|zm<|zm<|yv h λ _ w h=>yx h λ _ w h=>zm<|zn<|zk<|Zg<|Zb<|Yk rfl rfl rfl h) λ h=>Zj<|zk<|zs<|zr<|zm<|yv h λ _ w h=>?_
 exact yv h λ _ w h=>zm<|zn<|zk<|Zg<|Yk rfl rfl rfl h
def n10 (a:Vl) (R:RT) (w:Wd):Prop:=
 B0 .sub 3 true a (.int .i64 1) R w λ b w=>
 B0 .and 3 false a b R w λ c w=>
 B0 .eql 3 true c (.int .i64 0) R w λ d w=>
 R (.returned d) w
theorem ZjR {t0:Vl} {R:RT} {w:Wd} (h:n10 t0 R w):Calls Pg 210 #[t0] w R:=by
 refine yD func210 ?_
 refine zs<|zr<|zm<|zn<|zk<|zs<|zr<|zm<|zm<|yb h λ _ w h=>yb h λ _ w h=>yb h λ _ w h=>zm<|zn<|zk ?_
 exact Zg<|Zi rfl rfl h
def n13 (a:Vl) (R:RT) (w:Wd):Prop:=
 opV Pg (ZF .or 5 true a (.int .u8 32)) (Zd R) w λ b w=>
 R (.returned b) w
theorem ZjS {t0:Vl} {R:RT} {w:Wd} (h:n13 t0 R w):Calls Pg 188 #[t0] w R:=by
 refine yD func188 ?_
 exact zs<|zr<|zm<|zn<|zk<|zs<|zr<|zm<|yb h λ _ w h=>zm<|zn<|zk<|Zg<|Zi rfl rfl h
structure Vf (w:Wd):Prop where
 env:UD w
 tz:w.cell? ⟨7,15,none⟩=some (.int .u8 4)
theorem Vf.ext {w w':Wd} (h:Vf w) (e:Ext w w'):Vf w':=⟨h.env.ext e,e.cell h.tz⟩
section
variable {P:Program} {QP:PEn} {w:Wd} {k:KV}
theorem Fa (t:TypeId) (c:Bool) (kd:IntKind) (a b:Int):opV P (ZF .and t c (.int kd a) (.int kd b)) QP w k=k (.int kd (kd.wrap ((BitVec.ofInt kd.bits a &&& BitVec.ofInt kd.bits b).toNat:Nat))) w:=ZX (by rw [Xi _ _ _ _ _ _ rfl];rfl)
theorem M4 (t:TypeId) (c:Bool) (kd:IntKind) (x y:Int) (h0:0≤y):opV P (ZF .shr t c (.int kd x) (.int .u64 y)) QP w k=k (.int kd (x / 2 ^ min y.toNat kd.bits)) w:=ZX (by
 have h0:¬ (y < 0):=by omega
 simp [ZF,go_sem,Op.shift,h0]
 exact Int.fdiv_eq_ediv_of_nonneg _ (Int.le_of_lt (Int.pow_pos (by decide))))
theorem Dy {t e:TypeId} {agg:Bool} {n m len:Nat} {z:Vl} (hu:P.underlying t=some (.array len e)) (ht:ZD P e agg n m z) (b o:Nat) (ik:IntKind) (i:Int) (h0:0≤i) (h1:i < len) :
 opV P (indexAt t (.pointer (some ⟨b,o,none⟩)) (.int ik i)) QP w k=k (.pointer (some ⟨b,o+i.toNat*n,none⟩)) w:=ZX (by
 simp [indexAt,asIntOf,Instr.sureAddr,run_underlying hu,Sw.run_sizeOf ht,h0,h1,Addr.add_lit])
theorem HM {t e:TypeId} {agg:Bool} {n m len:Nat} {z:Vl} (hu:P.underlying t=some (.array len e)) (ht:ZD P e agg n m z) (b o:Nat) (kd:IntKind) (l:Nat) (h1:l < len) :
 opV P (sliceAt t (.pointer (some ⟨b,o,none⟩)) (some (.int kd (l:Int))) none none) QP w k=k (.slice (some ⟨b,o+l*n,none⟩) (len - l) (len - l)) w:=by
 refine ZX ?_
 have h2:(l:Int)≤(len:Int):=by omega
 have h3:(0:Int)≤(l:Int):=by omega
 have h4:len≠l:=by omega
 simp [sliceAt,run_underlying hu,Instr.sliceBounds,run_sliceBound,Instr.sureAddr,h2,h3,h4,Sw.run_sizeOf ht,Addr.add_lit]
end
theorem DE:∀ (l:List UInt8) (r:BAr),(l.map λ c=>(c.toNat:Int)).foldl (λ r n=>r.push (UInt8.ofNat n.toNat)) r=⟨r.data++l.toArray⟩
 | [],r=>by simp
 | c::l,r=>by
  rw [List.map_cons,List.foldl_cons,DE l]
  apply ByteArray.ext
  show (r.data.push (UInt8.ofNat ((c.toNat:Int)).toNat))++l.toArray=_
  rw [Int.toNat_natCast,UInt8.ofNat_toNat]
  simp
theorem qZ {w:Wd} {QP:PEn} {k:KV} {v:Vl} {l:List UInt8} (h:zE w v l):opV Pg (Go.convert 40 9 v) QP w k=k (.string ⟨l.toArray⟩) w:=by
 refine ZX ?_
 obtain ⟨A,c,rfl,_,_,_,Y1⟩:=Zc.open h
 rw [run_convert_bytes_string w _ _ 5 _ _ _ underlying40 underlying5 underlying9]
 cases l with
 | nil=>
  cases A with
  | none=>rfl
  | some a=>
   have:=run_bytesToString (P:=Pg) w a 0 c [] rfl
   exact this
 | cons x l=>
  obtain ⟨b,o,cs,rfl,_,_,_⟩:=Y1 0 x rfl
  have hl:=run_loadCells_list (P:=Pg) (w:=w) ⟨b,o,none⟩ ((x::l).map λ c=>Value.int .u8 (c.toNat:Int)) λ j y hy=>by
   rw [List.getElem?_map] at hy
   obtain ⟨z,hz,rfl⟩:=Option.map_eq_some_iff.1 hy
   obtain ⟨b',o',cs',hA,_,hE,rfl⟩:=Y1 j z hz
   injection hA with hA
   injection hA with h1 h2
   subst h1 h2
   have:=hE 0 (.int .u8 z.toNat) rfl
   rw [Addr.add_lit]
   simpa using this
  have:=run_bytesToString (P:=Pg) w ⟨b,o,none⟩ (x::l).length c ((x::l).map λ c=>(c.toNat:Int)) (by
   rw [List.map_map]
   rw [List.length_map] at hl
   exact hl)
  rw [this,DE]
  congr 2
  apply ByteArray.ext
  show (#[]:Array UInt8)++_=_
  simp
theorem Znb:ZD Pg 282 true 65 (Pg.bytesOf 282) (.agg (Array.replicate 65 (.int .u8 0))):=YF (by kernel_rfl) underlying282 rfl
theorem Tf (w0:Wd):Ret Pg 210 #[.int .i64 16] w0 λ r w'=>r = .bool true∧w'=w0:=by
 refine ZjR (R:=ZI _) ?_;unfold n10
 simp (disch:=try exact DI) only [↓PR,QR,simprocAttr,Fa]
 exact ⟨congrArg Value.bool (by decide),by trivial⟩
theorem TP (w0:Wd) (hE:Vf w0):Ret Pg 245 #[.int .u64 16] w0 λ r w'=>r = .int .i64 4∧w'=w0:=by
 refine Zkt (R:=ZI _) ?_;unfold n54
 have ht:=hE.tz
 unfold ZcO
 have e1:(IntKind.u64.wrap (IntKind.u64.wrap ((BitVec.ofInt IntKind.u64.bits 16 &&& BitVec.ofInt IntKind.u64.bits (IntKind.u64.wrap (-16))).toNat:Nat)*285870213051353865)) / 2 ^ min (58:Int).toNat IntKind.u64.bits=15:=by decide
 simp (disch:=try exact DI) only [↓PR,QR,simprocAttr,Fa]
 try unfold X0
 rw [M4 191 true .u64 _ 58 (by decide),e1,Dy underlying306 ty5 _ _ _ _ (by decide) (by decide)]
 simp (disch:=try exact DI) only [↓PR,QR,simprocAttr,ht]
 exact ⟨congrArg _ (by decide),by trivial⟩
theorem ZeF (w0:Wd) (hE:Vf w0):Ret Pg 211 #[.int .u64 16] w0 λ r w'=>r = .int .i64 4∧w'=w0:=by
 refine Zks (R:=ZI _) ?_;unfold n53
 simp (disch:=try exact DI) only [↓PR,QR,simprocAttr]
 refine Zk (TP w0 hE) ?_
 rintro _ w ⟨rfl,hw⟩
 rw [hw]
 simp (disch:=try exact DI) only [↓PR,QR,simprocAttr]
 exact ⟨by trivial,by trivial⟩
theorem As (w0:Wd) (hE:Vf w0) (u:Nat) (hu:u < 16):Ret Pg 194 #[.slice none 0 0,.int .u64 u,.int .i64 16,.bool false,.bool false] w0 λ r w'=>r = .tuple #[.slice none 0 0,.string ⟨#[Ub u]⟩]∧Ext w0 w':=by
 refine n9s (R:=ZI _) ?_;unfold n9
 unfold Zdx Zdw
 simp (disch:=try exact DI) only [↓PR,QR,simprocAttr,Ys Znb]
 have oV:=Zv w0 (Array.replicate 65 (.int .u8 0)) 282
 have eV:Ext w0 (w0.alloc (.cells (Array.replicate 65 (.int .u8 0)) 282)):=(Ext.refl w0).alloc _
 generalize (w0.alloc (.cells (Array.replicate 65 (.int .u8 0)) 282))=V at oV eV ⊢
 obtain ⟨b,hbe⟩:∃ b,w0.heap.size=b:=⟨_,rfl⟩
 rw [hbe] at oV ⊢
 have hb:w0.heap.size≤b:=by omega
 refine Zk (Tf V) ?_
 rintro _ w ⟨rfl,hw⟩
 rw [hw]
 clear hw
 unfold Zdv
 simp (disch:=try exact DI) only [↓PR,QR,simprocAttr]
 refine Zk (ZeF V (hE.ext eV)) ?_
 rintro _ w ⟨rfl,hw⟩
 rw [hw]
 clear hw
 unfold ZhO
 simp (disch:=try exact DI) only [↓PR,QR,simprocAttr]
 refine Wh (λ x y w=>x = .int .u64 u∧y = .int .i64 65∧w=V) (λ _ _ _=>0) ⟨rfl,rfl,rfl⟩ ?_
 rintro _ _ W ⟨rfl,rfl,hW⟩
 rw [hW]
 clear hW
 have d1:decide ((u:Int)≥IntKind.u64.wrap 16)=false:=by
  rw [show IntKind.u64.wrap 16=16 by decide]
  simp
  omega
 have hdig:∀ n:Fin 16,([48,49,50,51,52,53,54,55,56,57,97,98,99,100,101,102,103,104,105,106,107,108,109,110,111,112,113,114,115,116,117,118,119,120,121,122]:List UInt8)[n.1]?=some (Ub n.1):=by decide
 have hx:=hdig ⟨u,hu⟩
 unfold ZhN
 simp (disch:=try exact DI) only [↓PR,QR,simprocAttr,d1]
 unfold ZhM
 have w64:IntKind.i64.wrap (65 - 1)=64:=by decide
 have oZ:=Zw (o:=64) oV (.int .u8 ((Ub u).toNat:Int))
 have cV:=Za oV
 have c64:V.cell? ⟨b,64,none⟩=some (.int .u8 0):=by rw [cV.1];rfl
 try unfold B0
 rw [Fb,w64]
 try unfold X0
 rw [Wl underlying9 _ .u64 u hx,Dy underlying282 ty5 _ _ _ _ (by decide) (by decide)]
 simp (disch:=try exact DI) only [↓PR,QR,simprocAttr,c64,cV.2]
 have eZ:Ext w0 (V.setCell ⟨b,64,none⟩ (.int .u8 ((Ub u).toNat:Int))):=eV.setCell hb _
 generalize (V.setCell ⟨b,64,none⟩ (.int .u8 ((Ub u).toNat:Int)))=Z at oZ eZ ⊢
 unfold ZhL
 simp (disch:=try exact DI) only [↓PR,QR,simprocAttr]
 unfold ZhK
 have:=HM (P:=Pg) (QP:=Zd (ZI λ r w'=>r=Value.tuple #[Value.slice none 0 0,Value.string ⟨#[Ub u]⟩]∧Ext w0 w')) (w:=Z) (k:=λ t100 w=>opV Pg (Go.convert 40 9 t100) (Zd (ZI λ r w'=>r=Value.tuple #[Value.slice none 0 0,Value.string ⟨#[Ub u]⟩]∧Ext w0 w')) w λ t101 w=>ZI (λ r w'=>r=Value.tuple #[Value.slice none 0 0,Value.string ⟨#[Ub u]⟩]∧Ext w0 w') (.returned (.tuple #[(Value.slice none 0 0),t101])) w) underlying282 ty5 b 0 .i64 64 (by decide)
 refine this.mpr ?_
 have hB:zE Z (.slice (some ⟨b,64,none⟩) 1 1) [Ub u]:=⟨_,1,rfl,Nat.le_refl _,by decide,λ _=>⟨b,64,rfl,λ k x hk=>?_⟩⟩
 · rw [show (0+64*1)=64 from rfl,show 65 - 64=1 from rfl,qZ hB]
   exact ⟨_,rfl,rfl,eZ⟩
 · cases k with
   | zero=>
    simp only [List.getElem?_cons_zero,Option.some.injEq] at hk
    subst hk
    refine ⟨[.int .u8 ((Ub u).toNat:Int)],rfl,λ j v hj=>?_,rfl⟩
    cases j with
    | zero=>
     simp only [List.getElem?_cons_zero,Option.some.injEq] at hj
     subst hj
     rw [(Za oZ).1]
     rfl
    | succ j=>simp at hj
   | succ k=>simp at hk
theorem KT (w0:Wd) (hE:Vf w0) (u:Nat) (hu:u < 16):Ret Pg 133 #[.int .u64 u,.int .i64 16] w0 λ r w'=>r = .string ⟨#[Ub u]⟩∧Ext w0 w':=by
 refine Zhk (R:=ZI _) ?_;unfold Zhj
 have inner:Ret Pg 160 #[.int .u64 u,.int .i64 16] w0 λ r w'=>r = .string ⟨#[Ub u]⟩∧Ext w0 w':=by
  refine n7s (R:=ZI _) ?_;unfold n7
  simp (disch:=try exact DI) only [↓PR,QR,simprocAttr]
  unfold Zhs
  refine zcr (As w0 hE u hu) λ w e=>?_
  simp (disch:=try exact DI) only [↓PR,QR,simprocAttr]
  exact ⟨by trivial,e⟩
 refine Zk inner ?_
 rintro _ w ⟨rfl,e⟩
 exact ⟨_,rfl,rfl,e⟩
open Go.Shelf
def J6:Go.Shelf.Ren:=⟨λ | 169=>100 | n=>n,λ | 70=>157 | 9=>9 | 0=>0 | 72=>159 | 37=>40 | 127=>195 | 3=>3 | 5=>5 | n=>n,λ | n=>n⟩
theorem Me:Go.Proofs.Lays.n169 Pg J6:={
 mixed:=by kernel_rfl
 f169:=func100.trans (congrArg some (by kernel_rfl))
 t0:=underlying0
 a0:=Tryz.isAgg0
 z0:=Tryz.sizeOf0
 v0:=Tryz.zeroValue0
 t3:=underlying3
 a3:=Tryz.isAgg3
 z3:=Tryz.sizeOf3
 v3:=Tryz.zeroValue3
 t9:=underlying9
 a9:=Tryz.isAgg9
 z9:=Tryz.sizeOf9
 v9:=Tryz.zeroValue9
 t37:=underlying40
 a37:=Tryz.isAgg40
 z37:=Tryz.sizeOf40
 v37:=Tryz.zeroValue40
 t70:=underlying157
 a70:=Tryz.isAgg157
 z70:=Tryz.sizeOf157
 v70:=Tryz.zeroValue157
 t72:=underlying159
 a72:=Tryz.isAgg159
 z72:=Tryz.sizeOf159
 v72:=Tryz.zeroValue159
 t127:=underlying195
 a127:=Tryz.isAgg195
 z127:=Tryz.sizeOf195
 v127:=Tryz.zeroValue195 }
theorem J5:Builder.Extra Pg J6:={
 sizeBuilder:=by kernel_rfl
 liesBuilder:=by kernel_rfl
 t5:=underlying5
 a5:=Tryz.isAgg5
 z5:=Tryz.sizeOf5
 v5:=Tryz.zeroValue5
 infoByte:=by kernel_rfl
 cellsByte:=by kernel_rfl
 sizeByte:=by kernel_rfl
 neB5:=by decide }
open Go.RowKit in
theorem KO (B b:Nat) (l:List UInt8) (w:World) (h:Lib.IsBuilder 159 5 B b (Lib.byteCells l) w) (hBw:B≤w.heap.size) :
 Calls Pg 100 #[.pointer (some ⟨b,0,none⟩)] w λ e w'=>e = .returned (.string ⟨l.toArray⟩)∧Below B w w':=Any.Builder_String_any Me J5 B b l w h hBw
abbrev zC (B b:Nat) (l:List UInt8) (w:Wd):Prop:=Go.Lib.IsBuilder 159 5 B b (Go.Lib.byteCells l) w
theorem xn (a b:List UInt8):Go.Lib.byteCells (a++b)=Go.Lib.byteCells a++Go.Lib.byteCells b:=by unfold Go.Lib.byteCells;rw [List.map_append]
theorem zC.ext {B b:Nat} {l:List UInt8} {w w':Wd} (h:zC B b l w) (e:Ext w w'):zC B b l w':=by
 have key:∀ p,Go.Lib.BuilderAt 159 5 B b p (Go.Lib.byteCells l) w→Go.Lib.BuilderAt 159 5 B b p (Go.Lib.byteCells l) w':=λ p ⟨h1,v,h2,h3,h4⟩=>⟨h1,v,e.obj h2,jc h3 e,h4⟩
 exact h.imp (key _) (key _)
theorem TR {a w w':Wd} (e:Ext a w) (h:Below a.heap.size w w'):Ext a w':=⟨h.os.trans e.os,h.tape.trans e.tape,h.output.trans e.output,Nat.le_trans e.size h.size,λ k hk=>(h.block k hk).trans (e.block k hk)⟩
theorem jn {w:Wd} {B b:Nat} {l:List UInt8} (h:zC B b l w) (s:BAr) (hl:l.length+s.size≤140737488355328) (hB:B≤w.heap.size) :
 Ret Pg 99 #[.pointer (some ⟨b,0,none⟩),.string s] w λ _ w'=>zC B b (l++s.data.toList) w'∧Below B w w':=by
 have hc:(Go.Lib.byteCells l).length+s.size≤140737488355328:=by rw [Go.Lib.byteCells_length];exact hl
 refine Calls.mono (Any.Builder_WriteString (P:=Pg) (ρ:=V6) { BT with } Vb B b (Go.Lib.byteCells l) s w h hc hB) ?_
 rintro e w' ⟨rfl,h1,h2⟩
 refine ⟨_,rfl,?_,h2⟩
 unfold zC
 rw [xn]
 exact .inr h1
theorem Cg {w:Wd} {B b:Nat} {l:List UInt8} (h:zC B b l w) (hB:B≤w.heap.size) :
 Ret Pg 100 #[.pointer (some ⟨b,0,none⟩)] w λ r w'=>r = .string ⟨l.toArray⟩∧Below B w w':=by
 refine Calls.mono (KO B b l w h hB) ?_
 rintro e w' ⟨rfl,h1⟩
 exact ⟨_,rfl,rfl,h1⟩
theorem NR (l:List UInt8) (c:UInt8):xu (l++[c])=xu l++[Ub (c.toNat / 16),Ub (c.toNat % 16)]:=by
 unfold xu
 rw [List.flatMap_append,List.flatMap_cons,List.flatMap_nil,List.append_nil]
theorem Tv:∀ n:Fin 256,((n.1:Nat):Int) / 2 ^ min (4:Int).toNat IntKind.u8.bits=((n.1 / 16:Nat):Int):=by decide
theorem T3:∀ n:Fin 256,IntKind.u8.wrap ((BitVec.ofInt IntKind.u8.bits ((n.1:Nat):Int) &&& BitVec.ofInt IntKind.u8.bits 15).toNat:Nat)=((n.1 % 16:Nat):Int):=by decide
theorem XM {α:Type} {l:List α} {k:Nat} {x:α} (h:l[k]?=some x):l.take (k+1)=l.take k++[x]:=by
 rw [List.take_add_one,h];rfl
theorem IM (w0:Wd) (hE:Vf w0) (v:Vl) (l:List UInt8) (hs:zD w0 v l) (hz:l.length≤1000000000):Ret Pg 102 #[v] w0 λ r w'=>r = .string (mkB (Qh l))∧Ext w0 w':=by
 obtain ⟨A,c,rfl,hlc,hcm,hlm,Y1⟩:=Zc.open hs
 refine Zkf (R:=ZI _) ?_;unfold n40
 by_cases hl:l=[]
 · have d0:((l.length:Int) == 0)=true:=by rw [hl];rfl
   simp (disch:=try exact DI) only [↓PR,QR,simprocAttr,d0]
   exact ⟨by rw [hl];rfl,Ext.refl _⟩
 have hpos:0 < l.length:=List.length_pos_iff.2 hl
 have d0:((l.length:Int) == 0)=false:=by rw [beq_eq_false_iff_ne];omega
 simp (disch:=try exact DI) only [↓PR,QR,simprocAttr,d0]
 unfold Zcf
 simp (disch:=try exact DI) only [↓PR,QR,simprocAttr]
 have hB0:zC w0.heap.size w0.heap.size [] (w0.alloc (.cells #[.pointer none,.slice none 0 0] 159)):=Go.Lib.fresh_isBuilder _ _ w0
 have e0:Ext w0 (w0.alloc (.cells #[.pointer none,.slice none 0 0] 159)):=(Ext.refl w0).alloc _
 generalize (w0.alloc (.cells #[.pointer none,.slice none 0 0] 159))=V at hB0 e0 ⊢
 refine ZJ (λ i w=>∃ k:Nat,i = .int .i64 k∧k≤l.length∧Ext w0 w∧zC w0.heap.size w0.heap.size (xu (l.take k)) w) (λ i _=>l.length - (intOf i).toNat) ⟨0,rfl,by omega,e0,hB0⟩ ?_
 rintro _ w ⟨k,rfl,hk,e,hB⟩
 unfold Zce
 rcases ZT hk with ⟨x,hx,_,Yq,ZY⟩ | ⟨hk,_,ZY⟩
 · obtain ⟨b,o,cs,rfl,_,hA,rfl⟩:=Y1 k x hx
   have h256:x.toNat < 256:=x.toNat_lt
   have q1:=Tv ⟨x.toNat,h256⟩
   have q2:=T3 ⟨x.toNat,h256⟩
   simp only at q1 q2
   have w1:∀ n:Nat,n < 16→IntKind.u64.wrap (n:Int)=(n:Int):=λ n hn=>by
    have:∀ n:Fin 16,IntKind.u64.wrap (n.1:Int)=(n.1:Int):=by decide
    exact this ⟨n,hn⟩
   simp (disch:=try exact DI) only [↓PR,QR,simprocAttr,ZY]
   unfold Zcd
   simp (disch:=try exact DI) only [↓PR,QR,simprocAttr,hA.c1 e]
   rw [M4 _ _ _ _ 4 (by decide),q1]
   simp (disch:=try exact DI) only [↓PR,QR,simprocAttr]
   rw [w1 _ (by omega)]
   refine zcr (KT w (hE.ext e) (x.toNat / 16) (by omega)) λ w2 e2=>?_
   unfold Zcc
   simp (disch:=try exact DI) only [↓PR,QR,simprocAttr,Fa]
   rw [q2,w1 _ (by omega)]
   refine zcr (KT w2 (hE.ext (e.trans e2)) (x.toNat % 16) (by omega)) λ w3 e3=>?_
   unfold Zcb
   simp (disch:=try exact DI) only [↓PR,QR,simprocAttr]
   have E3:=e.trans (e2.trans e3)
   refine Zk (jn (hB.ext (e2.trans e3)) _ ?_ E3.size) ?_
   · have h1:(xu (l.take k)).length≤2*l.length:=by rw [Ay,List.length_take];omega
     rw [size_append]
     show _+(1+1)≤_
     omega
   rintro _ w4 ⟨hB4,h4⟩
   simp (disch:=try exact DI) only [↓PR,QR,simprocAttr]
   refine ⟨⟨k+1,rfl,Yq,TR E3 h4,?_⟩,Ya (kd := .i64) Yq⟩
   rw [XM hx,NR]
   exact hB4
 · subst hk
   rw [List.take_length] at hB
   simp (disch:=try exact DI) only [↓PR,QR,simprocAttr,ZY]
   refine Zk (Cg hB e.size) ?_
   rintro _ w2 ⟨rfl,h2⟩
   exact ⟨_,rfl,by unfold Qh;rw [if_neg hl];rfl,TR e h2⟩
def Qt:List UInt8:=[109,97,112,112,105,110,103]
def jt:List UInt8:=[109,97,112]
def G3:List UInt8:=[101,110,100]
def WD (n:BAr):List UInt8:=Qt++32::n.data.toList
def Q4 (r:MrD):List UInt8:=jt++32::(r.fr.data.toList++32::r.to.data.toList)
def Y4 (r:MrD):List (List UInt8):=Q4 r::(r.fields.map YY++[G3])
def Yx (m:Yo):List (List UInt8):=WD m.name::m.rules.flatMap Y4
def yZ (m:Yo):List UInt8:=Go.Lib.join (Yx m) [10]++[10]
def V8 (m:Yo):BAr:=mkB (yZ m)
def Wv (r:MrD):Bool:=Z4 r.fr&&(Z4 r.to&&r.fields.all Yu)
def Ug (m:Yo):Bool:=Z4 m.name&&m.rules.all Wv
def okR (r:MrD):Bool:=Z4 r.fr&&(Z4 r.to&&r.fields.all okF)
def okM (m:Yo):Bool:=Z4 m.name&&m.rules.all okR
theorem Zel {r:MrD} (h:Wv r=true) (hi:∀ x∈r.fields,inF x=true):okR r=true:=by
 unfold Wv at h
 unfold okR
 simp only [Bool.and_eq_true,List.all_eq_true] at h ⊢
 exact ⟨h.1,h.2.1,λ x hx=>by unfold okF;rw [h.2.2 x hx,hi x hx];rfl⟩
theorem Zek {m:Yo} (h:Ug m=true) (hi:∀ r∈m.rules,∀ x∈r.fields,inF x=true):okM m=true:=by
 unfold Ug at h
 unfold okM
 simp only [Bool.and_eq_true,List.all_eq_true] at h ⊢
 exact ⟨h.1,λ r hr=>Zel (h.2 r hr) (hi r hr)⟩
theorem FW {r:MrD} (h:okR r=true):Wv r=true∧∀ x∈r.fields,inF x=true:=by
 unfold okR at h
 unfold Wv
 simp only [Bool.and_eq_true,List.all_eq_true] at h ⊢
 have k:∀ x∈r.fields,Yu x=true∧inF x=true:=λ x hx=>by
  have:=h.2.2 x hx
  unfold okF at this
  simpa only [Bool.and_eq_true] using this
 exact ⟨⟨h.1,h.2.1,λ x hx=>(k x hx).1⟩,λ x hx=>(k x hx).2⟩
theorem Ap {m:Yo} (h:okM m=true):Ug m=true∧∀ r∈m.rules,∀ x∈r.fields,inF x=true:=by
 unfold okM at h
 unfold Ug
 simp only [Bool.and_eq_true,List.all_eq_true] at h ⊢
 exact ⟨⟨h.1,λ r hr=>(FW (h.2 r hr)).1⟩,λ r hr=>(FW (h.2 r hr)).2⟩
structure PsD where
 name:BAr
 done:List MrD
 cur:Option MrD
def GC:List (List UInt8)→Option BAr
 | [a,b]=>if a=Qt∧Z4 (mkB b)=true then some (mkB b) else none
 | _=>none
def GI:List (List UInt8)→Option (BAr×BAr)
 | [a,b,c]=>if a=jt∧(Z4 (mkB b)=true∧Z4 (mkB c)=true) then some (mkB b,mkB c) else none
 | _=>none
noncomputable def X1 (s:PsD) (i:Nat) (l:List UInt8):Option PsD:=
 if i=0 then (GC (Yi 32 l)).map λ n=>{ s with name:=n }
 else match s.cur with
  | some r=>if l=G3 then some ⟨s.name,s.done++[r],none⟩ else (QB l).map λ x=>⟨s.name,s.done,some ⟨r.fr,r.to,r.fields++[x]⟩⟩
  | none=>(GI (Yi 32 l)).map λ q=>⟨s.name,s.done,some ⟨q.1,q.2,[]⟩⟩
noncomputable def goQ (s:PsD) (i:Nat):List (List UInt8)→Option Yo×Nat
 | []=>(none,i+1)
 | [l]=>if l=[]∧(0 < i∧s.cur=none) then (some ⟨s.name,s.done⟩,0) else (none,i+1)
 | l::x::L=>match X1 s i l with
  | some s'=>goQ s' (i+1) (x::L)
  | none=>(none,i+1)
def jl:PsD:=⟨ByteArray.empty,[],none⟩
noncomputable def Uy (s:BAr):Option Yo×Nat:=goQ jl 0 (Yi 10 s.data.toList)
theorem W3 {s s':PsD} {i:Nat} {l:List UInt8} {L:List (List UInt8)} (hL:L≠[]) (h:X1 s i l=some s'):goQ s i (l::L)=goQ s' (i+1) L:=by
 cases L with
 | nil=>exact absurd rfl hL
 | cons x L=>rw [goQ,h]
theorem Aw {s:PsD} {i:Nat} {l:List UInt8} {L:List (List UInt8)} (hL:L≠[]) (h:X1 s i l=none):goQ s i (l::L)=(none,i+1):=by
 cases L with
 | nil=>exact absurd rfl hL
 | cons x L=>rw [goQ,h]
theorem FR:(32:UInt8) ∉ G3∧(10:UInt8) ∉ G3:=by unfold G3;decide
theorem Za6 {r:MrD} (h1:Z4 r.fr=true) (h2:Z4 r.to=true):(10:UInt8) ∉ Q4 r:=by
 unfold Q4
 intro h
 rcases List.mem_append.1 h with h | h
 · revert h;unfold jt;decide
 rcases List.mem_cons.1 h with h | h
 · cases h
 rcases List.mem_append.1 h with h | h
 · exact Wj h1 (by decide) h
 rcases List.mem_cons.1 h with h | h
 · cases h
 · exact Wj h2 (by decide) h
theorem Zaw {n:BAr} (h1:Z4 n=true):(10:UInt8) ∉ WD n:=by
 unfold WD
 intro h
 rcases List.mem_append.1 h with h | h
 · revert h;unfold Qt;decide
 rcases List.mem_cons.1 h with h | h
 · cases h
 · exact Wj h1 (by decide) h
theorem Dc {c d:UInt8} (h:c≠d):∀ {xs:List (List UInt8)},(∀ x∈xs,c ∉ x)→c ∉ Go.Lib.join xs [d]
 | [],_=>by simp [Go.Lib.join]
 | [x],hx=>by rw [Go.Lib.join_one];exact hx x (List.mem_cons_self ..)
 | x::y::r,hx=>by
  rw [Qs]
  intro hm
  rcases List.mem_append.1 hm with hm | hm
  · exact hx x (List.mem_cons_self ..) hm
  rcases List.mem_cons.1 hm with hm | hm
  · exact h hm
  · exact Dc h (λ z hz=>hx z (List.mem_cons_of_mem _ hz)) hm
theorem ZaM {r:FrD} (h:Yu r=true):(10:UInt8) ∉ YY r:=Dc (by decide) (TV h)
theorem Oj {r:MrD} (h:Wv r=true):∀ x∈Y4 r,(10:UInt8) ∉ x:=by
 unfold Wv at h
 simp only [Bool.and_eq_true,List.all_eq_true] at h
 intro x hx
 unfold Y4 at hx
 rcases List.mem_cons.1 hx with rfl | hx
 · exact Za6 h.1 h.2.1
 rcases List.mem_append.1 hx with hx | hx
 · obtain ⟨y,hy,rfl⟩:=List.mem_map.1 hx
   exact ZaM (h.2.2 y hy)
 · rw [List.mem_singleton.1 hx]
   exact FR.2
theorem PV {m:Yo} (h:Ug m=true):∀ x∈Yx m,(10:UInt8) ∉ x:=by
 unfold Ug at h
 simp only [Bool.and_eq_true,List.all_eq_true] at h
 intro x hx
 unfold Yx at hx
 rcases List.mem_cons.1 hx with rfl | hx
 · exact Zaw h.1
 · obtain ⟨r,hr,hx⟩:=List.mem_flatMap.1 hx
   exact Oj (h.2 r hr) x hx
theorem Hj (c:UInt8):∀ {xs:List (List UInt8)},xs≠[]→Go.Lib.join (xs++[[]]) [c]=Go.Lib.join xs [c]++[c]
 | [],h=>absurd rfl h
 | [x],_=>by
  show Go.Lib.join (x::[]::[]) [c]=_
  rw [Qs,Go.Lib.join_one,Go.Lib.join_one]
 | x::y::r,_=>by
  have ih:=Hj c (xs:=y::r) (by simp)
  show Go.Lib.join (x::y::(r++[[]])) [c]=_
  rw [Qs,Qs]
  rw [List.cons_append] at ih
  rw [ih,List.append_assoc,List.cons_append]
theorem DM (m:Yo):yZ m=Go.Lib.join (Yx m++[[]]) [10]:=by
 unfold yZ
 rw [Hj 10 (by unfold Yx;simp)]
theorem B3 {m:Yo} (h:Ug m=true):Yi 10 (yZ m)=Yx m++[[]]:=by
 rw [DM]
 refine xp 10 (by simp) λ x hx=>?_
 rcases List.mem_append.1 hx with hx | hx
 · exact PV h x hx
 · rw [List.mem_singleton.1 hx]
   simp
theorem PQ {r:FrD} (h:Yu r=true):YY r≠G3:=by
 intro e
 have h1:=z7 h
 rw [e,UO FR.1] at h1
 have:=congrArg List.length h1
 unfold YV at this
 simp at this
theorem S9 {r:MrD} (h1:Z4 r.fr=true) (h2:Z4 r.to=true):Yi 32 (Q4 r)=[jt,r.fr.data.toList,r.to.data.toList]:=by
 unfold Q4
 rw [UP _ (by unfold jt;decide),UP _ (Wj h1 (by decide)),UO (Wj h2 (by decide))]
theorem PB {n:BAr} (h:Z4 n=true):Yi 32 (WD n)=[Qt,n.data.toList]:=by
 unfold WD
 rw [UP _ (by unfold Qt;decide),UO (Wj h (by decide))]
theorem Zax {n:BAr} (h:Z4 n=true):GC (Yi 32 (WD n))=some n:=by
 rw [PB h]
 show (if Qt=Qt∧Z4 (mkB n.data.toList)=true then some (mkB n.data.toList) else none)=_
 rw [AM,if_pos ⟨rfl,h⟩]
theorem Za7 {r:MrD} (h1:Z4 r.fr=true) (h2:Z4 r.to=true):GI (Yi 32 (Q4 r))=some (r.fr,r.to):=by
 rw [S9 h1 h2]
 show (if jt=jt∧(Z4 (mkB r.fr.data.toList)=true∧Z4 (mkB r.to.data.toList)=true) then some (mkB r.fr.data.toList,mkB r.to.data.toList) else none)=_
 rw [AM,AM,if_pos ⟨rfl,h1,h2⟩]
theorem CV {nm:BAr} {done:List MrD} {T:List (List UInt8)} (hT:T≠[]):∀ (fs:List FrD) (r:MrD) (i:Nat),0 < i→(∀ x∈fs,okF x=true) →
 goQ ⟨nm,done,some r⟩ i (fs.map YY++G3::T)=goQ ⟨nm,done++[⟨r.fr,r.to,r.fields++fs⟩],none⟩ (i+fs.length+1) T
 | [],r,i,hi,_=>by
  rw [List.map_nil,List.nil_append,W3 hT (s':=⟨nm,done++[r],none⟩),List.append_nil]
  · rfl
  · unfold X1
    rw [if_neg (by omega)]
    simp only [if_true]
 | x::fs,r,i,hi,h=>by
  have hx:=h x (List.mem_cons_self ..)
  have px:Yu x=true:=by unfold okF at hx;rw [Bool.and_eq_true] at hx;exact hx.1
  have hs:X1 ⟨nm,done,some r⟩ i (YY x)=some ⟨nm,done,some ⟨r.fr,r.to,r.fields++[x]⟩⟩:=by
   unfold X1
   rw [if_neg (by omega)]
   simp only
   rw [if_neg (PQ px),VN.2 ⟨hx,rfl⟩,Option.map_some]
  rw [List.map_cons,List.cons_append,W3 (by simp) hs,CV hT fs _ (i+1) (by omega) λ y hy=>h y (List.mem_cons_of_mem _ hy)]
  simp only [List.append_assoc,List.cons_append,List.nil_append,List.length_cons]
  rw [show i+1+fs.length+1=i+(fs.length+1)+1 by omega]
theorem F2 {nm:BAr}:∀ (rs done:List MrD) (i:Nat),0 < i→(∀ r∈rs,okR r=true)→goQ ⟨nm,done,none⟩ i (rs.flatMap Y4++[[]])=(some ⟨nm,done++rs⟩,0)
 | [],done,i,hi,_=>by
  rw [List.flatMap_nil,List.nil_append,goQ,if_pos ⟨rfl,hi,rfl⟩,List.append_nil]
 | r::rs,done,i,hi,h=>by
  have hr:=h r (List.mem_cons_self ..)
  unfold okR at hr
  simp only [Bool.and_eq_true,List.all_eq_true] at hr
  have hs:X1 ⟨nm,done,none⟩ i (Q4 r)=some ⟨nm,done,some ⟨r.fr,r.to,[]⟩⟩:=by
   unfold X1
   rw [if_neg (by omega)]
   simp only
   rw [Za7 hr.1 hr.2.1,Option.map_some]
  have he:(r::rs).flatMap Y4++[[]]=Q4 r::(r.fields.map YY++G3::(rs.flatMap Y4++[[]])):=by
   rw [List.flatMap_cons]
   unfold Y4
   simp only [List.cons_append,List.append_assoc,List.nil_append]
  rw [he,W3 (by simp) hs,CV (by simp) r.fields _ (i+1) (by omega) hr.2.2,F2 rs _ _ (by omega) λ y hy=>h y (List.mem_cons_of_mem _ hy)]
  simp only [List.nil_append,List.append_assoc,List.cons_append]
theorem LM {m:Yo} (h:okM m=true):Uy (V8 m)=(some m,0):=by
 have hf:=(Ap h).1
 unfold okM at h
 simp only [Bool.and_eq_true,List.all_eq_true] at h
 unfold Uy V8
 show goQ jl 0 (Yi 10 (yZ m))=_
 rw [B3 hf]
 unfold Yx
 rw [List.cons_append,W3 (by simp) (s':=⟨m.name,[],none⟩),F2 _ _ _ (by omega) h.2,List.nil_append]
 unfold X1
 rw [if_pos rfl,Zax h.1,Option.map_some]
 rfl
theorem Qu (l:List UInt8):(mkB l).data.toList=l:=by unfold mkB;exact OF l
theorem PC {l:List UInt8} {n:BAr} (h:GC (Yi 32 l)=some n):l=WD n∧Z4 n=true:=by
 have hj:=Gi 32 l
 generalize Yi 32 l=w at h hj
 unfold GC at h
 split at h
 · rename_i a b
   split at h
   · rename_i hc
     injection h with h
     subst h
     refine ⟨?_,hc.2⟩
     rw [← hj,Qs,Go.Lib.join_one,hc.1]
     unfold WD
     rw [Qu]
   · cases h
 · cases h
theorem Ta {l:List UInt8} {a b:BAr} {fs:List FrD} (h:GI (Yi 32 l)=some (a,b)):l=Q4 ⟨a,b,fs⟩∧Z4 a=true∧Z4 b=true:=by
 have hj:=Gi 32 l
 generalize Yi 32 l=w at h hj
 unfold GI at h
 split at h
 · rename_i x y z
   split at h
   · rename_i hc
     injection h with h
     injection h with h1 h2
     subst h1 h2
     refine ⟨?_,hc.2.1,hc.2.2⟩
     rw [← hj,Qs,Qs,Go.Lib.join_one,hc.1]
     unfold Q4
     rw [Qu,Qu]
   · cases h
 · cases h
def BC (s:PsD):List (List UInt8):=WD s.name::(s.done.flatMap Y4++(match s.cur with | none=>[] | some r=>Q4 r::r.fields.map YY))
def okQ (s:PsD):Prop:=Z4 s.name=true∧(∀ r∈s.done,okR r=true)∧∀ r,s.cur=some r→okR r=true
theorem SR {r:MrD} {x:FrD} (h:okR r=true) (hx:okF x=true):okR ⟨r.fr,r.to,r.fields++[x]⟩=true:=by
 unfold okR at h ⊢
 simp only [Bool.and_eq_true,List.all_eq_true] at h ⊢
 refine ⟨h.1,h.2.1,λ y hy=>?_⟩
 rcases List.mem_append.1 hy with hy | hy
 · exact h.2.2 y hy
 · rw [List.mem_singleton.1 hy];exact hx
theorem TG {s s':PsD} {i:Nat} {l:List UInt8} (hi:0 < i) (hs:okQ s) (h:X1 s i l=some s'):BC s'=BC s++[l]∧okQ s':=by
 obtain ⟨nm,done,cur⟩:=s
 obtain ⟨h1,h2,h3⟩:=hs
 unfold X1 at h
 rw [if_neg (by omega)] at h
 cases cur with
 | some r=>
  simp only at h
  by_cases hl:l=G3
  · rw [if_pos hl] at h
    injection h with h
    subst h
    refine ⟨?_,h1,λ x hx=>?_,λ x hx=>by cases hx⟩
    · unfold BC
      simp only [List.flatMap_append,List.flatMap_cons,List.flatMap_nil,List.append_nil,hl]
      unfold Y4
      simp only [List.cons_append,List.append_assoc]
    · rcases List.mem_append.1 hx with hx | hx
      · exact h2 x hx
      · rw [List.mem_singleton.1 hx];exact h3 r rfl
  · rw [if_neg hl] at h
    cases ho:QB l with
    | none=>rw [ho] at h;cases h
    | some x=>
     rw [ho,Option.map_some] at h
     injection h with h
     subst h
     obtain ⟨hx,hlx⟩:=VN.1 ho
     refine ⟨?_,h1,h2,λ y hy=>?_⟩
     · unfold BC
       simp only [List.map_append,List.map_cons,List.map_nil,hlx,List.cons_append,List.append_assoc]
       rfl
     · injection hy with hy
       subst hy
       exact SR (h3 r rfl) hx
 | none=>
  simp only at h
  cases ho:GI (Yi 32 l) with
  | none=>rw [ho] at h;cases h
  | some q=>
   rw [ho,Option.map_some] at h
   injection h with h
   subst h
   obtain ⟨a,b⟩:=q
   obtain ⟨hl,ha,hb⟩:=Ta (fs:=[]) ho
   refine ⟨?_,h1,h2,λ y hy=>?_⟩
   · unfold BC
     simp only [List.map_nil,hl,List.append_nil,List.cons_append]
   · injection hy with hy
     subst hy
     unfold okR
     simp only [ha,hb,List.all_nil,Bool.and_self]
theorem Pt:∀ (L:List (List UInt8)) (s:PsD) (i n:Nat) (m:Yo),0 < i→okQ s→goQ s i L=(some m,n)→BC s++L=Yx m++[[]]∧okM m=true∧n=0
 | [],_,_,_,_,_,_,h=>by cases h
 | [l],s,i,n,m,hi,hs,h=>by
  rw [goQ] at h
  split at h
  · rename_i hc
    injection h with h1 h2
    injection h1 with h1
    subst h1 h2
    obtain ⟨nm,done,cur⟩:=s
    obtain ⟨rfl,_,hc⟩:=hc
    simp only at hc
    subst hc
    refine ⟨?_,?_,rfl⟩
    · unfold BC Yx
      simp only [List.append_nil]
    · unfold okM
      simp only [Bool.and_eq_true,List.all_eq_true]
      exact ⟨hs.1,hs.2.1⟩
  · cases h
 | l::x::L,s,i,n,m,hi,hs,h=>by
  cases hst:X1 s i l with
  | none=>rw [Aw (by simp) hst] at h;cases h
  | some s'=>
   rw [W3 (by simp) hst] at h
   obtain ⟨a1,a2⟩:=TG hi hs hst
   obtain ⟨b1,b2⟩:=Pt (x::L) s' (i+1) n m (by omega) a2 h
   exact ⟨by rw [← b1,a1,List.append_assoc];rfl,b2⟩
theorem Ml {s:BAr} {m:Yo} {n:Nat} (h:Uy s=(some m,n)):V8 m=s∧okM m=true∧n=0:=by
 unfold Uy at h
 have hj:=Gi 10 s.data.toList
 generalize Yi 10 s.data.toList=L at h hj
 cases L with
 | nil=>cases h
 | cons l L=>
  cases L with
  | nil=>
   rw [goQ,if_neg (by omega)] at h
   cases h
  | cons x L=>
   cases hst:X1 jl 0 l with
   | none=>rw [Aw (by simp) hst] at h;cases h
   | some s'=>
    rw [W3 (by simp) hst] at h
    unfold X1 at hst
    rw [if_pos rfl] at hst
    cases ho:GC (Yi 32 l) with
    | none=>rw [ho] at hst;cases hst
    | some nm=>
     rw [ho,Option.map_some] at hst
     injection hst with hst
     subst hst
     obtain ⟨hl,hn⟩:=PC ho
     obtain ⟨a1,a2,a3⟩:=Pt (x::L) ⟨nm,[],none⟩ 1 n m (by omega) ⟨hn,λ r hr=>(by cases hr),λ r hr=>(by cases hr)⟩ h
     refine ⟨?_,a2,a3⟩
     have:l::x::L=Yx m++[[]]:=by
      rw [← a1,hl]
      rfl
     unfold V8
     rw [DM,← this,hj,AM]
def XI (c:UInt8):List (List UInt8)→List (List UInt8)
 | []=>[]
 | [x]=>[x]
 | x::y::r=>(x++[c])::XI c (y::r)
theorem OA (sep:List UInt8) (sv k:Nat) (s:List UInt8):Go.Lib.splitK sep sv k s≠[]:=by
 cases k with
 | zero=>simp [Go.Lib.splitK]
 | succ k=>unfold Go.Lib.splitK;split<;>simp
theorem FD (c:UInt8) (x:List UInt8) {l:List (List UInt8)} (h:l≠[]):XI c (x::l)=(x++[c])::XI c l:=by
 cases l with
 | nil=>exact absurd rfl h
 | cons y r=>rfl
theorem Iy {c:UInt8} {L:List (List UInt8)} {x:List UInt8} (h:XI c L=[x]) (hL:L≠[]):L=[x]:=by
 cases L with
 | nil=>exact absurd rfl hL
 | cons a l=>
  cases l with
  | nil=>exact h
  | cons b r=>
   cases r<;>simp [XI] at h
theorem yY (c:UInt8):∀ s:List UInt8,Go.Lib.splitK [c] 1 (Go.Lib.count s [c]) s=XI c (Yi c s)
 | []=>by rw [Go.Lib.count_one];rfl
 | b::l=>by
  have ih:=yY c l
  by_cases h:b=c
  · subst h
    rw [Go.Lib.count_cons_eq,Nat.add_comm,Go.Lib.splitK,Hh,if_neg (by decide),WI,FD _ _ (WV _ _),← ih]
    rfl
  · rw [Go.Lib.count_cons_ne b c l h]
    cases hk:Go.Lib.count l [c] with
    | zero=>
     rw [hk] at ih
     have h1:=Iy ih.symm (WV _ _)
     rw [X2 h h1]
     rfl
    | succ k=>
     rw [hk] at ih
     have hge:=Go.Lib.index_ge l [c]
     have hm:Go.Lib.index l [c] ≠ -1:=λ e=>by rw [Go.Lib.count_miss e] at hk;cases hk
     obtain ⟨i,hi⟩:∃ i:Nat,Go.Lib.index l [c]=i:=⟨(Go.Lib.index l [c]).toNat,by omega⟩
     have n1:¬ (((i:Int) == -1)=true):=λ e=>by have:=beq_iff_eq.1 e;omega
     have n2:¬ ((((i:Int)+1) == -1)=true):=λ e=>by have:=beq_iff_eq.1 e;omega
     have t2:((i:Int)+1).toNat=i+1:=by omega
     rw [Go.Lib.splitK,hi,if_neg n1] at ih
     rw [Go.Lib.splitK,Hi l h,hi,if_neg n1,if_neg n2,t2]
     cases hL:Yi c l with
     | nil=>exact absurd hL (WV _ _)
     | cons x r=>
      cases r with
      | nil=>
       rw [hL] at ih
       injection ih with _ h2
       exact absurd h2 (OA _ _ _ _)
      | cons y r=>
       rw [hL] at ih
       rw [X2 h hL]
       injection ih with h1 h2
       show _=((b::x)++[c])::XI c (y::r)
       rw [← h2,List.cons_append,← h1]
       simp only [Int.toNat_natCast,List.length_singleton,List.take_succ_cons,List.drop_succ_cons]
theorem If (c:UInt8) (s:BAr):Go.Lib.splitB ⟨#[c]⟩ 1 (Go.Lib.countB s ⟨#[c]⟩) s=(XI c (Yi c s.data.toList)).map mkB:=by
 have h:=Go.Lib.splitB_data ⟨#[c]⟩ 1 (Go.Lib.countB s ⟨#[c]⟩) s
 have hs:Go.Lib.splitK [c] 1 (Go.Lib.countB s ⟨#[c]⟩) s.data.toList=XI c (Yi c s.data.toList):=yY c s.data.toList
 have h:(Go.Lib.splitB ⟨#[c]⟩ 1 (Go.Lib.countB s ⟨#[c]⟩) s).map (·.data.toList)=XI c (Yi c s.data.toList):=h.trans hs
 rw [← h,List.map_map]
 have:(mkB ∘ λ x:BAr=>x.data.toList)=id:=by funext x;rfl
 rw [this,List.map_id]
theorem GV (c:UInt8):∀ L:List (List UInt8),(XI c L).length=L.length
 | []=>rfl
 | [_]=>rfl
 | x::y::r=>by
  have:=GV c (y::r)
  show (XI c (y::r)).length+1=_
  rw [this]
  rfl
theorem CL {c:UInt8}:∀ {L:List (List UInt8)} {k:Nat} {x:List UInt8},L[k]?=some x→k+1 < L.length→(XI c L)[k]?=some (x++[c])
 | [],_,_,h,_=>by cases h
 | [_],k,_,_,hk=>by simp at hk
 | a::b::r,0,x,h,_=>by
  injection h with h
  subst h
  rfl
 | a::b::r,k+1,x,h,hk=>CL (L:=b::r) (k:=k) h (by simpa using hk)
theorem qp {c:UInt8}:∀ {L:List (List UInt8)} {k:Nat} {x:List UInt8},L[k]?=some x→k+1=L.length→(XI c L)[k]?=some x
 | [],_,_,h,_=>by cases h
 | [_],0,_,h,_=>h
 | [_],k+1,_,_,hk=>by simp at hk
 | a::b::r,0,x,h,hk=>by simp at hk
 | a::b::r,k+1,x,h,hk=>qp (L:=b::r) (k:=k) h (by simpa using hk)
theorem zT {c:UInt8}:∀ {l x:List UInt8},x∈Yi c l→c ∉ x
 | [],x,h=>by
  rw [show Yi c []=[[]] from rfl,List.mem_singleton] at h
  subst h
  simp
 | b::l,x,h=>by
  by_cases hb:b=c
  · subst hb
    rw [WI] at h
    rcases List.mem_cons.1 h with rfl | h
    · simp
    · exact zT h
  · cases hL:Yi c l with
    | nil=>exact absurd hL (WV _ _)
    | cons y r=>
     rw [X2 hb hL] at h
     rcases List.mem_cons.1 h with rfl | h
     · intro hm
       rcases List.mem_cons.1 hm with hm | hm
       · exact hb hm.symm
       · exact zT (l:=l) (by rw [hL];exact List.mem_cons_self ..) hm
     · exact zT (l:=l) (by rw [hL];exact List.mem_cons_of_mem _ h)
theorem UQ {c:UInt8}:∀ {l x:List UInt8},x∈Yi c l→x.length≤l.length
 | [],x,h=>by
  rw [show Yi c []=[[]] from rfl,List.mem_singleton] at h
  subst h
  exact Nat.le_refl _
 | b::l,x,h=>by
  by_cases hb:b=c
  · subst hb
    rw [WI] at h
    rcases List.mem_cons.1 h with rfl | h
    · simp
    · exact Nat.le_succ_of_le (UQ h)
  · cases hL:Yi c l with
    | nil=>exact absurd hL (WV _ _)
    | cons y r=>
     rw [X2 hb hL] at h
     rcases List.mem_cons.1 h with rfl | h
     · rw [List.length_cons,List.length_cons]
       exact Nat.succ_le_succ (UQ (l:=l) (by rw [hL];exact List.mem_cons_self ..))
     · exact Nat.le_succ_of_le (UQ (l:=l) (by rw [hL];exact List.mem_cons_of_mem _ h))
theorem Mj (c:UInt8) (x:List UInt8):Go.Lib.hasSuffix (x++[c]) [c]=true∧Go.Lib.trimSuffix (x++[c]) [c]=x:=by
 have h:Go.Lib.hasSuffix (x++[c]) [c]=true:=by simp [Go.Lib.hasSuffix]
 refine ⟨h,?_⟩
 unfold Go.Lib.trimSuffix
 rw [h]
 simp
theorem OD {c:UInt8} {x:List UInt8} (hx:c ∉ x):Go.Lib.hasSuffix x [c]=false∧Go.Lib.trimSuffix x [c]=x:=by
 have h:Go.Lib.hasSuffix x [c]=false:=by
  cases hs:Go.Lib.hasSuffix x [c] with
  | false=>rfl
  | true=>
   exfalso
   simp [Go.Lib.hasSuffix] at hs
   exact hx (hs.mem (List.mem_singleton.2 rfl))
 refine ⟨h,?_⟩
 unfold Go.Lib.trimSuffix
 rw [h]
 simp
def Bq (b d e:Vl) (R:RT) (w:Wd):Prop:=
 Zo (λ (a:Vl) (w:Wd)=>
 Zy b a (.bool false) λ f=>
 R (.returned f) w) λ c=>
 Zn b true (
 Zy d (.bool true) e λ a=>
 c a w) (
 c undef w)
def Dm (d e b:Vl) (R:RT) (w:Wd):Prop:=
 Zo (λ (a:Vl) (w:Wd)=>
 Bq e b a R w) λ c=>
 Zn b false (
 F0 43 d 2 R w λ f w=>
 L0 9 f R w λ g w=>
 opV Pg (buildSlice 94 1 #[(0,g)]) (Zd R) w λ h w=>
 C0 52 #[h] R w λ a w=>
 c a w) (
 c undef w)
def Dn (c d e f:Vl) (R:RT) (w:Wd):Prop:=
 Zy e f (.bool false) λ a=>
 Zo (λ (g:Vl) (w:Wd)=>
 Dm c a g R w) λ b=>
 Zn a true (
 F0 105 d 0 R w λ h w=>
 L0 4 h R w λ i w=>
 N0 i R w λ j w=>
 b j w) (
 b undef w)
def MQ (b e f g:Vl) (R:RT) (w:Wd):Prop:=
 Zy f g (.bool false) λ c=>
 Zo (λ (a:Vl) (w:Wd)=>
 Dn b e c a R w) λ d=>
 Zn c true (
 F0 43 b 0 R w λ h w=>
 L0 9 h R w λ i w=>
 opV Pg (ZF .neq 9 true i (.string { data := #[101,110,100] })) (Zd R) w λ a w=>
 d a w) (
 d undef w)
def RM (b e f g:Vl) (R:RT) (w:Wd):Prop:=
 Zy f g (.bool false) λ c=>
 Zo (λ (a:Vl) (w:Wd)=>
 MQ b e c a R w) λ d=>
 Zn c true (
 F0 43 b 0 R w λ h w=>
 L0 9 h R w λ i w=>
 opV Pg (buildSlice 94 1 #[(0,i)]) (Zd R) w λ j w=>
 C0 52 #[j] R w λ a w=>
 d a w) (
 d undef w)
def RN (b c d:Vl) (R:RT) (w:Wd):Prop:=
 Zo (λ (a:Vl) (w:Wd)=>
 RM b c d a R w) λ e=>
 Zn d true (
 L0 43 b R w λ f w=>
 L0 105 c R w λ g w=>
 C0 97 #[f,g] R w λ a w=>
 e a w) (
 e undef w)
def Zcn (d e:Vl) (a:WPr) (f:KW) (R:RT) (w:Wd):Prop:=
 qV Pg a (lookup 106 d e true) λ b=>
 qV Pg a (extract b 0) λ g=>
 qV Pg a (extract b 1) λ h=>
 opV Pg (alloc 105 true (.tuple #[])) (Zd R) w λ c w=>
 a w∧(
 S0 105 c g R w λ w=>
 a w∧(
 f c h w))
def Zco (b d e:Vl) (a:WPr) (f:KW) (R:RT) (w:Wd):Prop:=
 qV Pg a (lookup 106 d e true) λ c=>
 qV Pg a (extract c 0) λ g=>
 qV Pg a (extract c 1) λ h=>
 S0 105 b g R w λ w=>
 a w∧(
 f b h w)
def Zcp (d:Vl) (a:WPr) (R:RT) (w:Wd):Prop:=
 J0 43 d 1 a λ g=>
 I0 39 g a λ e=>
 Zo (λ (b:Vl) (h:Vl) (w:Wd)=>
 RN d b h R w) λ f=>
 (
 C0 57 #[] R w λ c w=>
 Qk a w λ i w=>
 Zcn c e i f R w)∧(
 opV Pg (alloc 105 true (.tuple #[])) (Zd R) w λ b w=>
 a w∧(
 C0 57 #[] R w λ c w=>
 Qk a w λ j w=>
 Zco b c e j f R w))
def n47 (a:Vl) (R:RT) (w:Wd):Prop:=
 opV Pg (box 43 a) (Zd R) w λ b w=>
 Yg w λ c w=>
 Zcp b c R w
theorem Zkm {t0:Vl} {R:RT} {w:Wd} (h:n47 t0 R w):Calls Pg 58 #[t0] w R:=by
 refine yD func58 ?_
 refine zs<|zr<|yv h λ _ w h=>zm<|zn<|zk<|zs<|yh [3,4,5,6,7,8,9,10,11] h λ C hC h=>ye 1 hC h λ _ h=>?_
 refine ye 2 hC h λ _ h=>?_
 refine QH h (λ K2 hK h=>?_)
 refine Wo [3,4,5,6,9,10,11] (λ ρ w=>K2 (ρ 3) (ρ 4) w) (λ T hT=>?_) (λ σ w h=>?_)
 · obtain ⟨h0,h1⟩:=h
   refine Xm 0 7 rfl rfl (by kernel_rfl) (λ _ _=>rfl) (λ _ _=>rfl) ?_ ?_
   · have h:=h0
     refine yc h c57 λ _ w h=>zn ?_
     obtain ⟨C9,hs,hC,h⟩:=h
     refine ⟨C9,hs,hC,?_⟩
     refine ye 3 hC h λ _ h=>?_
     refine yw 4 hC ?_
     refine ye 5 hC h λ _ h=>?_
     refine ye 6 hC h λ _ h=>?_
     refine yo 7 ?_
     refine yv h λ _ w h=>zn ?_
     obtain ⟨hC,h⟩:=h
     refine ⟨hC,?_⟩
     refine yo 8 ?_
     refine yu h λ w h=>zn ?_
     obtain ⟨hC,h⟩:=h
     refine ⟨hC,?_⟩
     refine yw 9 hC ?_
     refine yz ?_
     exact zt hT h
   have h:=h1
   refine yv h λ _ w h=>zn ?_
   obtain ⟨hC,h⟩:=h
   refine ⟨_,λ _ h=>h,hC,?_⟩
   refine yr 0 ?_
   refine yc h c57 λ _ w h=>zn ?_
   obtain ⟨C10,hs,hC,h⟩:=h
   refine ⟨C10,hs,hC,?_⟩
   refine ye 3 hC h λ _ h=>?_
   refine yw 4 hC ?_
   refine ye 5 hC h λ _ h=>?_
   refine ye 6 hC h λ _ h=>?_
   refine yo 8 ?_
   refine yu h λ w h=>zn ?_
   obtain ⟨hC,h⟩:=h
   refine ⟨hC,?_⟩
   refine yw 9 hC ?_
   refine yz ?_
   exact zt hT h
 subst hK
 refine zk<|zs<|Zt<|yG 2<|zm<|zm<|zn<|yg1 3 1 true [14,15,16] 16 h (λ _ T hT h=>?_) λ σ w h=>?_
 · refine yv h λ _ w h=>yv h λ _ w h=>yc h c97 λ _ w h=>zn ?_
   exact zt hT h
 refine yG 2<|yp h λ _ h=>zm<|zn<|yg1 4 6 true [19,20,21,22] 22 h (λ _ T hT h=>?_) λ σ w h=>?_
 · refine yv h λ _ w h=>yv h λ _ w h=>yS h λ _ w h=>yc h c52 λ _ w h=>zn ?_
   exact zt hT h
 refine yG 2<|yp h λ _ h=>zm<|zn<|yg1 3 12 true [25,26,27] 27 h (λ _ T hT h=>?_) λ σ w h=>?_
 · refine yv h λ _ w h=>yv h λ _ w h=>yb h λ _ w h=>zn ?_
   exact zt hT h
 refine yG 2<|yp h λ _ h=>zm<|zn<|yg1 4 17 true [30,31,32,33] 33 h (λ _ T hT h=>?_) λ σ w h=>?_
 · refine yv h λ _ w h=>yv h λ _ w h=>yv h λ _ w h=>zm<|zn ?_
   exact zt hT h
 refine yg1 4 21 false [34,35,36,37] 37 h (λ _ T hT h=>?_) λ σ w h=>?_
 · refine yv h λ _ w h=>yv h λ _ w h=>yS h λ _ w h=>yc h c52 λ _ w h=>zn ?_
   exact zt hT h
 refine yg1 1 17 true [38] 38 h (λ _ T hT h=>?_) λ σ w h=>?_
 · refine yp h λ _ h=>zn ?_
   exact zt hT h
 exact yG 2<|yp h λ _ h=>zm<|zn<|ZK<|zk<|Zg<|Zi rfl rfl h
def Zcq (b:Vl) (a:WPr) (R:RT) (w:Wd):Prop:=
 J0 43 b 0 a λ c=>
 I0 9 c a λ d=>
 J0 43 b 2 a λ e=>
 I0 9 e a λ f=>
 J0 43 b 3 a λ g=>
 I0 3 g a λ h=>
 C0 101 #[h] R w λ i w=>
 a w∧(
 opV Pg (buildSlice 94 4 #[(0,d),(1,(.string { data := #[97,100,100] })),(2,f),(3,i)]) (Zd R) w λ j w=>
 a w∧(
 R (.returned j) w))
def Zcr (b:Vl) (a:WPr) (R:RT) (w:Wd):Prop:=
 J0 43 b 0 a λ c=>
 I0 9 c a λ d=>
 J0 43 b 4 a λ e=>
 I0 3 e a λ f=>
 C0 101 #[f] R w λ g w=>
 a w∧(
 opV Pg (buildSlice 94 3 #[(0,d),(1,(.string { data := #[118,97,108,117,101] })),(2,g)]) (Zd R) w λ h w=>
 a w∧(
 R (.returned h) w))
def Zcs (b:Vl) (a:WPr) (R:RT) (w:Wd):Prop:=
 J0 43 b 0 a λ c=>
 I0 9 c a λ d=>
 J0 43 b 5 a λ e=>
 I0 40 e a λ f=>
 C0 102 #[f] R w λ g w=>
 a w∧(
 opV Pg (buildSlice 94 3 #[(0,d),(1,(.string { data := #[98,121,116,101,115] })),(2,g)]) (Zd R) w λ h w=>
 a w∧(
 R (.returned h) w))
def Zct (b c d e:Vl) (a:WPr) (VS:KW) (R:RT) (w:Wd):Prop:=
 qV Pg a (ZF .add 9 false d e) λ f=>
 opV Pg (buildSlice 94 1 #[(0,f)]) (Zd R) w λ g w=>
 a w∧(
 opV Pg (Builtin.append_ #[94,94] 94 #[b,g]) (Zd R) w λ h w=>
 a w∧(
 B0 .add 3 true c (.int .i64 1) R w λ i w=>
 VS h i w))
def Zcu (b c d e f:Vl) (a:WPr) (VS:KW) (R:RT) (w:Wd):Prop:=
 qV Pg a (ZF .add 9 false d e) λ g=>
 qV Pg a (ZF .add 9 true g (.string { data := #[58] })) λ h=>
 C0 101 #[f] R w λ i w=>
 a w∧(
 Zct b c h i a VS R w)
def Zcv (b c d e f:Vl) (a:WPr) (VS:KW) (R:RT) (w:Wd):Prop:=
 qV Pg a (ZF .add 9 true d (.string { data := #[45] })) λ g=>
 C0 101 #[e] R w λ h w=>
 a w∧(
 Zcu b c g h f a VS R w)
def Zcw (c b d:Vl) (a:WPr) (VS:KW) (R:RT) (w:Wd):Prop:=
 J0 78 b 0 a λ e=>
 I0 3 e a λ f=>
 J0 78 b 1 a λ g=>
 I0 3 g a λ h=>
 J0 78 b 2 a λ i=>
 I0 3 i a λ j=>
 C0 101 #[f] R w λ k w=>
 a w∧(
 Zcv c d k h j a VS R w)
def Zcx (c d a:Vl) (VS:KW) (R:RT) (w:Wd):Prop:=
 X0 41 d a R w λ e w=>
 L0 78 e R w λ f w=>
 opV Pg (alloc 78 true (.tuple #[])) (Zd R) w λ b w=>
 S0 78 b f R w λ w=>
 Yg w λ g w=>
 Zcw c b a g VS R w
def Zcy (a:Vl) (R:RT) (w:Wd):Prop:=
 F0 43 a 0 R w λ b w=>
 L0 9 b R w λ c w=>
 opV Pg (buildSlice 94 2 #[(0,c),(1,(.string { data := #[102,105,116] }))]) (Zd R) w λ d w=>
 R (.returned d) w
def RO (a:Vl) (R:RT) (w:Wd):Prop:=
 F0 43 a 0 R w λ e w=>
 L0 9 e R w λ f w=>
 F0 43 a 2 R w λ g w=>
 L0 9 g R w λ h w=>
 opV Pg (buildSlice 94 3 #[(0,f),(1,(.string { data := #[116,97,98,108,101] })),(2,h)]) (Zd R) w λ i w=>
 F0 43 a 6 R w λ j w=>
 L0 41 j R w λ b w=>
 G0 41 3 b R w λ k w=>
 Kz (λ c d w VS=>
 B0 .lss 3 false d k R w λ l w=>
 Zs l (
 Zcx c b d VS R w) (
 R (.returned c) w)) i (.int .i64 0) w
def RQ (a:Vl) (R:RT) (w:Wd):Prop:=
 F0 43 a 0 R w λ b w=>
 L0 9 b R w λ c w=>
 F0 43 a 2 R w λ d w=>
 L0 9 d R w λ e w=>
 opV Pg (buildSlice 94 3 #[(0,c),(1,(.string { data := #[110,101,115,116,101,100] })),(2,e)]) (Zd R) w λ f w=>
 R (.returned f) w
def EK (a b:Vl) (R:RT) (w:Wd):Prop:=
 B0 .eql 39 true b (.int .i64 6) R w λ c w=>
 Zs c (
 RQ a R w) (
 B0 .eql 39 true b (.int .i64 7) R w λ d w=>
 Zs d (
 Zcy a R w) (
 RO a R w))
def xX (a b:Vl) (R:RT) (w:Wd):Prop:=
 B0 .eql 39 true b (.int .i64 3) R w λ c w=>
 Zs c (
 Yg w λ d w=>
 Zcr a d R w) (
 B0 .eql 39 true b (.int .i64 4) R w λ e w=>
 Zs e (
 Yg w λ f w=>
 Zcs a f R w) (
 EK a b R w))
def RR (a:Vl) (R:RT) (w:Wd):Prop:=
 F0 43 a 0 R w λ b w=>
 L0 9 b R w λ c w=>
 F0 43 a 2 R w λ d w=>
 L0 9 d R w λ e w=>
 opV Pg (buildSlice 94 3 #[(0,c),(1,(.string { data := #[99,111,112,121] })),(2,e)]) (Zd R) w λ f w=>
 R (.returned f) w
def n48 (c:Vl) (R:RT) (w:Wd):Prop:=
 opV Pg (box 43 c) (Zd R) w λ a w=>
 F0 43 a 1 R w λ d w=>
 L0 39 d R w λ b w=>
 B0 .eql 39 true b (.int .i64 1) R w λ e w=>
 Zs e (
 RR a R w) (
 B0 .eql 39 true b (.int .i64 2) R w λ f w=>
 Zs f (
 Yg w λ g w=>
 Zcq a g R w) (
 xX a b R w))
set_option maxHeartbeats 40000000 in
theorem Zkn {t0:Vl} {R:RT} {w:Wd} (h:n48 t0 R w):Calls Pg 60 #[t0] w R:=by
 refine yD func60 ?_
 refine zs<|zr<|yv h λ _ w h=>zm<|zn<|zk<|zs<|zs<|zr<|yv h λ _ w h=>yv h λ _ w h=>zn<|zk<|Zl<|zs ?_
 refine zr<|yb h λ _ w h=>zm<|zn<|zk<|yC h (λ h=>zs<|zr<|yv h λ _ w h=>yv h λ _ w h=>yv h λ _ w h=>yv h λ _ w h=>yS h λ _ w h=>zm<|zn<|zk<|Zg<|Zh<|Zb<|Zi rfl rfl h) λ h=>zs<|zr<|yb h λ _ w h=>zm<|zn<|zk<|yC h (λ h=>?_) λ h=>?_
 · refine zs<|yh [2,17,18,19,20,21,22,23,24] h λ C hC h=>ye 0 hC h λ _ h=>?_
   refine ye 1 hC h λ _ h=>?_
   refine ye 2 hC h λ _ h=>?_
   refine ye 3 hC h λ _ h=>?_
   refine ye 4 hC h λ _ h=>?_
   refine ye 5 hC h λ _ h=>?_
   refine yo 6 ?_
   refine yc h O4 λ _ w h=>zn ?_
   obtain ⟨hC,h⟩:=h
   refine ⟨hC,?_⟩
   refine yo 7 ?_
   refine yS h λ _ w h=>zn ?_
   obtain ⟨hC,h⟩:=h
   refine ⟨hC,?_⟩
   refine yw 8 hC ?_
   exact yz<|zk<|Zg<|Zh<|Zb<|Zi rfl rfl h
 refine zs<|zr<|yb h λ _ w h=>zm<|zn<|zk<|yC h (λ h=>?_) λ h=>?_
 · refine zs<|yh [2,27,28,29,30,31,32] h λ C hC h=>ye 0 hC h λ _ h=>?_
   refine ye 1 hC h λ _ h=>?_
   refine ye 2 hC h λ _ h=>?_
   refine ye 3 hC h λ _ h=>?_
   refine yo 4 ?_
   refine yc h O4 λ _ w h=>zn ?_
   obtain ⟨hC,h⟩:=h
   refine ⟨hC,?_⟩
   refine yo 5 ?_
   refine yS h λ _ w h=>zn ?_
   obtain ⟨hC,h⟩:=h
   refine ⟨hC,?_⟩
   refine yw 6 hC ?_
   exact yz<|zk<|Zg<|Zh<|Zb<|Zi rfl rfl h
 refine zs<|zr<|yb h λ _ w h=>zm<|zn<|zk<|yC h (λ h=>?_) λ h=>?_
 · refine zs<|yh [2,35,36,37,38,39,40] h λ C hC h=>ye 0 hC h λ _ h=>?_
   refine ye 1 hC h λ _ h=>?_
   refine ye 2 hC h λ _ h=>?_
   refine ye 3 hC h λ _ h=>?_
   refine yo 4 ?_
   refine yc h ZiC λ _ w h=>zn ?_
   obtain ⟨hC,h⟩:=h
   refine ⟨hC,?_⟩
   refine yo 5 ?_
   refine yS h λ _ w h=>zn ?_
   obtain ⟨hC,h⟩:=h
   refine ⟨hC,?_⟩
   refine yw 6 hC ?_
   exact yz<|zk<|Zg<|Zh<|Zb<|Zi rfl rfl h
 refine zs<|zr<|yb h λ _ w h=>zm<|zn<|zk<|yC h (λ h=>zs<|zr<|yv h λ _ w h=>yv h λ _ w h=>yv h λ _ w h=>yv h λ _ w h=>yS h λ _ w h=>zm<|zn<|zk<|Zg<|Zh<|Zb<|Zi rfl rfl h) λ h=>zs<|zr<|yb h λ _ w h=>zm<|zn<|zk<|yC h (λ h=>zs<|zr<|yv h λ _ w h=>yv h λ _ w h=>yS h λ _ w h=>zm<|zn<|zk<|Zg<|Zh<|Zb<|Zi rfl rfl h) λ h=>?_
 refine Zj<|Zf<|zk<|zs<|zr<|yv h λ _ w h=>yv h λ _ w h=>yv h λ _ w h=>yv h λ _ w h=>yS h λ _ w h=>zm<|zn<|zk<|zs<|zs ?_
 refine zr<|yv h λ _ w h=>yv h λ _ w h=>yx h λ _ w h=>zm<|zn<|zk<|Zl<|yl2 [3,5,61,62,63,64,65,66,67,68,69,70,71,72,73,74,75,76,77,78,79,80,81] 3 61 h λ σ w next h=>zs<|zr<|yb h λ _ w h=>zn<|zk<|zs ?_
 refine yC h (λ h=>?_) λ h=>?_
 · refine Zj<|zk<|zs<|Zl<|zs<|zr<|yv h λ _ w h=>yv h λ _ w h=>yv h λ _ w h=>yu h λ w h=>zn<|zk<|yh [3,65,66,67,68,69,70,71,72,73,74,75,76,77,78,79,80] h λ C hC h=>yw 0 hC ?_
   refine ye 1 hC h λ _ h=>?_
   refine ye 2 hC h λ _ h=>?_
   refine ye 5 hC h λ _ h=>?_
   refine ye 6 hC h λ _ h=>?_
   refine ye 10 hC h λ _ h=>?_
   refine ye 11 hC h λ _ h=>?_
   refine yo 3 ?_
   refine yc h O4 λ _ w h=>zn ?_
   obtain ⟨hC,h⟩:=h
   refine ⟨hC,?_⟩
   refine ye 4 hC h λ _ h=>?_
   refine yo 7 ?_
   refine yc h O4 λ _ w h=>zn ?_
   obtain ⟨hC,h⟩:=h
   refine ⟨hC,?_⟩
   refine ye 8 hC h λ _ h=>?_
   refine ye 9 hC h λ _ h=>?_
   refine yo 12 ?_
   refine yc h O4 λ _ w h=>zn ?_
   obtain ⟨hC,h⟩:=h
   refine ⟨hC,?_⟩
   refine ye 13 hC h λ _ h=>?_
   refine yo 14 ?_
   refine yS h λ _ w h=>zn ?_
   obtain ⟨hC,h⟩:=h
   refine ⟨hC,?_⟩
   refine yo 15 ?_
   refine yx h λ _ w h=>zn ?_
   obtain ⟨hC,h⟩:=h
   refine ⟨hC,?_⟩
   refine yw 16 hC ?_
   exact yz<|Zf<|zk<|zr<|yb h λ _ w h=>zm<|zn<|zk<|⟨rfl,h⟩
 exact ZM<|Ze<|Ze<|Zu<|zk<|zs<|zr<|zm<|zm<|zn<|zk<|Zg<|Zi rfl rfl h
theorem HI (w:Wd) (s:BAr):Ret Pg 91 #[.string s] w λ r w'=>r = .bool (!Z4 s)∧Ext w w':=by
 refine Zkl (R:=ZI _) ?_;unfold n46
 refine zcr (UG w s) λ w1 e1=>?_
 simp (disch:=try exact DI) only [↓PR,QR,simprocAttr]
 exact ⟨by trivial,e1⟩
theorem xZ (w0:Wd) (v:Vl) (l:List BAr) (hs:UI w0 v l):Ret Pg 52 #[v] w0 λ r w'=>r = .bool (l.all Z4)∧Ext w0 w':=by
 refine Zkk (R:=ZI _) ?_;unfold n45
 refine zcr (UC w0 v l _ _ (λ s=>!Z4 s) hs c91 λ w' v y _ e' hv=>by subst hv;exact HI w' y) λ w1 e1=>?_
 simp (disch:=try exact DI) only [↓PR,QR,simprocAttr]
 refine ⟨?_,e1⟩
 congr 1
 rw [List.all_eq_not_any_not]
theorem U3 {base:Nat} (w:Wd) (l:List BAr) (hl:l.length≤1000) (hb:base≤w.heap.size):UH (w.alloc (.cells (l.map Value.string).toArray 9)) base (.slice (some ⟨w.heap.size,0,none⟩) l.length l.length) l:=by
 have:=(ZW.new w 9 1 Xu l (λ _=>rfl) (by omega)).base hb
 have hf:l.flatMap Xu=l.map Value.string:=by
  clear this hl
  induction l with
  | nil=>rfl
  | cons x l ih=>rw [List.flatMap_cons,ih];rfl
 rw [hf] at this
 exact this
theorem yU {w:Wd} {base:Nat} {v:Vl} {l:List BAr} (h:UH w base v l):UI w v l:=h.slice (λ _=>rfl) (λ _ _=>rfl)
theorem Kl (w0:Wd) (s:BAr):Ret Pg 52 #[.slice (some ⟨w0.heap.size,0,none⟩) 1 1] (w0.alloc (.cells #[.string s] 9)) λ r w'=>r = .bool (Z4 s)∧Ext w0 w':=by
 have h:=yU (U3 w0 [s] (by simp) (Nat.le_refl _))
 refine (xZ _ _ [s] h).mono ?_
 rintro _ w' ⟨rfl,e⟩
 exact ⟨by simp,((Ext.refl w0).alloc _).trans e⟩
theorem Lt (w0:Wd) (s t:BAr):Ret Pg 52 #[.slice (some ⟨w0.heap.size,0,none⟩) 2 2] (w0.alloc (.cells #[.string s,.string t] 9)) λ r w'=>r = .bool (Z4 s&&Z4 t)∧Ext w0 w':=by
 have h:=yU (U3 w0 [s,t] (by simp) (Nat.le_refl _))
 refine (xZ _ _ [s,t] h).mono ?_
 rintro _ w' ⟨rfl,e⟩
 exact ⟨by simp,((Ext.refl w0).alloc _).trans e⟩
theorem Ti {D:Wd} {m c:Nat} {L:List (Int×Vl×Nat)} {k:Vl→Prop} (hM:Xw D m XA L c) (s:Int):qV Pg (EC D) (lookup 106 (.map (some m)) (.int .i64 s) true) k=k (.tuple #[(Sw.look L s).getD (CH ⟨false,false,false,false,false⟩),.bool (Sw.look L s).isSome]):=JX λ w' e=>Qv λ QP k=>qb (enc:=XA) underlying106 (QC.int underlying39) U7 (hM.ext e) s
theorem GJ (w0:Wd) (v:Vl) (r:FrD) (hr:Wf w0 v r):Ret Pg 58 #[v] w0 λ q w'=>q = .bool (Yu r)∧Ext w0 w':=by
 obtain ⟨bv,tv,rfl,hB,hT,b1,b2⟩:=hr.op
 refine Zkm (R:=ZI _) ?_;unfold n47
 rw [YB]
 have q1:=Zv w0 (Zz r bv tv).toArray 43
 have e1:Ext w0 (w0.alloc (.cells (Zz r bv tv).toArray 43)):=(Ext.refl w0).alloc _
 generalize (w0.alloc (.cells (Zz r bv tv).toArray 43))=W at q1 e1 ⊢
 obtain ⟨p1,hp1⟩:∃ p1,w0.heap.size=p1:=⟨_,rfl⟩
 rw [hp1] at q1 ⊢
 refine ZE ?_
 have eD:Ext W (drew W):=(Ext.refl W).drew
 generalize (drew W)=D at eD ⊢
 replace q1:=eD.obj q1
 have E1:=e1.trans eD
 have c1:=(Za q1).1
 unfold Zcp
 simp (disch:=try exact DI) only [↓PR,QR,simprocAttr,c1]
 have main:∀ (p3:Nat) (u:Ck) (ok:Bool) (w:Wd),Ext w0 w→Ext D w→w.heap[p3]?=some (.cells #[.bool u.fr,.bool u.add,.bool u.value,.bool u.bytes,.bool u.table] 105 (0,0))→ok=(XR r.kind).isSome→(ok=true→XR r.kind=some u) →
  RN (.pointer (some ⟨p1,0,none⟩)) (.pointer (some ⟨p3,0,none⟩)) (.bool ok) (ZI λ q w'=>q = .bool (Yu r)∧Ext w0 w') w:=by
  intro p3 u ok w e0 eD hu hok hus
  have k1:=(Za (eD.obj q1)).1
  have k3:=(Za hu).1
  unfold RN
  cases ok with
  | false=>
   have hp:Yu r=false:=by
    unfold Yu
    cases hk:XR r.kind with
    | none=>rfl
    | some u=>rw [hk] at hok;cases hok
   simp (disch:=try exact DI) only [↓PR,QR,simprocAttr,RM,MQ,Dn,Dm,Bq]
   exact ⟨by rw [hp],e0⟩
  | true=>
   have hp:Yu r=(Ws r u&&(Z4 r.to&&(decide (r.to≠ZdS)&&(!u.fr||Z4 r.fr)))):=by unfold Yu;rw [hus rfl]
   simp (disch:=try exact DI) only [↓PR,QR,simprocAttr,k1,k3]
   refine zcr (CS w _ r ⟨_,_,rfl,hB.ext e0,hT.ext e0⟩ u) λ w2 e2=>?_
   have E2:=e0.trans e2
   unfold RM
   cases hc:Ws r u with
   | false=>
    simp (disch:=try exact DI) only [↓PR,QR,simprocAttr,MQ,Dn,Dm,Bq]
    exact ⟨by rw [hp,hc];rfl,E2⟩
   | true=>
   have k1:=(Za (((eD.trans e2)).obj q1)).1
   simp (disch:=try exact DI) only [↓PR,QR,simprocAttr,k1]
   refine Zk (Kl w2 r.to) ?_
   rintro _ w3 ⟨rfl,e3⟩
   have E3:=E2.trans e3
   unfold MQ
   cases hn:Z4 r.to with
   | false=>
    simp (disch:=try exact DI) only [↓PR,QR,simprocAttr,Dn,Dm,Bq]
    exact ⟨by rw [hp,hc,hn];rfl,E3⟩
   | true=>
   have k1:=(Za ((eD.trans (e2.trans e3)).obj q1)).1
   have k3:=(Za ((e2.trans e3).obj hu)).1
   by_cases he:r.to=ZdS
   · have d1:decide (r.to=⟨#[101,110,100]⟩)=true:=decide_eq_true he
     simp (disch:=try exact DI) only [↓PR,QR,simprocAttr,k1,d1,Dn,Dm,Bq]
     exact ⟨by rw [hp,hc,hn];simp [he],E3⟩
   · have d1:decide (r.to=⟨#[101,110,100]⟩)=false:=decide_eq_false he
     simp (disch:=try exact DI) only [↓PR,QR,simprocAttr,k1,d1,Dn]
     unfold Dm
     cases hf:u.fr with
     | false=>
      simp (disch:=try exact DI) only [↓PR,QR,simprocAttr,k3,hf,Bq]
      exact ⟨by rw [hp,hc,hn,hf];simp [he,d1],E3⟩
     | true=>
      simp (disch:=try exact DI) only [↓PR,QR,simprocAttr,k3,hf,k1]
      refine Zk (Kl w3 r.fr) ?_
      rintro _ w4 ⟨rfl,e4⟩
      simp (disch:=try exact DI) only [↓PR,QR,simprocAttr,Bq]
      exact ⟨by rw [hp,hc,hn,hf];simp [he,d1],E3.trans e4⟩
 have lk:∀ (L:List (Int×Vl×Nat)),OU L→∃ u:Ck,(Sw.look L r.kind).getD (CH ⟨false,false,false,false,false⟩)=CH u∧(Sw.look L r.kind).isSome=(XR r.kind).isSome∧((XR r.kind).isSome=true→XR r.kind=some u):=by
  intro L hL
  rw [hL]
  cases XR r.kind with
  | none=>exact ⟨_,rfl,rfl,λ h=>by cases h⟩
  | some u=>exact ⟨u,rfl,rfl,λ _=>rfl⟩
 have lD:=(Array.getElem?_eq_some_iff.1 q1).1
 refine ⟨?_,(Ext.refl D).alloc _,?_⟩
 · refine Zk (Kh D) ?_
   rintro _ w1 ⟨m,L,c,rfl,hm,hM,hL,e2⟩
   refine Lu e2 ?_
   obtain ⟨u,h1,h2,h3⟩:=lk L hL
   unfold Zcn
   rw [Ti hM,h1,h2]
   unfold CH
   simp (disch:=try exact DI) only [↓PR,QR,simprocAttr]
   refine ⟨(Ext.refl w1).alloc _,(Ext.refl w1).alloc _,main _ u _ _ ((E1.trans e2).alloc _) (e2.alloc _) (Zv _ _ _) rfl h3⟩
 · have eV:Ext D (D.alloc (.cells #[.bool false,.bool false,.bool false,.bool false,.bool false] 105)):=(Ext.refl D).alloc _
   have oV:=Zv D #[.bool false,.bool false,.bool false,.bool false,.bool false] 105
   generalize (D.alloc (.cells #[.bool false,.bool false,.bool false,.bool false,.bool false] 105))=V at eV oV ⊢
   obtain ⟨p3,hp3⟩:∃ p3,D.heap.size=p3:=⟨_,rfl⟩
   rw [hp3] at oV ⊢
   refine Zk (Kh V) ?_
   rintro _ w1 ⟨m,L,c,rfl,hm,hM,hL,e2⟩
   have eVw:=eV.trans e2
   refine VQ eVw hM ?_
   obtain ⟨u,h1,h2,h3⟩:=lk L hL
   have o3:=e2.obj oV
   have o3c:=Za o3
   have YN:∃ x,KM D m XA L c x:=⟨w1,eVw,hM⟩
   haveI:Yv (KM D m XA L c):=⟨YN⟩
   have l3:D.heap.size≤p3:=by omega
   unfold Zco
   rw [W9 (enc:=XA) underlying106 (QC.int underlying39) U7 YN r.kind]
   rw [show ((Sw.look L r.kind).getD (Value.agg #[.bool false,.bool false,.bool false,.bool false,.bool false]))=CH u from h1,h2]
   unfold CH
   simp (disch:=try exact DI) only [↓PR,QR,simprocAttr,o3c.1,o3c.2]
   have eZ:Ext D (((((w1.setCell ⟨p3,0,none⟩ (.bool u.fr)).setCell ⟨p3,1,none⟩ (.bool u.add)).setCell ⟨p3,2,none⟩ (.bool u.value)).setCell ⟨p3,3,none⟩ (.bool u.bytes)).setCell ⟨p3,4,none⟩ (.bool u.table)):=((((eVw.setCell l3 _).setCell l3 _).setCell l3 _).setCell l3 _).setCell l3 _
   have oZ:=Zw (o:=4) (Zw (o:=3) (Zw (o:=2) (Zw (o:=1) (Zw (o:=0) o3 (.bool u.fr)) (.bool u.add)) (.bool u.value)) (.bool u.bytes)) (.bool u.table)
   have hM':=((((hM.setCell ⟨p3,0,none⟩ (.bool u.fr)).setCell ⟨p3,1,none⟩ (.bool u.add)).setCell ⟨p3,2,none⟩ (.bool u.value)).setCell ⟨p3,3,none⟩ (.bool u.bytes)).setCell ⟨p3,4,none⟩ (.bool u.table)
   exact ⟨⟨eZ,hM'⟩,main p3 u _ _ (E1.trans eZ) eZ (by simpa using oZ) rfl h3⟩
section
variable {P:Program} {QP:PEn} {w:Wd} {k:KV}
theorem U0 (t:TypeId) (c:Bool) (a b:BAr) (h:a.size+b.size≤9223372036854775807):opV P (ZF .add t c (.string a) (.string b)) QP w k=k (.string (a++b)) w:=ZX (by
 have h1:¬ (((a.size+b.size:Nat):Int) > IntKind.i64.max):=by
  have:IntKind.i64.max=9223372036854775807:=rfl
  omega
 simp [ZF,binOp,Op.stringOp,h1]
 omega)
theorem jH {C:WPr} [Yv C] {k:Vl→Prop} (t:TypeId) (c:Bool) (a b:BAr) (h:a.size+b.size≤9223372036854775807):qV P C (ZF .add t c (.string a) (.string b)) k=k (.string (a++b)):=Ym λ _ _ _=>U0 t c a b h
end
def XO (r:FrD):List BAr:=(YV r).map mkB
theorem yg (a b:List UInt8):mkB (a++b)=mkB a++mkB b:=by
 apply Ge
 show (a++b).toArray.toList=(mkB a++mkB b).data.toList
 simp [mkB]
def KE (x:Qx):BAr:=mkB (V4 x)
theorem Tr (x:Qx):Eh x.low++⟨#[45]⟩++Eh x.high++⟨#[58]⟩++Eh x.to=KE x:=by
 unfold KE V4
 rw [show Go.Lib.itoa x.low++45::(Go.Lib.itoa x.high++58::Go.Lib.itoa x.to)=Go.Lib.itoa x.low++([45]++(Go.Lib.itoa x.high++([58]++Go.Lib.itoa x.to))) from rfl]
 rw [yg,yg,yg,yg]
 apply Ge
 simp [mkB,Eh]
theorem V3 {n:Int} (h:Qm n=true) : -9223372036854775808≤n∧n≤9223372036854775807:=by
 unfold Qm at h
 simpa only [Bool.and_eq_true,decide_eq_true_eq] using h
theorem ZdX {x:FrD} (h:inF x=true):(-9223372036854775808≤x.add∧x.add≤9223372036854775807)∧(-9223372036854775808≤x.value∧x.value≤9223372036854775807)∧∀ y∈x.table,(-9223372036854775808≤y.low∧y.low≤9223372036854775807)∧(-9223372036854775808≤y.high∧y.high≤9223372036854775807) ∧ -9223372036854775808≤y.to∧y.to≤9223372036854775807:=by
 unfold inF at h
 simp only [Bool.and_eq_true,List.all_eq_true] at h
 refine ⟨V3 h.1,V3 h.2.1,λ y hy=>?_⟩
 have:=h.2.2 y hy
 unfold Vo at this
 simp only [Bool.and_eq_true] at this
 exact ⟨V3 this.1,V3 this.2.1,V3 this.2.2⟩
theorem jd (w0:Wd) (hE:Vf w0) (v:Vl) (x:FrD) (hx:Wf w0 v x) (hin:inF x=true) (hb:x.bytes.length≤1000000000) (ht:x.table.length≤1000000):Ret Pg 60 #[v] w0 λ r w'=>UH w' w0.heap.size r (XO x)∧Ext w0 w':=by
 obtain ⟨bv,tv,rfl,hB,hT,b1,b2⟩:=hx.op
 obtain ⟨i1,i2,i3⟩:=ZdX hin
 refine Zkn (R:=ZI _) ?_;unfold n48
 rw [YB]
 have q1:=Zv w0 (Zz x bv tv).toArray 43
 have e1:Ext w0 (w0.alloc (.cells (Zz x bv tv).toArray 43)):=(Ext.refl w0).alloc _
 generalize (w0.alloc (.cells (Zz x bv tv).toArray 43))=W at q1 e1 ⊢
 obtain ⟨p1,hp1⟩:∃ p1,w0.heap.size=p1:=⟨_,rfl⟩
 rw [hp1] at q1 ⊢
 have c1:=(Za q1).1
 have fin:∀ (w:Wd) (l:List BAr),Ext w0 w→l.length≤1000→XO x=l→(UH (w.alloc (.cells (l.map Value.string).toArray 9)) p1 (.slice (some ⟨w.heap.size,0,none⟩) l.length l.length) (XO x)∧Ext w0 (w.alloc (.cells (l.map Value.string).toArray 9))):=by
  intro w l e hl hw
  rw [hw]
  exact ⟨U3 w l hl (by have:=e.size;omega),e.alloc _⟩
 by_cases k1:x.kind=1
 · simp (disch:=try exact DI) only [↓PR,QR,simprocAttr,c1,k1,RR]
   exact fin W [x.to,⟨#[99,111,112,121]⟩,x.fr] e1 (by simp) (by unfold XO YV Vd;rw [if_pos k1,k1];rfl)
 have d1:(x.kind == 1)=false:=by simpa using k1
 by_cases k2:x.kind=2
 · simp (disch:=try exact DI) only [↓PR,QR,simprocAttr,c1,k2]
   refine ZE ?_
   have eD:Ext W (drew W):=(Ext.refl W).drew
   generalize (drew W)=D at eD ⊢
   have c1:=(Za (eD.obj q1)).1
   unfold Zcq
   simp (disch:=try exact DI) only [↓PR,QR,simprocAttr,c1]
   have ED:=e1.trans eD
   refine zcr (KX (hE.ext ED).env.tab x.add i1.1 i1.2) λ w1 e2=>?_
   simp (disch:=try exact DI) only [↓PR,QR,simprocAttr]
   refine ⟨e2,e2.alloc _,?_⟩
   exact fin w1 [x.to,⟨#[97,100,100]⟩,x.fr,Eh x.add] (ED.trans e2) (by simp) (by unfold XO YV Vd;rw [if_neg k1,if_pos k2,k2];rfl)
 have d2:(x.kind == 2)=false:=by simpa using k2
 by_cases k3:x.kind=3
 · simp (disch:=try exact DI) only [↓PR,QR,simprocAttr,c1,k3,xX]
   refine ZE ?_
   have eD:Ext W (drew W):=(Ext.refl W).drew
   generalize (drew W)=D at eD ⊢
   have c1:=(Za (eD.obj q1)).1
   unfold Zcr
   simp (disch:=try exact DI) only [↓PR,QR,simprocAttr,c1]
   have ED:=e1.trans eD
   refine zcr (KX (hE.ext ED).env.tab x.value i2.1 i2.2) λ w1 e2=>?_
   simp (disch:=try exact DI) only [↓PR,QR,simprocAttr]
   refine ⟨e2,e2.alloc _,?_⟩
   exact fin w1 [x.to,⟨#[118,97,108,117,101]⟩,Eh x.value] (ED.trans e2) (by simp) (by unfold XO YV Vd;rw [if_neg k1,if_neg k2,if_pos k3,k3];rfl)
 have d3:(x.kind == 3)=false:=by simpa using k3
 by_cases k4:x.kind=4
 · simp (disch:=try exact DI) only [↓PR,QR,simprocAttr,c1,k4,xX]
   refine ZE ?_
   have eD:Ext W (drew W):=(Ext.refl W).drew
   generalize (drew W)=D at eD ⊢
   have c1:=(Za (eD.obj q1)).1
   unfold Zcs
   simp (disch:=try exact DI) only [↓PR,QR,simprocAttr,c1]
   have ED:=e1.trans eD
   refine zcr (IM D (hE.ext ED) _ x.bytes (hB.ext ED) hb) λ w1 e2=>?_
   simp (disch:=try exact DI) only [↓PR,QR,simprocAttr]
   refine ⟨e2,e2.alloc _,?_⟩
   exact fin w1 [x.to,⟨#[98,121,116,101,115]⟩,mkB (Qh x.bytes)] (ED.trans e2) (by simp) (by unfold XO YV Vd;rw [if_neg k1,if_neg k2,if_neg k3,if_pos k4,k4];rfl)
 have d4:(x.kind == 4)=false:=by simpa using k4
 by_cases k6:x.kind=6
 · simp (disch:=try exact DI) only [↓PR,QR,simprocAttr,c1,k6,xX,EK,RQ]
   exact fin W [x.to,⟨#[110,101,115,116,101,100]⟩,x.fr] e1 (by simp) (by unfold XO YV Vd;rw [if_neg k1,if_neg k2,if_neg k3,if_neg k4,if_pos k6,k6];rfl)
 have d6:(x.kind == 6)=false:=by simpa using k6
 by_cases k7:x.kind=7
 · simp (disch:=try exact DI) only [↓PR,QR,simprocAttr,c1,k7,xX,EK,Zcy]
   exact fin W [x.to,⟨#[102,105,116]⟩] e1 (by simp) (by unfold XO YV Vd;rw [if_neg k1,if_neg k2,if_neg k3,if_neg k4,if_neg k6,if_pos k7,k7];rfl)
 have d7:(x.kind == 7)=false:=by simpa using k7
 obtain ⟨A,c,rfl,hlc,hcm,hlm,Y1⟩:=Zc.open hT
 have hW:XO x=[x.to,⟨#[116,97,98,108,101]⟩,x.fr]++x.table.map KE:=by
  have hk:kwW x.kind=[116,97,98,108,101]:=by unfold kwW;rw [if_neg k1,if_neg k2,if_neg k3,if_neg k4,if_neg k6,if_neg k7]
  unfold XO YV Vd
  rw [if_neg k1,if_neg k2,if_neg k3,if_neg k4,if_neg k6,if_neg k7,hk,List.map_cons,List.map_cons,List.map_cons,List.map_map]
  rfl
 have lq:=(Array.getElem?_eq_some_iff.1 q1).1
 simp (disch:=try exact DI) only [↓PR,QR,simprocAttr,c1,d1,d2,d3,d4,d6,d7,xX,EK,RO]
 have hO:=U3 W [x.to,⟨#[116,97,98,108,101]⟩,x.fr] (by simp) e1.size
 have eV:Ext W (W.alloc (.cells (([x.to,⟨#[116,97,98,108,101]⟩,x.fr]:List BAr).map Value.string).toArray 9)):=(Ext.refl W).alloc _
 change Kz _ _ _ (W.alloc (.cells (([x.to,⟨#[116,97,98,108,101]⟩,x.fr]:List BAr).map Value.string).toArray 9))
 generalize (W.alloc (.cells (([x.to,⟨#[116,97,98,108,101]⟩,x.fr]:List BAr).map Value.string).toArray 9))=V at hO eV ⊢
 have E1:=e1.trans eV
 rw [hp1] at hO
 have lp:p1≤w0.heap.size:=by omega
 refine Wh (λ a i w=>∃ k:Nat,i = .int .i64 k∧k≤x.table.length∧Ext w0 w∧UH w p1 a ([x.to,⟨#[116,97,98,108,101]⟩,x.fr]++(x.table.take k).map KE)) (λ _ i _=>x.table.length - (intOf i).toNat) ⟨0,rfl,by omega,E1,by simpa using hO⟩ ?_
 rintro a _ w ⟨k,rfl,hk,e,hO⟩
 rcases ZT hk with ⟨y,hy,_,Yq,ZY⟩ | ⟨hk,_,ZY⟩
 · obtain ⟨b,o,cs,rfl,_,hA,rfl⟩:=Y1 k y hy
   obtain ⟨g,cap,rfl,hg1,hg2,_⟩:=ZW.row hO (λ _=>rfl) (by simp)
   generalize hll:([x.to,⟨#[116,97,98,108,101]⟩,x.fr]++(x.table.take k).map KE).length=n at hO ⊢
   obtain ⟨j1,j2,j3⟩:=i3 y (List.mem_of_getElem? hy)
   have Y8:([x.to,⟨#[116,97,98,108,101]⟩,x.fr]++(x.table.take k).map KE).length≤1048576:=by
    rw [List.length_append,List.length_map,List.length_take]
    simp only [List.length_cons,List.length_nil]
    omega
   simp (disch:=try exact DI) only [↓PR,QR,simprocAttr,ZY]
   unfold Zcx
   simp (disch:=try exact DI) only [↓PR,QR,simprocAttr,hA.c3 e]
   have oV:=Zv w (Z9 y).toArray 78
   have eV:Ext w (w.alloc (.cells (Z9 y).toArray 78)):=(Ext.refl w).alloc _
   have sV:(w.alloc (.cells (Z9 y).toArray 78)).heap.size=w.heap.size+1:=World.size_alloc ..
   generalize (w.alloc (.cells (Z9 y).toArray 78))=V1 at oV eV sV ⊢
   have n5:w.heap.size≠g:=by omega
   obtain ⟨p5,hp5⟩:∃ p5,w.heap.size=p5:=⟨_,rfl⟩
   rw [hp5] at oV n5 ⊢
   refine Xy g g (w1:=V1) (λ _ _ _ _=>rfl) ?_
   haveI:Yv (KB V1 g g):=⟨⟨V1,λ _ _ _ _=>rfl⟩⟩
   have hKD:KB V1 g g (drew V1):=λ _ _ _ _=>rfl
   have eD:Ext V1 (drew V1):=(Ext.refl V1).drew
   generalize (drew V1)=D at hKD eD ⊢
   have cV:=(Za oV).1
   have z1:=xq j1.1 j1.2
   have z2:=xq j2.1 j2.2
   have z3:=xq j3.1 j3.2
   have g45:(⟨#[45]⟩:BAr).size=1:=rfl
   have g58:(⟨#[58]⟩:BAr).size=1:=rfl
   unfold Zcw
   simp (disch:=try exact DI) only [↓PR,QR,simprocAttr,cV]
   have ED:=e.trans (eV.trans eD)
   refine zcr (KX (hE.ext ED).env.tab y.low j1.1 j1.2) λ w1 f1=>?_
   have K1:KB V1 g g w1:=λ b hb h1 h2=>(f1.block b (by have:=eD.size;omega)).trans (hKD b hb h1 h2)
   refine ⟨K1,?_⟩
   unfold Zcv
   rw [jH _ _ _ _ (by rw [g45];omega)]
   have E1:=ED.trans f1
   refine zcr (KX (hE.ext E1).env.tab y.high j2.1 j2.2) λ w2 f2=>?_
   have K2:KB V1 g g w2:=λ b hb h1 h2=>(f2.block b (by have:=eD.size;have:=f1.size;omega)).trans (K1 b hb h1 h2)
   refine ⟨K2,?_⟩
   unfold Zcu
   rw [jH _ _ _ _ (by rw [size_append,g45];omega),jH _ _ _ _ (by rw [size_append,size_append,g45,g58];omega)]
   have E2:=E1.trans f2
   refine zcr (KX (hE.ext E2).env.tab y.to j3.1 j3.2) λ w3 f3=>?_
   have K3:KB V1 g g w3:=λ b hb h1 h2=>(f3.block b (by have:=eD.size;have:=f1.size;have:=f2.size;omega)).trans (K2 b hb h1 h2)
   refine ⟨K3,?_⟩
   unfold Zct
   rw [jH _ _ _ _ (by rw [size_append,size_append,size_append,g45,g58];omega)]
   have E3:=E2.trans f3
   have f03:=(eV.trans eD).trans ((f1.trans f2).trans f3)
   simp (disch:=try exact DI) only [↓PR,QR,simprocAttr]
   rw [Tr]
   have K4:KB V1 g g (w3.alloc (.cells #[.string (KE y)] 9)):=λ b hb h1 h2=>(((Ext.refl w3).alloc _).block b (by have:=eD.size;have:=f1.size;have:=f2.size;have:=f3.size;omega)).trans (K3 b hb h1 h2)
   have oY:(w3.alloc (.cells #[.string (KE y)] 9)).cell? ⟨w3.heap.size,0,none⟩=some (.string (KE y)):=by rw [QF];rfl
   have eY:Ext w3 (w3.alloc (.cells #[.string (KE y)] 9)):=(Ext.refl w3).alloc _
   refine ⟨K4,?_⟩
   generalize (w3.alloc (.cells #[.string (KE y)] 9))=Y at K4 oY eY ⊢
   have fY:=f03.trans eY
   refine VD (KE y) (hO.ext fY) oY (by have:=(E3.trans eY).size;omega) Y8 ?_
   intro v' w' hO' hg
   have hlo:∀ b,(Value.slice (some ⟨g,0,none⟩) n cap).ownBlock=some b→p1≤b:=λ b hb=>(World.ownsRow.lt hO b hb).1
   refine ⟨λ b hb h1 h2=>(hg.block b (by have:=(eD.trans ((f1.trans f2).trans (f3.trans eY))).size;omega) (λ e=>by injection e with e;exact h1 e)).trans (K4 b hb h1 h2),?_⟩
   simp (disch:=try exact DI) only [↓PR,QR,simprocAttr]
   refine ⟨⟨k+1,rfl,Yq,(E3.trans eY).grown hg λ b hb=>by have:=hlo b hb;omega,?_⟩,Ya (kd := .i64) Yq⟩
   rw [XM hy,List.map_append,← List.append_assoc]
   exact hO'
 · subst hk
   rw [List.take_length] at hO
   simp (disch:=try exact DI) only [↓PR,QR,simprocAttr,ZY]
   exact ⟨by rw [hW];exact hO,e⟩
def Zb0 (a b c d:Vl) (VR:Vl→Vl→Vl→Wd→Prop) (R:RT) (w:Wd):Prop:=
 opV Pg (buildSlice 94 1 #[(0,c)]) (Zd R) w λ e w=>
 opV Pg (Builtin.append_ #[94,94] 94 #[d,e]) (Zd R) w λ f w=>
 B0 .add 3 true a (.int .i64 1) R w λ g w=>
 VR b f g w
def Ru (a b c d e:Vl) (VR:Vl→Vl→Vl→Wd→Prop) (R:RT) (w:Wd):Prop:=
 Zy d c (.bool false) λ f=>
 L0 43 a R w λ g w=>
 C0 60 #[g] R w λ h w=>
 ZV Pg 59 #[h,(.string { data := #[32] })] (Zd R) w λ i w=>
 Zb0 b f i e VR R w
def Rv (a b c:Vl) (Zx:Vl→Vl→Vl→Wd→Prop) (R:RT) (w:Wd):Prop:=
 opV Pg (buildSlice 94 1 #[(0,(.string { data := #[101,110,100] }))]) (Zd R) w λ d w=>
 opV Pg (Builtin.append_ #[94,94] 94 #[c,d]) (Zd R) w λ e w=>
 B0 .add 3 true a (.int .i64 1) R w λ f w=>
 Zx b e f w
def Rw (f c d g:Vl) (VR:Vl→Vl→Vl→Wd→Prop) (R:RT) (w:Wd):Prop:=
 X0 58 f c R w λ h w=>
 L0 43 h R w λ i w=>
 opV Pg (alloc 43 true (.tuple #[])) (Zd R) w λ a w=>
 S0 43 a i R w λ w=>
 Zo (λ (b:Vl) (w:Wd)=>
 Ru a c b d g VR R w) λ e=>
 Zn d true (
 L0 43 a R w λ j w=>
 C0 58 #[j] R w λ b w=>
 e b w) (
 e undef w)
def MN (f g a h i:Vl) (Zx:Vl→Vl→Vl→Wd→Prop) (R:RT) (w:Wd):Prop:=
 Zy f i (.bool false) λ j=>
 F0 60 a 0 R w λ k w=>
 L0 9 k R w λ l w=>
 opV Pg (ZF .add 9 true (.string { data := #[109,97,112,32] }) l) (Zd R) w λ m w=>
 opV Pg (ZF .add 9 true m (.string { data := #[32] })) (Zd R) w λ n w=>
 F0 60 a 1 R w λ o w=>
 L0 9 o R w λ p w=>
 B0 .add 9 false n p R w λ q w=>
 opV Pg (buildSlice 94 1 #[(0,q)]) (Zd R) w λ r w=>
 opV Pg (Builtin.append_ #[94,94] 94 #[g,r]) (Zd R) w λ s w=>
 F0 60 a 2 R w λ t w=>
 L0 58 t R w λ b w=>
 G0 58 3 b R w λ u w=>
 GD (λ c d e w VR=>
 B0 .lss 3 false e u R w λ v w=>
 Zs v (
 Rw b e c d VR R w) (
 Rv h c d Zx R w)) j s (.int .i64 0) w
def Zb1 (a:Vl) (R:RT) (w:Wd):Prop:=
 ZV Pg 59 #[a,(.string { data := #[10] })] (Zd R) w λ b w=>
 opV Pg (ZF .add 9 true b (.string { data := #[10] })) (Zd R) w λ c w=>
 R (.returned (.tuple #[c,(.int .i64 0)])) w
def Zb2 (c f g d:Vl) (Zx:Vl→Vl→Vl→Wd→Prop) (R:RT) (w:Wd):Prop:=
 X0 22 g d R w λ h w=>
 L0 60 h R w λ i w=>
 opV Pg (alloc 60 true (.tuple #[])) (Zd R) w λ a w=>
 S0 60 a i R w λ w=>
 Zo (λ (b:Vl) (w:Wd)=>
 MN c f a d b Zx R w) λ e=>
 Zn c true (
 F0 60 a 0 R w λ j w=>
 L0 9 j R w λ k w=>
 F0 60 a 1 R w λ l w=>
 L0 9 l R w λ m w=>
 opV Pg (buildSlice 94 2 #[(0,k),(1,m)]) (Zd R) w λ n w=>
 C0 52 #[n] R w λ b w=>
 e b w) (
 e undef w)
def Zb3 (a b d e c:Vl) (Zx:Vl→Vl→Vl→Wd→Prop) (R:RT) (w:Wd):Prop:=
 B0 .lss 3 false c e R w λ f w=>
 Zs f (
 Zb2 a b d c Zx R w) (
 N0 a R w λ g w=>
 Zs g (
 R (.returned (.tuple #[(.string { data := #[] }),(.int .i64 2)])) w) (
 Zb1 b R w))
def Zb4 (a c:Vl) (R:RT) (w:Wd):Prop:=
 F0 24 a 0 R w λ d w=>
 L0 9 d R w λ e w=>
 opV Pg (ZF .add 9 true (.string { data := #[109,97,112,112,105,110,103,32] }) e) (Zd R) w λ f w=>
 opV Pg (buildSlice 94 1 #[(0,f)]) (Zd R) w λ g w=>
 F0 24 a 1 R w λ h w=>
 L0 22 h R w λ b w=>
 G0 22 3 b R w λ i w=>
 GD (λ j k l w Zx=>
 Zb3 j k b i l Zx R w) c g (.int .i64 0) w
def n26 (b:Vl) (R:RT) (w:Wd):Prop:=
 opV Pg (box 24 b) (Zd R) w λ a w=>
 F0 24 a 0 R w λ c w=>
 L0 9 c R w λ d w=>
 opV Pg (buildSlice 94 1 #[(0,d)]) (Zd R) w λ e w=>
 C0 52 #[e] R w λ f w=>
 Zb4 a f R w
set_option maxHeartbeats 40000000 in
theorem Zj1 {t0:Vl} {R:RT} {w:Wd} (h:n26 t0 R w):Calls Pg 25 #[t0] w R:=by
 refine yD func25 ?_
 refine zs<|zr<|yv h λ _ w h=>zm<|zm<|zn<|zk<|zs<|zr<|yv h λ _ w h=>yv h λ _ w h=>yS h λ _ w h=>yc h c52 λ _ w h=>zm<|zn ?_
 refine zk<|zs<|zr<|yv h λ _ w h=>yv h λ _ w h=>yb h λ _ w h=>yS h λ _ w h=>zm<|zn<|zk<|zs<|zs<|zr<|yv h λ _ w h=>yv h λ _ w h=>?_
 refine yx h λ _ w h=>zm<|zn<|zk<|Zl<|yl3 [4,5,7,9,21,22,23,24,25,26,27,28,29,30,31,32,33,34,35,36,37,38,39,40,41,42,43,44,45,46,47,48,49,50,51,52,53,54,55,56,57,58,59,60,61,62,63,64,65,66] 4 5 21 h λ σ w next h=>zs<|zr<|yb h λ _ w h=>zn<|zk<|zs<|yC h (λ h=>?_) λ h=>?_
 · refine Zj<|zk<|zs<|Zl<|zs<|zr<|yv h λ _ w h=>yv h λ _ w h=>yv h λ _ w h=>yu h λ w h=>zn<|zk<|zs<|Zt<|yG 2 ?_
   refine zm<|zm<|zn<|yg1 6 1 true [27,28,29,30,31,32] 32 h (λ _ T hT h=>?_) λ σ w h=>?_
   · refine yv h λ _ w h=>yv h λ _ w h=>yv h λ _ w h=>yv h λ _ w h=>yS h λ _ w h=>yc h c52 λ _ w h=>zn ?_
     exact zt hT h
   refine yG 2<|yp h λ _ h=>zm<|zn<|ZK<|zk<|zs<|zr<|zm<|yv h λ _ w h=>yv h λ _ w h=>yb h λ _ w h=>yb h λ _ w h=>yv h λ _ w h=>yv h λ _ w h=>?_
   refine yb h λ _ w h=>yS h λ _ w h=>yx h λ _ w h=>zm<|zn<|zk<|zs<|zs<|zr<|yv h λ _ w h=>yv h λ _ w h=>yx h λ _ w h=>zm<|zn<|zk ?_
   refine Zl<|yl3 [4,5,9,47,48,49,50,51,52,53,54,55,56,57,58,59,60,61,62] 4 5 47 h λ σ w next h=>zs<|zr<|yb h λ _ w h=>zn<|zk<|zs<|yC h (λ h=>?_) λ h=>?_
   · refine Zj<|zk<|zs<|Zl<|zs<|zr<|yv h λ _ w h=>yv h λ _ w h=>yv h λ _ w h=>yu h λ w h=>zn<|zk<|zs<|Zt<|yG 2 ?_
     refine zm<|zm<|zn<|yg1 2 1 true [53,54] 54 h (λ _ T hT h=>?_) λ σ w h=>?_
     · refine yv h λ _ w h=>yc h c58 λ _ w h=>zn ?_
       exact zt hT h
     refine yG 2<|yp h λ _ h=>zm<|zn<|ZK<|zk<|zr<|zm<|yv h λ _ w h=>yc h c60 λ _ w h=>yc h c59 λ _ w h=>yS h λ _ w h=>yx h λ _ w h=>zm<|zn ?_
     exact Zf<|zk<|zr<|yb h λ _ w h=>zm<|zn<|zk<|⟨rfl,h⟩
   refine ZM<|Ze<|Ze<|Zu<|zk<|zr<|zm<|yS h λ _ w h=>yx h λ _ w h=>zm<|zn<|Zf<|zk<|zr<|yb h λ _ w h=>?_
   exact zm<|zn<|zk<|⟨rfl,h⟩
 refine ZM<|Ze<|Ze<|Zu<|zk<|zs<|zs<|zr<|zm<|yv h λ _ w h=>zn<|zk<|yC h (λ h=>zs<|zr<|zm<|zm<|zn<|zk<|Zg<|Zb<|Yk rfl rfl rfl h) λ h=>Zj ?_
 exact zk<|zs<|zr<|zm<|yc h c59 λ _ w h=>yb h λ _ w h=>zm<|zm<|zn<|zk<|Zg<|Yk rfl rfl rfl h
def n17 (g h:Vl) (R:RT) (w:Wd):Prop:=
 opV Pg (box 24 g) (Zd R) w λ b w=>
 opV Pg (box 24 h) (Zd R) w λ c w=>
 opV Pg (alloc 88 true (.tuple #[])) (Zd R) w λ d w=>
 opU Pg (storeAt 88 d (.func (.func 62) #[] #[])) (Zd R) w λ w=>
 opV Pg (makeFunc (.func 65) #[] #[d]) (Zd R) w λ i w=>
 F0 24 b 0 R w λ j w=>
 L0 9 j R w λ k w=>
 F0 24 c 0 R w λ l w=>
 L0 9 l R w λ m w=>
 B0 .eql 9 false k m R w λ e w=>
 Zo (λ (a:Vl) (w:Wd)=>
 Zy e a (.bool false) λ n=>
 R (.returned n) w) λ f=>
 Zn e true (
 F0 24 b 1 R w λ o w=>
 L0 22 o R w λ p w=>
 F0 24 c 1 R w λ q w=>
 L0 22 q R w λ r w=>
 C0 67 #[p,r,i] R w λ a w=>
 f a w) (
 f undef w)
theorem ZjU {t0 t1:Vl} {R:RT} {w:Wd} (h:n17 t0 t1 R w):Calls Pg 27 #[t0,t1] w R:=by
 refine yD func27 ?_
 refine zs<|zr<|yv h λ _ w h=>yv h λ _ w h=>zm<|zn<|zk<|zs<|zr<|yv h λ _ w h=>yu h λ w h=>zn<|zk<|zs<|zr ?_
 refine yF h λ _ w h=>zm<|zn<|zk<|zs<|Zt<|yG 6<|yv h λ _ w h=>yv h λ _ w h=>yv h λ _ w h=>yv h λ _ w h=>yb h λ _ w h=>zm<|zn<|yg1 6 5 true [14,15,16,17,18,19] 19 h (λ _ T hT h=>?_) λ σ w h=>?_
 · refine yv h λ _ w h=>yv h λ _ w h=>yv h λ _ w h=>yv h λ _ w h=>zm<|yc h c67 λ _ w h=>zn ?_
   exact zt hT h
 exact yG 2<|yp h λ _ h=>zm<|zn<|ZK<|zk<|Zg<|Zi rfl rfl h
def Rg (a b:Vl) (c:WPr) (R:RT) (w:Wd):Prop:=
 F0 60 a 2 R w λ d w=>
 L0 58 d R w λ e w=>
 F0 123 b 0 R w λ f w=>
 L0 9 f R w λ g w=>
 F0 123 b 0 R w λ h w=>
 L0 9 h R w λ i w=>
 opV Pg (build 43 #[(0,g),(1,(.int .i64 1)),(2,i)]) (Zd R) w λ j w=>
 opV Pg (buildSlice 58 1 #[(0,j)]) (Zd R) w λ k w=>
 opV Pg (Builtin.append_ #[58,58] 58 #[e,k]) (Zd R) w λ l w=>
 F0 60 a 2 R w λ m w=>
 S0 58 m l R w λ w=>
 c w
def Rh (a b:Vl) (c:WPr) (R:RT) (w:Wd):Prop:=
 F0 60 a 2 R w λ d w=>
 L0 58 d R w λ e w=>
 F0 123 b 0 R w λ f w=>
 L0 9 f R w λ g w=>
 F0 123 b 0 R w λ h w=>
 L0 9 h R w λ i w=>
 opV Pg (build 43 #[(0,g),(1,(.int .i64 6)),(2,i)]) (Zd R) w λ j w=>
 opV Pg (buildSlice 58 1 #[(0,j)]) (Zd R) w λ k w=>
 opV Pg (Builtin.append_ #[58,58] 58 #[e,k]) (Zd R) w λ l w=>
 F0 60 a 2 R w λ m w=>
 S0 58 m l R w λ w=>
 c w
def Ri (b c e d:Vl) (Yj:KV) (R:RT) (w:Wd):Prop:=
 B0 .geq 124 true d (.int .i64 4) R w λ f w=>
 Zo (λ (w:Wd)=>
 B0 .add 3 true e (.int .i64 1) R w λ g w=>
 Yj g w) λ a=>
 Zs f (
 Rh b c a R w) (
 B0 .neq 124 true d (.int .i64 0) R w λ h w=>
 Zs h (
 Rg b c a R w) (
 a w))
def Rj (a b c:Vl) (Zx:KV) (R:RT) (w:Wd):Prop:=
 F0 24 a 1 R w λ d w=>
 L0 22 d R w λ e w=>
 L0 60 b R w λ f w=>
 opV Pg (buildSlice 22 1 #[(0,f)]) (Zd R) w λ g w=>
 opV Pg (Builtin.append_ #[22,22] 22 #[e,g]) (Zd R) w λ h w=>
 F0 24 a 1 R w λ i w=>
 S0 22 i h R w λ w=>
 B0 .add 3 true c (.int .i64 1) R w λ j w=>
 Zx j w
def ZbM (c d b:Vl) (Yj:KV) (R:RT) (w:Wd):Prop:=
 X0 72 d b R w λ e w=>
 L0 123 e R w λ f w=>
 opV Pg (alloc 123 true (.tuple #[])) (Zd R) w λ a w=>
 S0 123 a f R w λ w=>
 L0 123 a R w λ g w=>
 C0 68 #[g] R w λ h w=>
 Ri c a b h Yj R w
def ZbN (a b:Vl) (R:RT) (w:Wd):Prop:=
 L0 24 b R w λ c w=>
 S0 24 a c R w λ w=>
 qW Pg 24 a w λ r0=>
 R (.returned (.tuple #[r0,(.int .i64 0)])) w
def ZbO (f g c:Vl) (Zx:KV) (R:RT) (w:Wd):Prop:=
 X0 25 g c R w λ h w=>
 L0 74 h R w λ i w=>
 opV Pg (alloc 74 true (.tuple #[])) (Zd R) w λ a w=>
 S0 74 a i R w λ w=>
 F0 74 a 0 R w λ j w=>
 L0 9 j R w λ k w=>
 F0 74 a 0 R w λ l w=>
 L0 9 l R w λ m w=>
 opV Pg (build 60 #[(0,k),(1,m)]) (Zd R) w λ n w=>
 opV Pg (alloc 60 true (.tuple #[])) (Zd R) w λ b w=>
 S0 60 b n R w λ w=>
 F0 74 a 1 R w λ o w=>
 L0 72 o R w λ d w=>
 G0 72 3 d R w λ p w=>
 Y6 (λ e w Yj=>
 B0 .lss 3 false e p R w λ q w=>
 Zs q (
 ZbM b d e Yj R w) (
 Rj f b c Zx R w)) (.int .i64 0) w
def ZbP (a:Vl) (R:RT) (w:Wd):Prop:=
 opV Pg (build 24 #[]) (Zd R) w λ b w=>
 S0 24 a b R w λ w=>
 qW Pg 24 a w λ r0=>
 R (.returned (.tuple #[r0,(.int .i64 2)])) w
def ZbQ (b e:Vl) (R:RT) (w:Wd):Prop:=
 F0 27 b 0 R w λ f w=>
 L0 9 f R w λ g w=>
 opV Pg (build 24 #[(0,g)]) (Zd R) w λ h w=>
 opV Pg (alloc 24 true (.tuple #[])) (Zd R) w λ a w=>
 S0 24 a h R w λ w=>
 F0 27 b 1 R w λ i w=>
 L0 25 i R w λ c w=>
 G0 25 3 c R w λ j w=>
 Y6 (λ d w Zx=>
 B0 .lss 3 false d j R w λ k w=>
 Zs k (
 ZbO a c d Zx R w) (
 ZbN e a R w)) (.int .i64 0) w
def n20 (c:Vl) (R:RT) (w:Wd):Prop:=
 opV Pg (box 27 c) (Zd R) w λ a w=>
 opV Pg (alloc 24 true (.tuple #[])) (Zd R) w λ b w=>
 L0 27 a R w λ d w=>
 C0 34 #[d] R w λ e w=>
 N0 e R w λ f w=>
 Zs f (
 ZbP b R w) (
 ZbQ a b R w)
set_option maxHeartbeats 40000000 in
theorem ZjX {t0:Vl} {R:RT} {w:Wd} (h:n20 t0 R w):Calls Pg 28 #[t0] w R:=by
 refine yD func28 ?_
 refine zs<|zr<|yv h λ _ w h=>yv h λ _ w h=>zm<|zn<|zk<|zs<|zs<|zr<|yv h λ _ w h=>yc h c34 λ _ w h=>yv h λ _ w h=>zn<|zk ?_
 refine yC h (λ h=>zs<|zr<|yB h λ _ w h=>yu h λ w h=>zm<|zn<|zk<|Zg<|Zb<|YH rfl rfl rfl h) λ h=>Zj<|zk<|zs<|zr<|yv h λ _ w h=>yv h λ _ w h=>yB h λ _ w h=>yv h λ _ w h=>yu h λ w h=>zn<|zk<|zs<|zs ?_
 refine zr<|yv h λ _ w h=>yv h λ _ w h=>yx h λ _ w h=>zm<|zn<|zk<|Zl<|yl1 [6,7,9,10,21,22,23,24,25,26,27,28,29,30,31,32,33,34,35,36,37,38,39,40,41,42,43,44,45,46,47,48,49,50,51,52,53,54,55,56,57,58,59,60,61,62,63,64,65,66,67,68,69,70,71,72] 21 h λ σ w next h=>zs<|zr<|yb h λ _ w h=>zn<|zk<|zs ?_
 refine yC h (λ h=>?_) λ h=>?_
 · refine Zj<|zk<|zs<|Zl<|zs<|zr<|yv h λ _ w h=>yv h λ _ w h=>yv h λ _ w h=>yu h λ w h=>zn<|zk<|zs<|zr<|yv h λ _ w h=>?_
   refine yv h λ _ w h=>yv h λ _ w h=>yv h λ _ w h=>yB h λ _ w h=>yv h λ _ w h=>yu h λ w h=>zn<|zk<|zs<|zs<|zr<|yv h λ _ w h=>yv h λ _ w h=>yx h λ _ w h=>zm ?_
   refine zn<|zk<|Zl<|yl1 [9,10,33,34,35,36,37,38,39,40,41,42,43,44,45,46,47,48,49,50,51,52,53,54,55,56,57,58,59,60,61,62,63,64,65] 33 h λ σ w next h=>zs<|zr<|yb h λ _ w h=>zn<|zk<|zs<|yC h (λ h=>?_) λ h=>?_
   · refine Zj<|zk<|zs<|Zl<|zs<|zr<|yv h λ _ w h=>yv h λ _ w h=>yv h λ _ w h=>yu h λ w h=>zn<|zk<|zs<|zr<|yv h λ _ w h=>?_
     refine yc h c68 λ _ w h=>zm<|zn<|zk<|Zl<|zs<|zr<|zm<|yb h λ _ w h=>zm<|zn<|zk<|yJ0 [42,43,44,45,46,47,48,49,50,51,52,53,54,55,56,57,58,59,60,61,62,63,64] h (λ _ _ hkK3 h=>?_) λ σ w h=>?_
     · refine yC h (λ h=>?_) λ h=>?_
       · refine zr<|yv h λ _ w h=>yv h λ _ w h=>yv h λ _ w h=>yv h λ _ w h=>yv h λ _ w h=>yv h λ _ w h=>yB h λ _ w h=>yS h λ _ w h=>yx h λ _ w h=>yv h λ _ w h=>yu h λ w h=>zn<|zk ?_
         exact zt hkK3 h
       refine zs<|zr<|zm<|yb h λ _ w h=>zm<|zn<|zk<|yC h (λ h=>?_) λ h=>?_
       · refine zr<|yv h λ _ w h=>yv h λ _ w h=>yv h λ _ w h=>yv h λ _ w h=>yv h λ _ w h=>yv h λ _ w h=>yB h λ _ w h=>yS h λ _ w h=>yx h λ _ w h=>yv h λ _ w h=>yu h λ w h=>zn<|zk ?_
         exact zt hkK3 h
       refine Zj<|zk ?_
       exact zt hkK3 h
     exact Zf<|Zf<|zk<|zr<|yb h λ _ w h=>zm<|zn<|zk<|⟨rfl,h⟩
   refine ZM<|Ze<|Ze<|Zu<|zk<|zr<|yv h λ _ w h=>yv h λ _ w h=>yv h λ _ w h=>yS h λ _ w h=>yx h λ _ w h=>yv h λ _ w h=>yu h λ w h=>zn<|Zf ?_
   exact zk<|zr<|yb h λ _ w h=>zm<|zn<|zk<|⟨rfl,h⟩
 exact ZM<|Ze<|Ze<|Zu<|zk<|zs<|zr<|yv h λ _ w h=>yu h λ w h=>zm<|zn<|zk<|Zg<|YH rfl rfl rfl h
theorem AC (sep:UInt8) (xs:List (List UInt8)):Ky ⟨#[sep]⟩ (xs.map mkB)=mkB (Go.Lib.join xs [sep]):=by
 unfold Ky mkB
 rw [List.map_map]
 have:((λ x:BAr=>x.data.toList) ∘ λ l:List UInt8=>(⟨l.toArray⟩:BAr))=id:=by funext x;rfl
 rw [this,List.map_id]
theorem Xc (l:List UInt8):(mkB l).size=l.length:=by unfold mkB ByteArray.size;simp
theorem DA (r:MrD):⟨#[109,97,112,32]⟩++r.fr++⟨#[32]⟩++r.to=mkB (Q4 r):=by
 apply Ge
 simp [Q4,jt,mkB]
theorem CW (n:BAr):⟨#[109,97,112,112,105,110,103,32]⟩++n=mkB (WD n):=by
 apply Ge
 simp [WD,Qt,mkB]
theorem FF {w w0:Wd} {QP:PEn} {k:KV} {base:Nat} {v:Vl} {l:List BAr} (s:BAr) (hO:UH w base v l) (hb:base≤w.heap.size) (hl:l.length≤1000000) (e:Ext w0 w) (h0:w0.heap.size≤base)
 (hk:∀ v' w',UH w' base v' (l++[s])→Ext w0 w'→base≤w'.heap.size→k v' w') :
 opV Pg (buildSlice 94 1 #[(0,.string s)]) QP w λ t w=>opV Pg (Builtin.append_ #[94,94] 94 #[v,t]) QP w k:=by
 simp (disch:=try exact DI) only [↓PR,QR,simprocAttr]
 generalize hY:World.alloc w _=Y
 have eY:Ext w Y:=by rw [← hY];exact (Ext.refl w).alloc _
 have oY:Y.cell? ⟨w.heap.size,0,none⟩=some (.string s):=by rw [← hY,(Za (Zv _ _ _)).1];rfl
 clear hY
 have sY:=eY.size
 refine VD s (hO.ext eY) oY (by omega) (by omega) ?_
 intro v' w' hO' hg
 have hlo:∀ b,v.ownBlock=some b→base≤b:=λ b hb=>(World.ownsRow.lt hO b hb).1
 exact hk v' w' hO' ((e.trans eY).grown hg λ b hb=>Nat.le_trans h0 (hlo b hb)) (by have:=hg.size;omega)
def SmM (m:Yo):Prop:=(Yx m).length≤10000∧(∀ l∈Yx m,l.length≤10000)∧∀ r∈m.rules,∀ x∈r.fields,x.bytes.length≤10000∧x.table.length≤10000
section
variable {a0 w:Wd} {base:Nat} {lv:Vl} {ls:List BAr} {R:RT}
theorem NW (hE:Vf a0) (e:Ext a0 w) {v:Vl} {x:FrD} (hO:UH w base v (XO x)) (h1:x.table.length≤10000) (h2:(YY x).length≤10000):Ret Pg 59 #[v,.string ⟨#[32]⟩] w λ r w'=>r = .string (mkB (YY x))∧Ext w w':=by
 have hj:Ky ⟨#[32]⟩ (XO x)=mkB (YY x):=by unfold XO;rw [AC];rfl
 have hl:(XO x).length≤10004:=by
  unfold XO YV Vd
  rw [List.length_map]
  repeat' split
  all_goals simp only [List.length_cons,List.length_nil,List.length_map]
  all_goals omega
 have:=jR hO ⟨#[32]⟩ (by unfold XO YV;simp) (by omega) (by rw [hj,Xc];omega)
 rwa [hj] at this
theorem Pr (hE:Vf a0) (i:Nat) (hi:i≤1000000) (r:MrD) (A:Option Addr) (c:Nat) (hF:QZ a0 (.slice A r.fields.length c) r.fields) (hin:∀ x∈r.fields,inF x=true) (hsm:∀ x∈r.fields,x.bytes.length≤10000∧x.table.length≤10000) (hln:∀ x∈r.fields,(YY x).length≤10000)
 (e:Ext a0 w) (hO:UH w base lv ls) (hb:base≤w.heap.size) (h0:a0.heap.size≤base) (hl:ls.length+r.fields.length≤100000) (bf:Bool) {Zx:Vl→Vl→Vl→Wd→Prop}
 (hK:∀ lv' w',Ext a0 w'→UH w' base lv' (ls++(r.fields.map YY++[G3]).map mkB)→base≤w'.heap.size→Zx (.bool (bf&&r.fields.all Yu)) lv' (.int .i64 ((i+1:Nat):Int)) w') :
 GD (λ t1004 t1005 t47 w VR=>opV Pg (ZF .lss 3 false t47 (.int .i64 r.fields.length)) (Zd R) w λ t48 w=>Zs t48 (Rw (.slice A r.fields.length c) t47 t1004 t1005 VR R w) (Rv (.int .i64 i) t1004 t1005 Zx R w)) (.bool bf) lv (.int .i64 0) w:=by
 obtain ⟨A',c',hv,hlc,hcm,hlm,Y1⟩:=Zc.open hF
 injection hv with hv1 _ hv2
 subst hv1 hv2
 refine Uj (λ x y z w'=>∃ k:Nat,x = .bool (bf&&(r.fields.take k).all Yu)∧z = .int .i64 k∧k≤r.fields.length∧Ext a0 w'∧UH w' base y (ls++((r.fields.take k).map YY).map mkB)∧base≤w'.heap.size) (λ _ _ z _=>r.fields.length - (intOf z).toNat) ⟨0,by simp,rfl,by omega,e,by simpa using hO,hb⟩ ?_
 rintro _ y _ w1 ⟨k,rfl,rfl,hk,e1,hO1,hb1⟩
 have Y8:(ls++((r.fields.take k).map YY).map mkB).length≤1000000:=by
  rw [List.length_append,List.length_map,List.length_map,List.length_take]
  omega
 rcases ZT hk with ⟨x,hx,_,Yq,ZY⟩ | ⟨hk,_,ZY⟩
 · have hxm:=List.mem_of_getElem? hx
   obtain ⟨b,o,cs,rfl,_,hA,hEx⟩:=Y1 k x hx
   obtain ⟨bv,tv,rfl,hB,hT,o1,o2⟩:=hEx.op
   simp (disch:=try exact DI) only [↓PR,QR,simprocAttr,ZY]
   unfold Rw
   simp (disch:=try exact DI) only [↓PR,QR,simprocAttr,hA.c7 e1]
   have oV:=Zv w1 (Zz x bv tv).toArray 43
   have eV:Ext w1 (w1.alloc (.cells (Zz x bv tv).toArray 43)):=(Ext.refl w1).alloc _
   generalize (w1.alloc (.cells (Zz x bv tv).toArray 43))=V at oV eV ⊢
   obtain ⟨p9,hp9⟩:∃ p9,w1.heap.size=p9:=⟨_,rfl⟩
   rw [hp9] at oV ⊢
   have EV:=e1.trans eV
   have fin:∀ (t54:Vl) (w2:Wd),Ext V w2→(∀ kk,Zy (.bool (bf&&(r.fields.take k).all Yu)) t54 (.bool false) kk=kk (.bool (bf&&(r.fields.take (k+1)).all Yu))) →
    Ru (.pointer (some ⟨p9,0,none⟩)) (.int .i64 k) t54 (.bool (bf&&(r.fields.take k).all Yu)) y (λ x y z w'=>(∃ k:Nat,x = .bool (bf&&(r.fields.take k).all Yu)∧z = .int .i64 k∧k≤r.fields.length∧Ext a0 w'∧UH w' base y (ls++((r.fields.take k).map YY).map mkB)∧base≤w'.heap.size)∧r.fields.length - (intOf z).toNat < r.fields.length - (intOf (Value.int IntKind.i64 k)).toNat) R w2:=by
    intro t54 w2 e2 hp
    have E2:=EV.trans e2
    unfold Ru
    rw [hp]
    simp (disch:=try exact DI) only [↓PR,QR,simprocAttr,(Za (e2.obj oV)).1]
    obtain ⟨s1,s2⟩:=hsm x hxm
    refine Zk (jd w2 (hE.ext E2) _ x ⟨_,_,rfl,hB.ext E2,hT.ext E2⟩ (hin x hxm) (by omega) (by omega)) ?_
    rintro u w3 ⟨hu,e3⟩
    have E3:=E2.trans e3
    refine zcr (NW hE E3 hu s2 (hln x hxm)) λ w4 e4=>?_
    have E4:=E3.trans e4
    unfold Zb0
    have e14:=eV.trans (e2.trans (e3.trans e4))
    refine FF (w0:=a0) (mkB (YY x)) (hO1.ext e14) (by have:=e14.size;omega) Y8 E4 h0 λ v' w5 hO5 e5 hb5=>?_
    simp (disch:=try exact DI) only [↓PR,QR,simprocAttr]
    refine ⟨⟨k+1,rfl,rfl,Yq,e5,?_,hb5⟩,Ya (kd := .i64) Yq⟩
    rw [XM hx,List.map_append,List.map_append,← List.append_assoc]
    exact hO5
   have Zfr:(r.fields.take (k+1)).all Yu=((r.fields.take k).all Yu&&Yu x):=by rw [XM hx,List.all_append];simp
   generalize hfb:(bf&&(r.fields.take k).all Yu)=fb at fin ⊢
   have hfx:(bf&&(r.fields.take (k+1)).all Yu)=(fb&&Yu x):=by rw [Zfr,← hfb,Bool.and_assoc]
   cases fb with
   | false=>
    simp (disch:=try exact DI) only [↓PR,QR,simprocAttr]
    exact fin _ V (Ext.refl _) λ kk=>by rw [hfx];rfl
   | true=>
    simp (disch:=try exact DI) only [↓PR,QR,simprocAttr,(Za oV).1]
    refine zcr (GJ V _ x ⟨_,_,rfl,hB.ext EV,hT.ext EV⟩) λ w2 e2=>?_
    exact fin _ w2 e2 λ kk=>by rw [hfx];rfl
 · subst hk
   rw [List.take_length] at hO1
   rw [List.take_length] at Y8
   have hw:IntKind.i64.wrap ((i:Int)+1)=((i+1:Nat):Int):=by rw [XC (by omega) (by omega)];omega
   simp (disch:=try exact DI) only [↓PR,QR,simprocAttr,ZY]
   unfold Rv
   refine FF (w0:=a0) ⟨#[101,110,100]⟩ hO1 hb1 Y8 e1 h0 λ v' w5 hO5 e5 hb5=>?_
   simp (disch:=try exact DI) only [↓PR,QR,simprocAttr,hw]
   rw [List.take_length]
   refine hK v' w5 e5 ?_ hb5
   rw [List.map_append,← List.append_assoc]
   exact hO5
theorem ZeB (hE:Vf a0) (i:Nat) (hi:i≤1000000) (r:MrD) (fv:Vl) (hF:QZ a0 fv r.fields) (hin:∀ x∈r.fields,inF x=true) (hsm:∀ x∈r.fields,x.bytes.length≤10000∧x.table.length≤10000) (hln:∀ x∈r.fields,(YY x).length≤10000) (hop:(Q4 r).length≤10000)
 (e:Ext a0 w) (hO:UH w base lv ls) (hb:base≤w.heap.size) (h0:a0.heap.size≤base) (hl:ls.length+r.fields.length≤50000) (bf:Bool) (t4 t32:Vl) (hp:∀ kk,Zy t4 t32 (.bool false) kk=kk (.bool bf)) (p7:Nat) (o7:w.heap[p7]?=some (.cells (Z6 r fv).toArray 60 (0,0))) {Zx:Vl→Vl→Vl→Wd→Prop}
 (hK:∀ lv' w',Ext a0 w'→UH w' base lv' (ls++(Y4 r).map mkB)→base≤w'.heap.size→Zx (.bool (bf&&r.fields.all Yu)) lv' (.int .i64 ((i+1:Nat):Int)) w') :
 MN t4 lv (.pointer (some ⟨p7,0,none⟩)) (.int .i64 i) t32 Zx R w:=by
 have ht:=congrArg ByteArray.size (DA r)
 rw [Xc] at ht
 simp only [size_append] at ht
 have g4:(⟨#[109,97,112,32]⟩:BAr).size=4:=rfl
 have g1:(⟨#[32]⟩:BAr).size=1:=rfl
 rw [g4,g1] at ht
 have lo7:∀ b,lv.ownBlock=some b→b≠p7:=by
  rintro b hb rfl
  obtain ⟨cs,T,f,hc⟩:=ZW.cellsAt hO _ hb
  rcases hO.2 with ⟨rfl,_⟩ | ⟨g',cap,cur,rfl,_,hg',_⟩
  · cases hb
  · have:g'=b:=by simpa [Value.ownBlock] using hb
    subst this
    rw [o7] at hg'
    cases hg'
 have c7:=(Za o7).1
 obtain ⟨A,c,hv,_⟩:=Zc.open hF
 unfold MN
 rw [hp]
 simp (disch:=try exact DI) only [↓PR,QR,simprocAttr,c7]
 rw [U0 _ _ _ _ (by omega),U0 _ _ _ _ (by rw [size_append];omega)]
 simp (disch:=try exact DI) only [↓PR,QR,simprocAttr,c7]
 rw [U0 _ _ _ _ (by rw [size_append,size_append];omega),DA]
 simp (disch:=try exact DI) only [↓PR,QR,simprocAttr]
 have oY:(w.alloc (.cells #[.string (mkB (Q4 r))] 9)).cell? ⟨w.heap.size,0,none⟩=some (.string (mkB (Q4 r))):=by rw [QF];rfl
 have eY:Ext w (w.alloc (.cells #[.string (mkB (Q4 r))] 9)):=(Ext.refl w).alloc _
 generalize (w.alloc (.cells #[.string (mkB (Q4 r))] 9))=Y at oY eY ⊢
 have sY:=eY.size
 refine VD (mkB (Q4 r)) (hO.ext eY) oY (by omega) (by omega) ?_
 intro v' w' hO' hg
 have hlo:∀ b,lv.ownBlock=some b→base≤b:=λ b hb=>(World.ownsRow.lt hO b hb).1
 have e':Ext a0 w':=(e.trans eY).grown hg λ b hb=>Nat.le_trans h0 (hlo b hb)
 have l7:=(Array.getElem?_eq_some_iff.1 o7).1
 have o7':=(hg.block p7 (by omega) λ e=>lo7 p7 e.symm rfl).trans (eY.obj o7)
 simp (disch:=try exact DI) only [↓PR,QR,simprocAttr,(Za o7').1]
 rw [hv] at hF ⊢
 simp (disch:=try exact DI) only [↓PR,QR,simprocAttr]
 refine Pr hE i hi r A c hF hin hsm hln e' hO' (by have:=hg.size;omega) h0 (by rw [List.length_append];simp only [List.length_cons,List.length_nil];omega) bf λ lv2 w2 e2 hO2 hb2=>?_
 refine hK lv2 w2 e2 ?_ hb2
 unfold Y4
 rw [List.map_cons]
 rw [List.append_assoc] at hO2
 exact hO2
end
theorem Om {m:Yo} {r:MrD} (h:r∈m.rules):r.fields.length≤(Yx m).length∧∀ x∈Y4 r,x∈Yx m:=by
 unfold Yx
 obtain ⟨l1,l2,hl⟩:=List.append_of_mem h
 constructor
 · rw [hl,List.flatMap_append,List.flatMap_cons]
   simp only [List.length_cons,List.length_append]
   have:(Y4 r).length=r.fields.length+2:=by unfold Y4;simp
   omega
 · intro x hx
   exact List.mem_cons_of_mem _ (List.mem_flatMap.2 ⟨r,h,hx⟩)
theorem Ts (m:Yo):m.rules.length≤(Yx m).length:=by
 unfold Yx
 rw [List.length_cons]
 have:∀ l:List MrD,l.length≤(l.flatMap Y4).length:=by
  intro l
  induction l with
  | nil=>exact Nat.le_refl _
  | cons r l ih=>
   rw [List.flatMap_cons,List.length_append,List.length_cons]
   have:1≤(Y4 r).length:=by unfold Y4;simp
   omega
 have:=this m.rules
 omega
theorem Tc (m:Yo) (k:Nat):(Yx ⟨m.name,m.rules.take k⟩).length≤(Yx m).length:=by
 unfold Yx
 rw [List.length_cons,List.length_cons]
 have:m.rules=m.rules.take k++m.rules.drop k:=(List.take_append_drop k m.rules).symm
 conv=>rhs;rw [this]
 rw [List.flatMap_append,List.length_append]
 show (List.flatMap Y4 (m.rules.take k)).length+1≤_
 omega
theorem IV {B:Nat} {l:List (List UInt8)} (h:∀ x∈l,x.length≤B):(Ky ⟨#[10]⟩ (l.map mkB)).size≤l.length*(B+1):=by
 have:=IS (sep:=⟨#[10]⟩) (B:=B) (xs:=l.map mkB) λ x hx=>by
  obtain ⟨y,hy,rfl⟩:=List.mem_map.1 hx
  rw [Xc]
  exact h y hy
 rwa [List.length_map] at this
def JW (m:Yo):Vl := .tuple #[.string (if Ug m=true then V8 m else ⟨#[]⟩),.int .i64 (if Ug m=true then 0 else 2)]
theorem G4 (w0:Wd) (hE:Vf w0) (v:Vl) (m:Yo) (hm:YO w0 v m) (hin:∀ r∈m.rules,∀ x∈r.fields,inF x=true) (hsm:SmM m):Ret Pg 25 #[v] w0 λ r w'=>r=JW m∧Ext w0 w':=by
 obtain ⟨rv,rfl,hR,t1⟩:=hm.op
 obtain ⟨z1,z2,z3⟩:=hsm
 obtain ⟨A,c,rfl,hlc,hcm,hlm,Y1⟩:=Zc.open hR
 have hrl:=Ts m
 have hhd:(WD m.name).length≤10000:=z2 _ (by unfold Yx;exact List.mem_cons_self ..)
 refine Zj1 (R:=ZI _) ?_;unfold n26
 rw [YB]
 have q1:=Zv w0 (ZL m (.slice A m.rules.length c)).toArray 24
 have e1:Ext w0 (w0.alloc (.cells (ZL m (.slice A m.rules.length c)).toArray 24)):=(Ext.refl w0).alloc _
 generalize (w0.alloc (.cells (ZL m (.slice A m.rules.length c)).toArray 24))=W at q1 e1 ⊢
 obtain ⟨p1,hp1⟩:∃ p1,w0.heap.size=p1:=⟨_,rfl⟩
 rw [hp1] at q1 ⊢
 simp (disch:=try exact DI) only [↓PR,QR,simprocAttr,(Za q1).1]
 refine Zk (Kl W m.name) ?_
 rintro _ w1 ⟨rfl,e2⟩
 have E2:=e1.trans e2
 have q2:=e2.obj q1
 have lq:=(Array.getElem?_eq_some_iff.1 q2).1
 have ht:=congrArg ByteArray.size (CW m.name)
 rw [Xc] at ht
 simp only [size_append] at ht
 unfold Zb4
 simp (disch:=try exact DI) only [↓PR,QR,simprocAttr,(Za q2).1]
 rw [U0 _ _ _ _ (by omega),CW]
 simp (disch:=try exact DI) only [↓PR,QR,simprocAttr,(Za q2).1]
 have hO:=U3 w1 [mkB (WD m.name)] (by simp) E2.size
 have eV:Ext w1 (w1.alloc (.cells (([mkB (WD m.name)]:List BAr).map Value.string).toArray 9)):=(Ext.refl w1).alloc _
 change GD _ _ _ _ (w1.alloc (.cells (([mkB (WD m.name)]:List BAr).map Value.string).toArray 9))
 generalize (w1.alloc (.cells (([mkB (WD m.name)]:List BAr).map Value.string).toArray 9))=V at hO eV ⊢
 have EV:=E2.trans eV
 refine Uj (λ x y z w'=>∃ k:Nat,x = .bool (Z4 m.name&&(m.rules.take k).all Wv)∧z = .int .i64 k∧k≤m.rules.length∧Ext w0 w'∧UH w' w0.heap.size y ((Yx ⟨m.name,m.rules.take k⟩).map mkB)) (λ _ _ z _=>m.rules.length - (intOf z).toNat) ⟨0,by simp,rfl,by omega,EV,by unfold Yx;simpa using hO⟩ ?_
 rintro _ y _ w3 ⟨k,rfl,rfl,hk,e3,hO3⟩
 unfold Zb3
 rcases ZT hk with ⟨r,hr,_,Yq,ZY⟩ | ⟨hk,_,ZY⟩
 · have hrm:=List.mem_of_getElem? hr
   obtain ⟨b,o,cs,rfl,_,hA,hEr⟩:=Y1 k r hr
   obtain ⟨fv,rfl,hF,o1⟩:=hEr.op
   obtain ⟨hfl,hlr⟩:=Om hrm
   simp (disch:=try exact DI) only [↓PR,QR,simprocAttr,ZY]
   unfold Zb2
   simp (disch:=try exact DI) only [↓PR,QR,simprocAttr,hA.c3 e3]
   have oV:=Zv w3 (Z6 r fv).toArray 60
   have eX:Ext w3 (w3.alloc (.cells (Z6 r fv).toArray 60)):=(Ext.refl w3).alloc _
   have sX:(w3.alloc (.cells (Z6 r fv).toArray 60)).heap.size=w3.heap.size+1:=World.size_alloc ..
   rw [← sX]
   generalize (w3.alloc (.cells (Z6 r fv).toArray 60))=X at oV eX ⊢
   obtain ⟨p7,hp7⟩:∃ p7,w3.heap.size=p7:=⟨_,rfl⟩
   rw [hp7] at oV ⊢
   have EX:=e3.trans eX
   have hll:=Tc m k
   have hnxt:Yx ⟨m.name,m.rules.take (k+1)⟩=Yx ⟨m.name,m.rules.take k⟩++Y4 r:=by
    unfold Yx
    rw [XM hr,List.flatMap_append,List.flatMap_cons,List.flatMap_nil,List.append_nil]
    rfl
   have hal:(m.rules.take (k+1)).all Wv=((m.rules.take k).all Wv&&Wv r):=by rw [XM hr,List.all_append];simp
   have fin:∀ (t32:Vl) (bf:Bool) (w4:Wd),Ext X w4→(∀ kk,Zy (.bool (Z4 m.name&&(m.rules.take k).all Wv)) t32 (.bool false) kk=kk (.bool bf))→bf=((Z4 m.name&&(m.rules.take k).all Wv)&&(Z4 r.fr&&Z4 r.to)) →
    MN (.bool (Z4 m.name&&(m.rules.take k).all Wv)) y (.pointer (some ⟨p7,0,none⟩)) (.int .i64 k) t32 (λ x y z w'=>(∃ k:Nat,x = .bool (Z4 m.name&&(m.rules.take k).all Wv)∧z = .int .i64 k∧k≤m.rules.length∧Ext w0 w'∧UH w' w0.heap.size y ((Yx ⟨m.name,m.rules.take k⟩).map mkB))∧m.rules.length - (intOf z).toNat < m.rules.length - (intOf (Value.int IntKind.i64 k)).toNat) (ZI λ r w'=>r=JW m∧Ext w0 w') w4:=by
    intro t32 bf w4 e4 hp hbf
    have E4:=EX.trans e4
    refine ZeB hE k (by omega) r fv (hF.ext (Ext.refl _)) (hin r hrm) (z3 r hrm) (λ x hx=>z2 _ (hlr _ (by unfold Y4;exact List.mem_cons_of_mem _ (List.mem_append_left _ (List.mem_map.2 ⟨x,hx,rfl⟩))))) (z2 _ (hlr _ (by unfold Y4;exact List.mem_cons_self ..))) E4 (hO3.ext (eX.trans e4)) E4.size (Nat.le_refl _) (by rw [List.length_map];omega) bf _ t32 hp p7 (e4.obj oV) λ lv' w' e' hO' hb'=>?_
    refine ⟨⟨k+1,?_,rfl,Yq,e',?_⟩,Ya (kd := .i64) Yq⟩
    · rw [hal,hbf]
      unfold Wv
      simp only [Bool.and_assoc]
    · rw [hnxt,List.map_append]
      exact hO'
   generalize hfb:(Z4 m.name&&(m.rules.take k).all Wv)=fb at fin ⊢
   cases fb with
   | false=>
    simp (disch:=try exact DI) only [↓PR,QR,simprocAttr]
    exact fin undef false X (Ext.refl _) (λ kk=>rfl) rfl
   | true=>
    simp (disch:=try exact DI) only [↓PR,QR,simprocAttr,(Za oV).1]
    refine Zk (Lt X r.fr r.to) ?_
    rintro _ w4 ⟨rfl,e4⟩
    exact fin _ _ w4 e4 (λ kk=>rfl) rfl
 · subst hk
   rw [List.take_length] at hO3
   have hfm:(Z4 m.name&&m.rules.all Wv)=Ug m:=rfl
   have hmm:(⟨m.name,m.rules⟩:Yo)=m:=rfl
   rw [List.take_length,hfm]
   rw [hmm] at hO3
   cases hfin:Ug m with
   | false=>
    simp (disch:=try exact DI) only [↓PR,QR,simprocAttr,ZY]
    exact ⟨by unfold JW;rw [hfin];rfl,e3⟩
   | true=>
    simp (disch:=try exact DI) only [↓PR,QR,simprocAttr,ZY]
    unfold Zb1
    have Jj:=IV z2
    have hmul:(Yx m).length*(10000+1)≤10000*(10000+1):=Nat.mul_le_mul_right _ z1
    have YN:0 < ((Yx m).map mkB).length:=by unfold Yx;simp
    refine zcr (jR hO3 ⟨#[10]⟩ YN (by rw [List.length_map];omega) (by omega)) λ w4 e4=>?_
    have g10:(⟨#[10]⟩:BAr).size=1:=rfl
    rw [U0 _ _ _ _ (by omega)]
    simp (disch:=try exact DI) only [↓PR,QR,simprocAttr]
    refine ⟨?_,e3.trans e4⟩
    unfold JW
    rw [hfin,if_pos rfl,if_pos rfl,AC]
    unfold V8 yZ
    rw [yg]
    rfl
section
variable {P:Program} {QP:PEn} {w:Wd} {k:KV}
theorem Za4 {t:TypeId} (hu:P.underlying t=some .string) (l:List UInt8) (a:Nat) (h1:a≤l.length):opV P (sliceAt t (.string ⟨l.toArray⟩) (some (.int .i64 (a:Int))) none none) QP w k=k (.string ⟨(l.drop a).toArray⟩) w:=by
 have g2:(a:Int)≤((⟨l.toArray⟩:BAr).size:Int):=by simp [ByteArray.size];omega
 have g3:(⟨l.toArray⟩:BAr).extract a (⟨l.toArray⟩:BAr).size=⟨(l.drop a).toArray⟩:=by
  apply ByteArray.ext
  simp [ByteArray.size,List.take_drop]
  rw [List.take_of_length_le (by omega)]
 refine ZX ?_
 simp [sliceAt,run_underlying hu,Instr.slice,Instr.sliceBounds,run_sliceBound,g2,g3]
theorem Za5 {t:TypeId} (hu:P.underlying t=some .string) (l:List UInt8) (b:Nat) (h2:b≤l.length):opV P (sliceAt t (.string ⟨l.toArray⟩) none (some (.int .i64 (b:Int))) none) QP w k=k (.string ⟨(l.take b).toArray⟩) w:=by
 have g2:(b:Int)≤((⟨l.toArray⟩:BAr).size:Int):=by simp [ByteArray.size];omega
 have g3:(⟨l.toArray⟩:BAr).extract 0 b=⟨(l.take b).toArray⟩:=by
  apply ByteArray.ext
  simp [List.take_drop]
 refine ZX ?_
 simp [sliceAt,run_underlying hu,Instr.slice,Instr.sliceBounds,run_sliceBound,g2,g3]
theorem Zna (l:List UInt8) (a:Nat) (h:a≤l.length):opV Pg (sliceAt 9 (.string (mkB l)) (some (.int .i64 (a:Int))) none none) QP w k=k (.string (mkB (l.drop a))) w:=Za4 underlying9 l a h
theorem TI (l:List UInt8) (a:Nat) (h:a≤l.length):opV Pg (sliceAt 9 (.string (mkB l)) none (some (.int .i64 (a:Int))) none) QP w k=k (.string (mkB (l.take a))) w:=Za5 underlying9 l a h
theorem Cw {t:TypeId} {m:Array (String×TypeId)} (hu:P.underlying t=some (.interface m)) (d:TypeId) (v:Vl):opV P (ZF .eql t true (.iface d v) .nilIface) QP w k=k (.bool false) w:=ZX (jI (MA 9999 hu d v))
theorem Cv {t:TypeId} {m:Array (String×TypeId)} (hu:P.underlying t=some (.interface m)):opV P (ZF .eql t true .nilIface .nilIface) QP w k=k (.bool true) w:=ZX (jI (MB 9999 hu))
end
def XQ (l:List UInt8):Int:=match Go.Lib.atoiAll l with
 | .ok v=>v
 | Go.Lib.NumEnd.syntax=>0
 | .range=>Go.Lib.atoiSat l
theorem IA {l:List UInt8} {v:Int} (h:Go.Lib.atoiAll l = .ok v) : -9223372036854775808≤v∧v≤9223372036854775807:=by
 have key:∀ (o:Go.Lib.NumEnd Nat),(Go.Lib.signless o = .ok v∨Go.Lib.signed o = .ok v) → -9223372036854775808≤v∧v≤9223372036854775807:=by
  intro o ho
  match o,ho with
  | Go.Lib.NumEnd.syntax,ho=>rcases ho with h | h<;>cases h
  | .range,ho=>rcases ho with h | h<;>cases h
  | .ok u,ho=>
   rcases ho with h | h
   · unfold Go.Lib.signless at h
     simp only at h
     split at h
     · cases h
     · injection h with h;omega
   · unfold Go.Lib.signed at h
     simp only at h
     split at h
     · cases h
     · injection h with h;omega
 cases l with
 | nil=>cases h
 | cons c r=>
  by_cases h45:c=45
  · subst h45
    rw [Go.Lib.atoiAll_minus] at h
    exact key _ (.inr h)
  by_cases h43:c=43
  · subst h43
    rw [Go.Lib.atoiAll_plus] at h
    exact key _ (.inl h)
  rw [Go.Lib.atoiAll_plain c r (λ e=>h43 (UInt8.toNat.inj (by rw [e];rfl))) (λ e=>h45 (UInt8.toNat.inj (by rw [e];rfl)))] at h
  exact key _ (.inl h)
theorem KZ (l:List UInt8):Qm (XQ l)=true:=by
 unfold Qm XQ
 simp only [Bool.and_eq_true,decide_eq_true_eq]
 split
 · rename_i h;exact IA h
 · omega
 · exact Go.Lib.atoiSat_bounds l
theorem Ka {l:List UInt8} {v:Int} (h:UL l=some v):XQ l=v:=by
 unfold UL at h
 unfold XQ
 match ho:Go.Lib.atoiAll l with
 | Go.Lib.NumEnd.syntax=>rw [ho] at h;cases h
 | .range=>rw [ho] at h;cases h
 | .ok u=>rw [ho] at h;injection h
theorem Nj {w:Wd} (hE:UD w) (s:BAr) (hs:s.size≤100000):Ret Pg 125 #[.string s] w λ r w'=>Ext w w'∧∃ e,r = .tuple #[.int .i64 (XQ s.data.toList),e]∧(((UL s.data.toList).isSome=true∧e = .nilIface)∨((UL s.data.toList).isSome=false∧∃ t x,e = .iface t x)):=by
 unfold XQ UL
 match h:Go.Lib.atoiAll s.data.toList with
 | .ok v=>
  refine Calls.mono (zA s (by omega) v h w) ?_
  rintro e w' ⟨rfl,rfl | ⟨t,rfl⟩⟩
  · exact ⟨_,rfl,Ext.refl _,_,rfl,.inl ⟨rfl,rfl⟩⟩
  · exact ⟨_,rfl,Ext.of_below (Go.Lib.bytesWorld_below w 5 t),_,rfl,.inl ⟨rfl,rfl⟩⟩
 | Go.Lib.NumEnd.syntax=>
  obtain ⟨ev,h1,h2⟩:=hE.syn
  refine Calls.mono (Kw s (by omega) h ev w h1 h2) ?_
  rintro e w' ⟨N,rfl,_,_,hb⟩
  exact ⟨_,rfl,Ext.of_below hb,_,rfl,.inr ⟨rfl,_,_,rfl⟩⟩
 | Go.Lib.NumEnd.range=>
  obtain ⟨ev,h1,h2⟩:=hE.rng
  refine Calls.mono (KQ s (by omega) h ev w h1 h2) ?_
  rintro e w' ⟨N,rfl,_,_,hb⟩
  exact ⟨_,rfl,Ext.of_below hb,_,rfl,.inr ⟨rfl,_,_,rfl⟩⟩
theorem Fq {α:Type} (p:α→Bool):∀ (l:List α) (k:Nat),k≤(l.takeWhile p).length→(k < (l.takeWhile p).length∧∃ c,l[k]?=some c∧p c=true)∨(k=(l.takeWhile p).length∧(l[k]?=none∨∃ c,l[k]?=some c∧p c=false))
 | [],k,h=>by
  have:k=0:=by simpa using h
  subst this
  exact .inr ⟨rfl,.inl rfl⟩
 | a::l,k,h=>by
  cases hp:p a with
  | false=>
   rw [List.takeWhile_cons,hp] at h ⊢
   have:k=0:=by simpa using h
   subst this
   exact .inr ⟨rfl,.inr ⟨a,rfl,hp⟩⟩
  | true=>
   rw [List.takeWhile_cons,hp] at h ⊢
   simp only [if_true,List.length_cons] at h ⊢
   cases k with
   | zero=>exact .inl ⟨by omega,a,rfl,hp⟩
   | succ k=>
    rcases Fq p l k (by omega) with ⟨h1,h2⟩ | ⟨h1,h2⟩
    · exact .inl ⟨by omega,h2⟩
    · exact .inr ⟨by omega,h2⟩
theorem Fs {α:Type} (p:α→Bool):∀ (l:List α),l.take (l.takeWhile p).length=l.takeWhile p
 | []=>rfl
 | a::l=>by
  cases hp:p a with
  | false=>rw [List.takeWhile_cons,hp];rfl
  | true=>
   rw [List.takeWhile_cons,hp]
   simp only [if_true,List.length_cons,List.take_succ_cons,Fs p l]
theorem DD {l:List UInt8} (h:l.head?≠some 45):Yc l=l.takeWhile WK:=by
 unfold Yc
 split
 · exact absurd rfl h
 · rfl
theorem Tg (l:List UInt8) (k:Nat) (hk:k≤(Yc l).length):(k < (Yc l).length∧∃ c,l[k]?=some c∧(WK c=true∨(WK c=false∧k=0∧c=45)))∨(k=(Yc l).length∧(l[k]?=none∨∃ c,l[k]?=some c∧WK c=false∧¬ (k=0∧c=45))):=by
 by_cases h:l.head?=some 45
 · obtain ⟨r,rfl⟩:∃ r,l=45::r:=by
    cases l with
    | nil=>cases h
    | cons a r=>injection h with h;subst h;exact ⟨r,rfl⟩
   have hp:Yc (45::r)=45::r.takeWhile WK:=rfl
   rw [hp,List.length_cons] at hk ⊢
   cases k with
   | zero=>exact .inl ⟨by omega,45,rfl,.inr ⟨by decide,rfl,rfl⟩⟩
   | succ k=>
    rcases Fq WK r k (by omega) with ⟨h1,c,h2,h3⟩ | ⟨h1,h2⟩
    · exact .inl ⟨by omega,c,h2,.inl h3⟩
    · refine .inr ⟨by omega,?_⟩
      rcases h2 with h2 | ⟨c,h2,h3⟩
      · exact .inl h2
      · exact .inr ⟨c,h2,h3,by omega⟩
 · rw [DD h] at hk ⊢
   rcases Fq WK l k hk with ⟨h1,c,h2,h3⟩ | ⟨h1,h2⟩
   · exact .inl ⟨h1,c,h2,.inl h3⟩
   · refine .inr ⟨h1,?_⟩
     rcases h2 with h2 | ⟨c,h2,h3⟩
     · exact .inl h2
     · refine .inr ⟨c,h2,h3,?_⟩
       rintro ⟨rfl,rfl⟩
       apply h
       cases l with
       | nil=>cases h2
       | cons a r=>exact h2
theorem HT (l:List UInt8):l.take (Yc l).length=Yc l:=by
 by_cases h:l.head?=some 45
 · obtain ⟨r,rfl⟩:∃ r,l=45::r:=by
    cases l with
    | nil=>cases h
    | cons a r=>injection h with h;subst h;exact ⟨r,rfl⟩
   show (45::r).take ((r.takeWhile WK).length+1)=45::r.takeWhile WK
   rw [List.take_succ_cons,Fs]
 · rw [DD h];exact Fs _ _
theorem Zes (l:List UInt8):(Yc l).length≤l.length:=by
 have:=congrArg List.length (HT l)
 rw [List.length_take] at this
 omega
def Cr (l:List UInt8):Vl := .tuple #[.int .i64 (XQ (Yc l)),.string (mkB (l.drop (Yc l).length)),.bool (UL (Yc l)).isSome]
theorem W4 (w0:Wd) (hE:UD w0) (l:List UInt8) (hl:l.length≤100000):Ret Pg 87 #[.string (mkB l)] w0 λ r w'=>r=Cr l∧Ext w0 w':=by
 refine Zkh (R:=ZI _) ?_;unfold n42
 refine ZJ (λ i w=>∃ k:Nat,i = .int .i64 k∧k≤(Yc l).length∧w=w0) (λ i _=>(Yc l).length - (intOf i).toNat) ⟨0,rfl,by omega,rfl⟩ ?_
 rintro _ W ⟨k,rfl,hk,hW⟩
 rw [hW]
 clear hW
 have hpl:=Zes l
 have Jj:=Xc l
 have hkl':k≤l.length:=by omega
 have fin:k=(Yc l).length→ZV Pg 125 #[.string (mkB (l.take k))] (Zd (ZI λ r w'=>r=Cr l∧Ext w0 w')) w0 λ t39 w=>RL (.string (mkB l)) (.int .i64 (k:Int)) t39 (ZI λ r w'=>r=Cr l∧Ext w0 w') w:=by
  intro hke
  have hz:(mkB (l.take k)).size≤100000:=by rw [Xc,List.length_take];omega
  refine Zk (Nj hE (mkB (l.take k)) hz) ?_
  rintro _ w1 ⟨e1,ev,rfl,hev⟩
  have hp:(mkB (l.take k)).data.toList=Yc l:=by rw [Qu,hke,HT]
  rw [hp] at hev ⊢
  unfold RL
  simp (disch:=try exact DI) only [↓PR,QR,simprocAttr]
  refine ZE ?_
  rw [Ym λ QP w' k'=>Zna (k:=k') l k hkl']
  have hV:∀ b,b=(UL (Yc l)).isSome→Value.tuple #[.int .i64 (XQ (Yc l)),.string (mkB (l.drop k)),.bool b]=Cr l:=by
   rintro b rfl
   unfold Cr
   rw [hke]
  rcases hev with ⟨h1,rfl⟩ | ⟨h1,t,x,rfl⟩
  · rw [Ym λ QP w' k'=>Cv (k:=k') underlying162]
    exact ⟨_,rfl,hV _ h1.symm,e1.drew⟩
  · rw [Ym λ QP w' k'=>Cw (k:=k') underlying162 t x]
    exact ⟨_,rfl,hV _ h1.symm,e1.drew⟩
 unfold Zcj
 rcases Tg l k hk with ⟨Yq,c,hc,hd⟩ | ⟨hke,hno⟩
 · have hkl:k < l.length:=(List.getElem?_eq_some_iff.1 hc).1
   have hix:(mkB l).data.toList[k]?=some c:=by rw [Qu];exact hc
   have d0:decide ((k:Int) < ((mkB l).size:Int))=true:=by rw [Jj];simpa using hkl
   rcases hd with hd | ⟨hd,hk0,rfl⟩
   · have hd':=hd
     rw [VJ] at hd'
     have d1:decide ((c.toNat:Int)≥48)=true:=by simp;omega
     have d2:decide ((c.toNat:Int)≤57)=true:=by simp;omega
     simp (disch:=try exact DI) only [↓PR,QR,simprocAttr,d0,d1,d2,Wl underlying9 (mkB l) .i64 k hix,qP,qO,qM,qL,qK]
     exact ⟨⟨k+1,rfl,Yq,by trivial⟩,Ya (kd := .i64) Yq⟩
   · have d1:decide (((45:UInt8).toNat:Int)≥48)=false:=by decide
     have e45:((((45:UInt8).toNat:Nat):Int) == 45)=true:=by decide
     have e0:((k:Int) == 0)=true:=by rw [hk0];rfl
     have hix0:(mkB l).data.toList[0]?=some 45:=by rw [← hk0];exact hix
     simp (disch:=try exact DI) only [↓PR,QR,simprocAttr,d0,d1,e45,e0,Wl underlying9 (mkB l) .i64 k hix,Kp underlying9 (mkB l) .i64 hix0,qP,qO,qM,qL,qK]
     exact ⟨⟨k+1,rfl,Yq,by trivial⟩,Ya (kd := .i64) Yq⟩
 · have fin:=fin hke
   rcases hno with hno | ⟨c,hc,hd,hn⟩
   · have hkl:l.length≤k:=List.getElem?_eq_none_iff.1 hno
     have d0:decide ((k:Int) < ((mkB l).size:Int))=false:=by rw [Jj];simpa using hkl
     simp (disch:=try exact DI) only [↓PR,QR,simprocAttr,d0,qP,qO,qM,qL,qK,TI l k hkl']
     exact fin
   · have hkl:k < l.length:=(List.getElem?_eq_some_iff.1 hc).1
     have hix:(mkB l).data.toList[k]?=some c:=by rw [Qu];exact hc
     have d0:decide ((k:Int) < ((mkB l).size:Int))=true:=by rw [Jj];simpa using hkl
     have hd':¬ (48≤c.toNat∧c.toNat≤57):=λ h=>by rw [VJ.2 h] at hd;cases hd
     by_cases hk0:k=0
     · have hc45:¬ c=45:=λ h=>hn ⟨hk0,h⟩
       have e0:((k:Int) == 0)=true:=by rw [hk0];rfl
       have hix0:(mkB l).data.toList[0]?=some c:=by rw [← hk0];exact hix
       have e45:((c.toNat:Int) == 45)=false:=by
        rw [beq_eq_false_iff_ne]
        intro h
        exact hc45 (UInt8.toNat.inj (by rw [show (45:UInt8).toNat=45 from rfl];omega))
       by_cases h1:48≤c.toNat
       · have d1:decide ((c.toNat:Int)≥48)=true:=by simp;omega
         have d2:decide ((c.toNat:Int)≤57)=false:=by simp;omega
         simp (disch:=try exact DI) only [↓PR,QR,simprocAttr,d0,d1,d2,e0,e45,Wl underlying9 (mkB l) .i64 k hix,Kp underlying9 (mkB l) .i64 hix0,qP,qO,qM,qL,qK,TI l k hkl']
         exact fin
       · have d1:decide ((c.toNat:Int)≥48)=false:=by simp;omega
         simp (disch:=try exact DI) only [↓PR,QR,simprocAttr,d0,d1,e0,e45,Wl underlying9 (mkB l) .i64 k hix,Kp underlying9 (mkB l) .i64 hix0,qP,qO,qM,qL,qK,TI l k hkl']
         exact fin
     · have e0:((k:Int) == 0)=false:=by rw [beq_eq_false_iff_ne];omega
       by_cases h1:48≤c.toNat
       · have d1:decide ((c.toNat:Int)≥48)=true:=by simp;omega
         have d2:decide ((c.toNat:Int)≤57)=false:=by simp;omega
         simp (disch:=try exact DI) only [↓PR,QR,simprocAttr,d0,d1,d2,e0,Wl underlying9 (mkB l) .i64 k hix,qP,qO,qM,qL,qK,TI l k hkl']
         exact fin
       · have d1:decide ((c.toNat:Int)≥48)=false:=by simp;omega
         simp (disch:=try exact DI) only [↓PR,QR,simprocAttr,d0,d1,e0,Wl underlying9 (mkB l) .i64 k hix,qP,qO,qM,qL,qK,TI l k hkl']
         exact fin
theorem Gy (w:Wd) (l:List UInt8) (c:UInt8):Ret Pg 128 #[.string (mkB l),.string ⟨#[c]⟩] w λ r w'=>r = .tuple #[.string (mkB (Go.Lib.trimPrefix l [c])),.bool (Go.Lib.hasPrefix l [c])]∧w'=w:=by
 refine Calls.mono (J7 (mkB l) ⟨#[c]⟩ w) ?_
 rintro e w' ⟨rfl,h⟩
 exact ⟨_,rfl,rfl,h⟩
theorem Ch (w:Wd) (l:List UInt8) (c:UInt8) (hl:l.length≤1000000000):Ret Pg 49 #[.string (mkB l),.string ⟨#[c]⟩] w λ r w'=>r = .tuple #[.string (mkB (Go.Lib.trimSuffix l [c])),.bool (Go.Lib.hasSuffix l [c])]∧w'=w:=by
 refine Calls.mono (J8 (mkB l) ⟨#[c]⟩ w (by rw [Xc];omega)) ?_
 rintro e w' ⟨rfl,h⟩
 exact ⟨_,rfl,rfl,h⟩
def l1R (l:List UInt8):List UInt8:=l.drop (Yc l).length
def l2R (l:List UInt8):List UInt8:=Go.Lib.trimPrefix (l1R l) [45]
def l3R (l:List UInt8):List UInt8:=Go.Lib.trimPrefix (l1R (l2R l)) [58]
def BN (l:List UInt8):Qx×Bool:=(⟨XQ (Yc l),XQ (Yc (l2R l)),XQ (Yc (l3R l))⟩,
 (((((UL (Yc l)).isSome&&Go.Lib.hasPrefix (l1R l) [45])&&(UL (Yc (l2R l))).isSome)&&Go.Lib.hasPrefix (l1R (l2R l)) [58])&&(UL (Yc (l3R l))).isSome)&&decide (l1R (l3R l)=[]))
theorem Zbe (l:List UInt8):Vo (BN l).1=true:=by
 unfold Vo BN
 simp only [KZ,Bool.and_self]
theorem Ex {n:Int} {rest:List UInt8} (hr:jW rest):l1R (Go.Lib.itoa n++rest)=rest:=by
 unfold l1R
 rw [U4 n hr,List.drop_left]
theorem Ks (c:UInt8) (l:List UInt8):Go.Lib.hasPrefix (c::l) [c]=true∧Go.Lib.trimPrefix (c::l) [c]=l:=by
 have h:Go.Lib.hasPrefix (c::l) [c]=true:=by simp [Go.Lib.hasPrefix]
 refine ⟨h,?_⟩
 unfold Go.Lib.trimPrefix
 rw [h]
 rfl
theorem Zbf {x:Qx} (h:Vo x=true):BN (V4 x)=(x,true):=by
 unfold Vo at h
 simp only [Bool.and_eq_true] at h
 have d1:jW (45::(Go.Lib.itoa x.high++58::Go.Lib.itoa x.to)) := .inr ⟨45,_,rfl,by decide⟩
 have d2:jW (58::Go.Lib.itoa x.to) := .inr ⟨58,_,rfl,by decide⟩
 have d3:jW ([]:List UInt8) := .inl rfl
 have e1:l1R (V4 x)=45::(Go.Lib.itoa x.high++58::Go.Lib.itoa x.to):=Ex d1
 have e2:l2R (V4 x)=Go.Lib.itoa x.high++58::Go.Lib.itoa x.to:=by unfold l2R;rw [e1,(Ks _ _).2]
 have e3:l1R (l2R (V4 x))=58::Go.Lib.itoa x.to:=by rw [e2];exact Ex d2
 have e4:l3R (V4 x)=Go.Lib.itoa x.to:=by unfold l3R;rw [e3,(Ks _ _).2]
 have e5:l1R (l3R (V4 x))=[]:=by rw [e4];have:=Ex (n:=x.to) d3;rwa [List.append_nil] at this
 have p1:Yc (V4 x)=Go.Lib.itoa x.low:=U4 _ d1
 have p2:Yc (l2R (V4 x))=Go.Lib.itoa x.high:=by rw [e2];exact U4 _ d2
 have p3:Yc (l3R (V4 x))=Go.Lib.itoa x.to:=by rw [e4];have:=U4 x.to d3;rwa [List.append_nil] at this
 have a1:=VE h.1
 have a2:=VE h.2.1
 have a3:=VE h.2.2
 unfold BN
 rw [e5,e3,e1,p1,p2,p3,a1,a2,a3,Ka a1,Ka a2,Ka a3,(Ks _ _).1,(Ks _ _).1]
 rfl
theorem DN (l p:List UInt8):(Go.Lib.trimPrefix l p).length≤l.length:=by
 unfold Go.Lib.trimPrefix
 split
 · rw [List.length_drop];omega
 · omega
theorem PN (l:List UInt8):(l1R l).length≤l.length:=by unfold l1R;rw [List.length_drop];omega
theorem ML (l:List UInt8):decide (mkB l=⟨#[]⟩)=decide (l=[]):=by
 rw [decide_eq_decide]
 constructor
 · intro h
   have:=congrArg (λ b:BAr=>b.data.toList) h
   simpa [mkB] using this
 · rintro rfl;rfl
theorem Zbg (w0:Wd) (hE:UD w0) (l:List UInt8) (hl:l.length≤100000):Ret Pg 89 #[.string (mkB l)] w0 λ r w'=>r = .tuple #[.agg (Z9 (BN l).1).toArray,.bool (BN l).2]∧Ext w0 w':=by
 have z1:=PN l
 have z2:=DN (l1R l) [45]
 have z3:=PN (l2R l)
 have z4:=DN (l1R (l2R l)) [58]
 change (l2R l).length≤_ at z2
 change (l3R l).length≤_ at z4
 refine Zkp (R:=ZI _) ?_;unfold n50
 simp (disch:=try exact DI) only [↓PR,QR,simprocAttr]
 have oV:=Zv w0 #[.int .i64 0,.int .i64 0,.int .i64 0] 78
 have eV:Ext w0 (w0.alloc (.cells #[.int .i64 0,.int .i64 0,.int .i64 0] 78)):=(Ext.refl w0).alloc _
 generalize (w0.alloc (.cells #[.int .i64 0,.int .i64 0,.int .i64 0] 78))=V at oV eV ⊢
 obtain ⟨p,hp⟩:∃ p,w0.heap.size=p:=⟨_,rfl⟩
 rw [hp] at oV ⊢
 have lp:w0.heap.size≤p:=by omega
 refine zcr (W4 V (hE.ext eV) l hl) λ w1 e1=>?_
 have E1:=eV.trans e1
 have o1:=e1.obj oV
 unfold Cr ZcF
 change _ at *
 simp (disch:=try exact DI) only [↓PR,QR,simprocAttr,(Za o1).1,(Za o1).2]
 have o2:=Zw (o:=0) o1 (.int .i64 (XQ (Yc l)))
 have E2:=E1.setCell (p:=⟨p,0,none⟩) lp (.int .i64 (XQ (Yc l)))
 generalize (w1.setCell ⟨p,0,none⟩ (.int .i64 (XQ (Yc l))))=w2 at o2 E2 ⊢
 refine Zk (Gy w2 (l1R l) 45) ?_
 rintro _ W ⟨rfl,hW⟩
 rw [hW]
 clear hW
 unfold ZcE
 simp (disch:=try exact DI) only [↓PR,QR,simprocAttr]
 refine zcr (W4 w2 (hE.ext E2) (l2R l) (by omega)) λ w3 e3=>?_
 have E3:=E2.trans e3
 have o3:=e3.obj o2
 unfold Cr ZcD ZcC
 simp (disch:=try exact DI) only [↓PR,QR,simprocAttr,(Za o3).1,(Za o3).2]
 have o4:=Zw (o:=1) o3 (.int .i64 (XQ (Yc (l2R l))))
 have E4:=E3.setCell (p:=⟨p,1,none⟩) lp (.int .i64 (XQ (Yc (l2R l))))
 generalize (w3.setCell ⟨p,1,none⟩ (.int .i64 (XQ (Yc (l2R l)))))=w4 at o4 E4 ⊢
 refine Zk (Gy w4 (l1R (l2R l)) 58) ?_
 rintro _ W ⟨rfl,hW⟩
 rw [hW]
 clear hW
 unfold ZcB
 simp (disch:=try exact DI) only [↓PR,QR,simprocAttr]
 refine zcr (W4 w4 (hE.ext E4) (l3R l) (by omega)) λ w5 e5=>?_
 have E5:=E4.trans e5
 have o5:=e5.obj o4
 have o6:=Zw (o:=2) o5 (.int .i64 (XQ (Yc (l3R l))))
 have E6:=E5.setCell (p:=⟨p,2,none⟩) lp (.int .i64 (XQ (Yc (l3R l))))
 unfold Cr ZcA Zcz
 simp only [List.setIfInBounds_toArray,List.set_cons_zero,List.set_cons_succ] at o6
 simp (disch:=try exact DI) only [↓PR,QR,simprocAttr,(Za o5).1,(Za o5).2,(Za o6).1,(Za o6).2]
 refine ⟨?_,(((E6.setCell (p:=⟨p,0,none⟩) lp _).setCell (p:=⟨p,1,none⟩) lp _).setCell (p:=⟨p,2,none⟩) lp _)⟩
 rw [ML]
 rfl
section
variable {P:Program} {QP:PEn} {w:Wd} {k:KV}
theorem Oc (t:TypeId) (c:Bool) (kd:IntKind) (a b:Int):opV P (ZF .or t c (.int kd a) (.int kd b)) QP w k=k (.int kd (kd.wrap ((BitVec.ofInt kd.bits a ||| BitVec.ofInt kd.bits b).toNat:Nat))) w:=ZX (by rw [Xi _ _ _ _ _ _ rfl];rfl)
theorem Za3 (t:TypeId) (c:Bool) (kd:IntKind) (x y:Int) (h0:0≤y):opV P (ZF .shl t c (.int kd x) (.int .u64 y)) QP w k=k (.int kd (kd.wrap (x*2 ^ min y.toNat kd.bits))) w:=ZX (by
 have h0:¬ (y < 0):=by omega
 simp [ZF,go_sem,Op.shift,h0])
end
def lwC (c:UInt8):Int:=IntKind.u8.wrap ((BitVec.ofInt IntKind.u8.bits (c.toNat:Int) ||| BitVec.ofInt IntKind.u8.bits 32).toNat:Nat)
theorem xC (w0:Wd) (c:UInt8):Ret Pg 188 #[.int .u8 c.toNat] w0 λ r w'=>r = .int .u8 (lwC c)∧w'=w0:=by
 refine ZjS (R:=ZI _) ?_;unfold n13
 simp (disch:=try exact DI) only [↓PR,QR,simprocAttr,Oc]
 exact ⟨by trivial,by trivial⟩
theorem PE:∀ n:Fin 256,(VL (UInt8.ofNat n.1)=if 48≤n.1∧n.1≤57 then some (n.1 - 48) else if 97≤lwC (UInt8.ofNat n.1)∧lwC (UInt8.ofNat n.1)≤102 then some ((lwC (UInt8.ofNat n.1)).toNat - 87) else none):=by decide +kernel
theorem Zay (c:UInt8):VL c=if 48≤c.toNat∧c.toNat≤57 then some (c.toNat - 48) else if 97≤lwC c∧lwC c≤102 then some ((lwC c).toNat - 87) else none:=by
 have:=PE ⟨c.toNat,c.toNat_lt⟩
 simpa only [UInt8.ofNat_toNat] using this
theorem Zaz {c:UInt8} {d:Nat} (h:VL c=some d):d < 16:=by
 unfold VL at h
 split at h
 · injection h with h;omega
 · split at h
   · injection h with h;omega
   · split at h
     · injection h with h;omega
     · cases h
def FC (o:Option Nat) (c:UInt8):Option Nat:=o.bind λ m=>(VL c).map λ d=>16*m+d
def Qy (l:List UInt8):Option Nat:=l.foldl FC (some 0)
theorem Hg (l:List UInt8) (c:UInt8):Qy (l++[c])=FC (Qy l) c:=by unfold Qy;simp
theorem Hf (l r:List UInt8) (h:Qy l=none):Qy (l++r)=none:=by
 unfold Qy at h ⊢
 rw [List.foldl_append,h]
 clear h
 induction r with
 | nil=>rfl
 | cons c r ih=>exact ih
def DR (w0:Wd) (t:List UInt8) (r:Vl) (w':Wd):Prop:=Ext w0 w'∧((∃ m,Qy t=some m∧m < 256∧r = .tuple #[.int .u64 m,.nilIface])∨(Qy t=none∧r = .tuple #[.int .u64 0,.iface 239 (.int .i64 2)]))
theorem Az (w0:Wd) (t:List UInt8) (h1:1≤t.length) (h2:t.length≤2):Ret Pg 155 #[.string (mkB t),.int .i64 16,.int .i64 8] w0 (DR w0 t):=by
 have YN:decide (mkB t=⟨#[]⟩)=false:=by rw [ML];simp;rintro rfl;simp at h1
 refine n8s (R:=ZI _) ?_;unfold n8
 simp (disch:=try exact DI) only [↓PR,QR,simprocAttr,YN,Zdt,Zds,Zdr,Zdq,Zdp,Zdo]
 try unfold B0
 rw [Za3 _ _ _ _ _ (by decide),show IntKind.u64.wrap (1*2 ^ min (IntKind.u64.wrap 8).toNat IntKind.u64.bits)=256 by decide,Fb,show IntKind.u64.wrap (256 - 1)=255 by decide]
 refine By underlying9 underlying40 underlying5 (mkB t) (by rw [Xc];omega) ?_
 rintro _ V eV ⟨A,c,rfl,_,_,b,rfl,Y1⟩
 rw [Qu] at Y1
 rw [Xc]
 simp (disch:=try exact DI) only [↓PR,QR,simprocAttr]
 refine Uj (λ x y z w'=>∃ k m:Nat,x = .bool false∧y = .int .u64 m∧z = .int .i64 k∧k≤t.length∧w'=V∧Qy (t.take k)=some m∧m < 16 ^ k) (λ _ _ z _=>t.length - (intOf z).toNat) ⟨0,0,rfl,rfl,rfl,by omega,rfl,rfl,by decide⟩ ?_
 rintro _ _ _ W ⟨k,m,rfl,rfl,rfl,hk,hW,hm,hmk⟩
 rw [hW]
 clear hW
 rcases ZT hk with ⟨x,hx,_,Yq,ZY⟩ | ⟨hk,_,ZY⟩
 · have hc:=Y1 k x hx
   have hk1:k≤1:=by omega
   have hm16:m < 16:=by
    have:(16:Nat) ^ k≤16 ^ 1:=Nat.pow_le_pow_right (by decide) hk1
    omega
   have hx256:x.toNat < 256:=x.toNat_lt
   have hsn:Qy (t.take (k+1))=FC (some m) x:=by rw [XM hx,Hg,hm]
   have bad:VL x=none→∀ w',Ext V w'→DR w0 t (.tuple #[.int .u64 0,.iface 239 (.int .i64 2)]) w':=by
    intro hn w' e'
    refine ⟨eV.trans e',.inr ⟨?_,rfl⟩⟩
    have h0:Qy (t.take (k+1))=none:=by rw [hsn];unfold FC;rw [hn];rfl
    have:=Hf _ (t.drop (k+1)) h0
    rwa [List.take_append_drop] at this
   have good:∀ (K6:KW),(∀ d,VL x=some d→d < 16→K6 (.bool false) (.int .u64 ((16*m+d:Nat):Int)) V)→∀ (d:Nat),VL x=some d→Ls (.int .u64 1152921504606846976) (.bool false) (.int .u64 m) (.int .u8 d) (.int .u64 255) (.int .i64 16) K6 (ZI (DR w0 t)) V:=by
    intro K6 hK6 d hd
    have hd16:=Zaz hd
    have u1:IntKind.u8.wrap 16=16:=by decide
    have u2:IntKind.u64.wrap 16=16:=by decide
    have wr:∀ n:Nat,n < 65536→IntKind.u64.wrap (n:Int)=(n:Int):=λ n hn=>IntWalk.u64_in _ ⟨by omega,by omega⟩
    have f1:decide ((d:Int)≥16)=false:=by simp;omega
    have f2:decide ((m:Int)≥1152921504606846976)=false:=by simp;omega
    unfold Ls
    simp (disch:=try exact DI) only [↓PR,QR,simprocAttr,u1,f1,f2,Zhy,Zhu]
    have e1:IntKind.u64.wrap (IntKind.u64.wrap ((m:Int)*IntKind.u64.wrap 16)+IntKind.u64.wrap (d:Int))=((16*m+d:Nat):Int):=by
     rw [u2,wr d (by omega),show (m:Int)*16=((16*m:Nat):Int) by omega,wr (16*m) (by omega),show ((16*m:Nat):Int)+(d:Int)=((16*m+d:Nat):Int) by omega,wr _ (by omega)]
    have e2:IntKind.u64.wrap ((m:Int)*IntKind.u64.wrap 16)=((16*m:Nat):Int):=by
     rw [u2,show (m:Int)*16=((16*m:Nat):Int) by omega,wr (16*m) (by omega)]
    rw [e1,e2]
    have g1:decide (((16*m+d:Nat):Int) < ((16*m:Nat):Int))=false:=by simp only [decide_eq_false_iff_not];omega
    have g2:decide ((255:Int) < ((16*m+d:Nat):Int))=false:=by simp only [decide_eq_false_iff_not];omega
    rw [g1,g2]
    simp (disch:=try exact DI) only [↓PR,QR,simprocAttr]
    exact hK6 d hd hd16
   have next:∀ d,VL x=some d→d < 16→(∃ k' m':Nat,Value.bool false = .bool false∧Value.int .u64 ((16*m+d:Nat):Int) = .int .u64 m'∧Value.int .i64 ((k+1:Nat):Int) = .int .i64 k'∧k'≤t.length∧V=V∧Qy (t.take k')=some m'∧m' < 16 ^ k')∧t.length - (intOf (Value.int .i64 ((k+1:Nat):Int))).toNat < t.length - (intOf (Value.int IntKind.i64 k)).toNat:=by
    intro d hd hd16
    refine ⟨⟨k+1,16*m+d,rfl,rfl,rfl,Yq,rfl,by rw [hsn];unfold FC;rw [hd];rfl,?_⟩,Ya (kd := .i64) Yq⟩
    rw [Nat.pow_succ]
    omega
   have worse:∀ (d:Nat),16≤d→d < 256→VL x=none→∀ K6,Ls (.int .u64 1152921504606846976) (.bool false) (.int .u64 m) (.int .u8 d) (.int .u64 255) (.int .i64 16) K6 (ZI (DR w0 t)) V:=by
    intro d hd hd2 hn K6
    have u1:IntKind.u8.wrap 16=16:=by decide
    have f1:decide ((d:Int)≥16)=true:=by simp;omega
    unfold Ls
    simp (disch:=try exact DI) only [↓PR,QR,simprocAttr,u1,f1]
    exact bad hn V (Ext.refl _)
   have hc':V.cell? ⟨b,k*1,none⟩=some (.int .u8 x.toNat):=by rw [Nat.mul_one];exact hc
   have rest:∀ K6,(∀ d,VL x=some d→Ls (.int .u64 1152921504606846976) (.bool false) (.int .u64 m) (.int .u8 d) (.int .u64 255) (.int .i64 16) K6 (ZI (DR w0 t)) V)→Zej (.int .u64 1152921504606846976) (.bool false) (.int .u64 m) (.int .u64 255) (.int .u8 x.toNat) (.int .i64 16) K6 (ZI (DR w0 t)) V:=by
    intro K6 good
    have hv:=Zay x
    have lwr:0≤lwC x∧lwC x < 256:=by
     have:∀ n:Fin 256,0≤lwC (UInt8.ofNat n.1)∧lwC (UInt8.ofNat n.1) < 256:=by decide +kernel
     have:=this ⟨x.toNat,hx256⟩
     simpa only [UInt8.ofNat_toNat] using this
    unfold Zej
    have not_digit:¬ (48≤x.toNat∧x.toNat≤57)→ZV Pg 188 #[.int .u8 x.toNat] (Zd (ZI (DR w0 t))) V λ t123 w=>Zei (.int .u8 x.toNat) t123 (λ t16 w=>Ls (.int .u64 1152921504606846976) (.bool false) (.int .u64 m) t16 (.int .u64 255) (.int .i64 16) K6 (ZI (DR w0 t)) w) (ZI (DR w0 t)) w:=by
     intro hn
     rw [if_neg hn] at hv
     refine Zk (xC V x) ?_
     rintro _ W ⟨rfl,hW⟩
     rw [hW]
     clear hW
     unfold Zei
     by_cases l1:97≤lwC x
     · have g1:decide (97≤lwC x)=true:=by simpa using l1
       simp (disch:=try exact DI) only [↓PR,QR,simprocAttr,g1]
       refine Zk (xC V x) ?_
       rintro _ W ⟨rfl,hW⟩
       rw [hW]
       clear hW
       by_cases l2:lwC x≤122
       · have g2:decide (lwC x≤122)=true:=by simpa using l2
         simp (disch:=try exact DI) only [↓PR,QR,simprocAttr,g1,g2,ZaS,ZhF]
         refine Zk (xC V x) ?_
         rintro _ W ⟨rfl,hW⟩
         rw [hW]
         clear hW
         simp (disch:=try exact DI) only [↓PR,QR,simprocAttr]
         have hd:IntKind.u8.wrap (IntKind.u8.wrap (lwC x - 97)+10)=(((lwC x).toNat - 87:Nat):Int):=by
          rw [IntWalk.u8_in (lwC x - 97) ⟨by omega,by omega⟩,IntWalk.u8_in _ ⟨by omega,by omega⟩]
          omega
         rw [hd]
         by_cases l3:lwC x≤102
         · rw [if_pos ⟨l1,l3⟩] at hv
           exact good _ hv
         · rw [if_neg (by omega)] at hv
           exact worse _ (by omega) (by omega) hv _
       · have g2:decide (lwC x≤122)=false:=by simpa using l2
         rw [if_neg (by omega)] at hv
         simp (disch:=try exact DI) only [↓PR,QR,simprocAttr,g1,g2,ZaS]
         exact bad hv V (Ext.refl _)
     · have g1:decide (97≤lwC x)=false:=by simpa using l1
       rw [if_neg (by omega)] at hv
       simp (disch:=try exact DI) only [↓PR,QR,simprocAttr,g1,ZaS]
       exact bad hv V (Ext.refl _)
    by_cases a1:48≤x.toNat
    · have d1:decide (48≤(x.toNat:Int))=true:=by simp;omega
      by_cases a2:x.toNat≤57
      · have d2:decide ((x.toNat:Int)≤57)=true:=by simp;omega
        rw [if_pos ⟨a1,a2⟩] at hv
        have hd:IntKind.u8.wrap ((x.toNat:Int) - 48)=((x.toNat - 48:Nat):Int):=by rw [IntWalk.u8_in _ ⟨by omega,by omega⟩];omega
        simp (disch:=try exact DI) only [↓PR,QR,simprocAttr,d1,d2,ZaT,hd]
        exact good _ hv
      · have d2:decide ((x.toNat:Int)≤57)=false:=by simp;omega
        simp (disch:=try exact DI) only [↓PR,QR,simprocAttr,d1,d2,ZaT]
        exact not_digit (by omega)
    · have d1:decide (48≤(x.toNat:Int))=false:=by simp;omega
      simp (disch:=try exact DI) only [↓PR,QR,simprocAttr,d1,ZaT]
      exact not_digit (by omega)
   unfold SH
   simp (disch:=try exact DI) only [↓PR,QR,simprocAttr,ZY]
   unfold Zdn
   by_cases h95:((x.toNat:Int) == 95)=true
   · simp (disch:=try exact DI) only [↓PR,QR,simprocAttr,hc',h95]
     exact rest _ (good _ next)
   · have h95:((x.toNat:Int) == 95)=false:=by simpa using h95
     simp (disch:=try exact DI) only [↓PR,QR,simprocAttr,hc',h95]
     exact rest _ (good _ next)
 · subst hk
   rw [List.take_length] at hm
   simp (disch:=try exact DI) only [↓PR,QR,simprocAttr,ZY]
   unfold SH
   simp (disch:=try exact DI) only [↓PR,QR,simprocAttr,ZY,Zdm,ZhG]
   have:(16:Nat) ^ t.length≤16 ^ 2:=Nat.pow_le_pow_right (by decide) h2
   exact ⟨eV,.inl ⟨m,hm,by omega,rfl⟩⟩
theorem Cj (w0:Wd) (hE:UD w0) (t:List UInt8) (h1:1≤t.length) (h2:t.length≤2):Ret Pg 127 #[.string (mkB t),.int .i64 16,.int .i64 8] w0 λ r w'=>Ext w0 w'∧((∃ m,Qy t=some m∧m < 256∧r = .tuple #[.int .u64 m,.nilIface])∨(Qy t=none∧∃ n tt x,r = .tuple #[.int .u64 n,.iface tt x])):=by
 refine Zhn (R:=ZI _) ?_;unfold Zhm
 refine Zk (Az w0 t h1 h2) ?_
 rintro _ w1 ⟨e1,⟨m,hm,Yq,rfl⟩ | ⟨hn,rfl⟩⟩
 · unfold I5
   simp (disch:=try exact DI) only [↓PR,QR,simprocAttr]
   exact ⟨e1,.inl ⟨m,hm,Yq,rfl⟩⟩
 · unfold I5
   simp (disch:=try exact DI) only [↓PR,QR,simprocAttr]
   obtain ⟨ev,g1,g2⟩:=(hE.ext e1).syn
   refine Calls.mono (Any.strconv_toError_syntax (P:=Pg) (ρ:=KG) { Uq with } ⟨#[80,97,114,115,101,85,105,110,116]⟩ (mkB t) 16 8 ev w1 (by rw [Xc];omega) g1 g2) ?_
   rintro e w' ⟨N,rfl,_,_,hb⟩
   exact ⟨_,rfl,e1.trans (Ext.of_below hb),.inr ⟨hn,_,_,_,rfl⟩⟩
section
variable {P:Program} {QP:PEn} {w:Wd} {k:KV}
theorem JV {t e:TypeId} {agg:Bool} {n m:Nat} {z:Vl} (hu:P.underlying t=some (.slice e)) (ht:ZD P e agg n m z) (b o len cap:Nat) (l:Nat) (hl:l≤len) (hc:len≤cap) :
 opV P (sliceAt t (.slice (some ⟨b,o,none⟩) len cap) (some (.int .i64 (l:Int))) none none) QP w k=k (.slice (some ⟨b,if cap=l then o else o+l*n,none⟩) (len - l) (cap - l)) w:=by
 refine ZX ?_
 have h2:(l:Int)≤(len:Int):=by omega
 have h3:(0:Int)≤(l:Int):=by omega
 by_cases h:cap=l
 · simp [sliceAt,run_underlying hu,Instr.slice,Instr.sliceBounds,run_sliceBound,h2,h3,h,Sw.run_sizeOf ht,Addr.add_lit]
 · simp [sliceAt,run_underlying hu,Instr.slice,Instr.sliceBounds,run_sliceBound,h2,h3,h,Sw.run_sizeOf ht,Addr.add_lit]
theorem HQ {t e:TypeId} {agg:Bool} {n m:Nat} {z:Vl} (hu:P.underlying t=some (.slice e)) (ht:ZD P e agg n m z) (b o len cap:Nat) (l h:Nat) (hl:l < h) (hh:h≤cap) :
 opV P (sliceAt t (.slice (some ⟨b,o,none⟩) len cap) (some (.int .i64 (l:Int))) (some (.int .i64 (h:Int))) (some (.int .i64 (h:Int)))) QP w k=k (.slice (some ⟨b,o+l*n,none⟩) (h - l) (h - l)) w:=by
 refine ZX ?_
 have h1:(l:Int)≤(h:Int):=by omega
 have h2:(h:Int)≤(cap:Int):=by omega
 have h3:(0:Int)≤(l:Int):=by omega
 have h4:(0:Int)≤(h:Int):=by omega
 have h5:h≠l:=by omega
 simp [sliceAt,run_underlying hu,Instr.slice,Instr.sliceBounds,run_sliceBound,h1,h2,h3,h4,h5,Sw.run_sizeOf ht,Addr.add_lit]
end
def BB (b len:Nat) (k:Nat):Vl := .slice (some ⟨b,2*k,none⟩) (min 2 (len - 2*k)) (min 2 (len - 2*k))
def DW (w:Wd) (p1 p2 b len cap:Nat):Prop:=w.heap[p1]?=some (.cells #[.slice (some ⟨b,0,none⟩) len cap] 40 (0,0))∧w.heap[p2]?=some (.cells #[.int .i64 2] 3 (0,0))
theorem Nl (p1 p2 b len cap:Nat) (hc:len≤cap) (hl:len≤1000000000):Mt Pg 154 #[.pointer (some ⟨p1,0,none⟩),.pointer (some ⟨p2,0,none⟩)] ((len+1) / 2) (BB b len) (λ w=>DW w p1 p2 b len cap):=by
 intro yv J Jx Jp w hFP hJe hJx XY h0
 refine Zgu (t0:=yv) (t1 := .pointer (some ⟨p1,0,none⟩)) (t2 := .pointer (some ⟨p2,0,none⟩)) ?_
 unfold Zgt
 refine ZJ (λ i w=>∃ k:Nat,i = .int .i64 ((2*k:Nat):Int)∧k≤(len+1) / 2∧J k w) (λ i _=>len+2 - (intOf i).toNat) ⟨0,rfl,by omega,h0⟩ ?_
 rintro i w' ⟨k,rfl,hk,hJ⟩
 obtain ⟨c1,c2⟩:=hFP k w' hJ
 have q1:=(Za c1).1
 have q2:=(Za c2).1
 unfold P7
 by_cases Yq:2*k < len
 · have d0:decide (((2*k:Nat):Int) < (len:Int))=true:=by simp only [decide_eq_true_eq];omega
   simp (disch:=try exact DI) only [↓PR,QR,simprocAttr,q1,d0]
   refine ZE ?_
   have eD:Ext w' (drew w'):=(Ext.refl w').drew
   have hJ2:=hJe k w' _ hJ eD
   generalize (drew w')=D at eD hJ2 ⊢
   have q1:=(Za (eD.obj c1)).1
   have q2:=(Za (eD.obj c2)).1
   unfold P6
   have hmin:(if ((len - 2*k:Nat):Int) < 2 then ((len - 2*k:Nat):Int) else 2)=((min 2 (len - 2*k):Nat):Int):=by split<;>omega
   have hadd:IntKind.i64.wrap (((2*k:Nat):Int)+((min 2 (len - 2*k):Nat):Int))=((2*k+min 2 (len - 2*k):Nat):Int):=by rw [XC (by omega) (by omega)];omega
   have hv:BB b len k = .slice (some ⟨b,0+2*k*1,none⟩) (2*k+min 2 (len - 2*k) - 2*k) (2*k+min 2 (len - 2*k) - 2*k):=by
    unfold BB
    rw [show 2*k+min 2 (len - 2*k) - 2*k=min 2 (len - 2*k) by omega,show 0+2*k*1=2*k by omega]
   simp (disch:=try exact DI) only [↓PR,QR,simprocAttr,q1,q2]
   rw [Ym λ QP w k'=>JV (k:=k') underlying40 ty5 b 0 len cap (2*k) (by omega) hc]
   simp (disch:=try exact DI) only [↓PR,QR,simprocAttr,q1]
   rw [hmin]
   simp only [hadd]
   rw [HQ underlying40 ty5 b 0 len cap (2*k) (2*k+min 2 (len - 2*k)) (by omega) (by omega),← hv]
   refine Kb (XY k (by omega) D hJ2) (λ ch w h=>h) ?_
   rintro v w2 (⟨rfl,h2⟩ | ⟨rfl,h2⟩)
   · obtain ⟨_,c2'⟩:=hFP (k+1) w2 h2
     have hadd2:IntKind.i64.wrap (((2*k:Nat):Int)+2)=((2*(k+1):Nat):Int):=by rw [XC (by omega) (by omega)];omega
     unfold I2
     simp (disch:=try exact DI) only [↓PR,QR,simprocAttr,(Za c2').1]
     simp only [hadd2]
     refine ⟨⟨k+1,rfl,by omega,h2⟩,?_⟩
     show len+2 - (((2*(k+1):Nat):Int)).toNat < len+2 - (((2*k:Nat):Int)).toNat
     rw [Int.toNat_natCast,Int.toNat_natCast]
     omega
   · unfold I2
     simp (disch:=try exact DI) only [↓PR,QR,simprocAttr]
     exact .inr h2
 · have d0:decide (((2*k:Nat):Int) < (len:Int))=false:=by simp only [decide_eq_false_iff_not];omega
   have hke:k=(len+1) / 2:=by omega
   simp (disch:=try exact DI) only [↓PR,QR,simprocAttr,q1,d0]
   subst hke
   exact .inl hJ
abbrev XV (c:UInt8):List Vl:=[.int .u8 c.toNat]
theorem FG {w:Wd} {QP:PEn} {k:KV} {base:Nat} {v:Vl} {l:List UInt8} (x:UInt8) {b:Nat} (xv:ZW w base 5 1 XV v l) (hc:w.cell? ⟨b,0,none⟩=some (.int .u8 x.toNat)) (UT:base≤w.heap.size) (hl:l.length≤1048576)
 (hk:∀ v' w',ZW w' base 5 1 XV v' (l++[x])→w.grownBy w' v.ownBlock→k v' w') :
 opV Pg (Builtin.append_ #[40,40] 40 #[v,.slice (some ⟨b,0,none⟩) 1 1]) QP w k:=by
 have hby:=by5
 refine We (l':=[x]) underlying40 ty5 rfl (by decide) (λ _=>rfl) (λ x _ u hu=>by simp at hu;subst hu;rfl) xv (λ j x hx=>?_) UT ?_ (by simp;omega) hk
 · cases j with
   | zero=>
    simp at hx;subst hx
    intro j v hv
    cases j with
    | zero=>simp at hv;subst hv;simpa using hc
    | succ j=>simp at hv
   | succ j=>simp at hx
 · simp only [List.length_cons,List.length_nil]
   exact Nat.le_trans (Nat.mul_le_mul (Nat.add_le_add_right hl 1) hby) (by decide)
theorem IU {α:Type} {B base n:Nat} {T:TypeId} {enc:α→List Vl} {v:Vl} {l:List α}:ZP B (λ w=>ZW w base T n enc v l):=⟨λ _ _ h e=>h.ext e,λ w q r r' _ h hq=>by
 refine ⟨h.1,?_⟩
 rcases h.2 with h2 | ⟨g,cap,cur,h1,h2,h3,h4⟩
 · exact .inl h2
 · refine .inr ⟨g,cap,cur,h1,h2,(World.putObj_heap_other (by rintro rfl;rw [h3] at hq;cases hq)).trans h3,h4⟩⟩
theorem LJ {α:Type} {w:Wd} {base n B:Nat} {T:TypeId} {enc:α→List Vl} {v:Vl} {l:List α} {o:Obj} (h:ZW w base T n enc v l) (hm:Z5 B w):ZW (w.putObj B o) base T n enc v l:=by
 refine ⟨h.1,?_⟩
 rcases h.2 with h2 | ⟨g,cap,cur,h1,h2,h3,h4⟩
 · exact .inl h2
 · refine .inr ⟨g,cap,cur,h1,h2,(World.putObj_heap_other (by rintro rfl;unfold Z5 at hm;rw [h3] at hm;cases hm)).trans h3,h4⟩
theorem B9 {r:List UInt8} (h:r≠[]):(∃ m,Qy (r.take 2)=some m∧XN r=(XN (r.drop 2)).map (UInt8.ofNat m::·))∨(Qy (r.take 2)=none∧XN r=none):=by
 match r,h with
 | [a],_=>
  have hv:Qy ([a].take 2)=(VL a).map λ d=>16*0+d:=rfl
  rw [hv]
  unfold XN
  cases VL a with
  | none=>exact .inr ⟨rfl,rfl⟩
  | some d=>exact .inl ⟨_,rfl,by simp [XN]⟩
 | a::b::l,_=>
  have hv:Qy ((a::b::l).take 2)=FC (FC (some 0) a) b:=rfl
  rw [hv]
  show (∃ m,_∧XN (a::b::l)=(XN l).map (UInt8.ofNat m::·))∨_
  rw [XN]
  unfold FC
  cases ha:VL a with
  | none=>exact .inr ⟨rfl,rfl⟩
  | some x=>
   cases hb:VL b with
   | none=>exact .inr ⟨rfl,rfl⟩
   | some y=>
    refine .inl ⟨16*x+y,by simp,?_⟩
    cases XN l<;>rfl
theorem OJ (w0:Wd) (hE:UD w0) (s:List UInt8) (hl:s.length≤1000000):Ret Pg 88 #[.string (mkB s)] w0 λ r w'=>ZW w' w0.heap.size 5 1 XV r (QN s)∧Ext w0 w':=by
 refine Zkr (R:=ZI _) ?_;unfold n52
 simp (disch:=try exact DI) only [↓PR,QR,simprocAttr]
 have o2:=Zv w0 #[.slice none 0 0] 40
 have e1:Ext w0 (w0.alloc (.cells #[.slice none 0 0] 40)):=(Ext.refl w0).alloc _
 have s1:(w0.alloc (.cells #[.slice none 0 0] 40)).heap.size=w0.heap.size+1:=World.size_alloc ..
 generalize (w0.alloc (.cells #[.slice none 0 0] 40))=w1 at o2 e1 s1 ⊢
 obtain ⟨p2,hp2⟩:∃ p2,w0.heap.size=p2:=⟨_,rfl⟩
 rw [hp2] at o2 s1 ⊢
 have l2:w0.heap.size≤p2:=by omega
 refine By underlying9 underlying40 underlying5 (mkB s) (by rw [Xc];omega) ?_
 rintro _ w2 e2 ⟨A,c,rfl,hsc,hcm,b,rfl,Y1⟩
 rw [Qu] at Y1
 rw [Xc] at hsc ⊢
 have chunk:Ret Pg 126 #[.slice (some ⟨b,0,none⟩) s.length c,.int .i64 2] w2 λ r w'=>Ext w2 w'∧∃ q1 q2,r = .func (.func 154) #[] #[.pointer (some ⟨q1,0,none⟩),.pointer (some ⟨q2,0,none⟩)]∧DW w' q1 q2 b s.length c:=by
  refine Zgs (R:=ZI _) ?_;unfold Zgr
  simp (disch:=try exact DI) only [↓PR,QR,simprocAttr]
  refine ⟨ee,_,_,rfl,?_,CX (World.size_alloc ..).symm _⟩
  rw [CY (by rw [World.size_alloc];omega)]
  exact Zv _ _ _
 refine Zk chunk ?_
 rintro _ w3 ⟨e3,q1,q2,rfl,hP⟩
 have o2:=(e2.trans e3).obj o2
 have E3:=e1.trans (e2.trans e3)
 have hel3:∀ j x,s[j]?=some x→w3.cell? ⟨b,j,none⟩=some (.int .u8 x.toNat):=λ j x h=>e3.cell (Y1 j x h)
 have lp2:=(Array.getElem?_eq_some_iff.1 o2).1
 have lq1:=(Array.getElem?_eq_some_iff.1 hP.1).1
 have lq2:=(Array.getElem?_eq_some_iff.1 hP.2).1
 have nb:s≠[]→b≠p2∧b < w3.heap.size:=by
  intro hs
  cases s with
  | nil=>exact absurd rfl hs
  | cons x s=>
   have h0:=hel3 0 x rfl
   refine ⟨?_,World.block_lt_of_cell? _ _ h0⟩
   rintro rfl
   rw [(Za o2).1] at h0
   cases h0
 have nq1:q1≠p2:=by
  rintro rfl
  have h:=hP.1
  rw [o2] at h
  cases h
 have nq2:q2≠p2:=by
  rintro rfl
  have h:=hP.2
  rw [o2] at h
  cases h
 unfold ZcN
 let I:Nat→Wd→Prop:=λ j w=>Ext w0 w∧w3.heap.size≤w.heap.size∧DW w q1 q2 b s.length c∧(∀ i x,s[i]?=some x→w.cell? ⟨b,i,none⟩=some (.int .u8 x.toNat))∧∃ (rv:Vl) (acc:List UInt8),w.heap[p2]?=some (.cells #[rv] 40 (0,0))∧ZW w w3.heap.size 5 1 XV rv acc∧acc.length≤j∧XN s=(XN (s.drop (2*j))).map (acc++·)
 let Ix:Nat→Wd→Prop:=λ x w=>x=0∧Ext w0 w∧w.heap[p2]?=some (.cells #[.slice none 0 0] 40 (0,0))∧QN s=[]
 have lall:∀ {α β:Type} {Q:α→β→Prop} {F:α→β→Wd→Prop},(∀ x y,ZP w3.heap.size (F x y))→ZP w3.heap.size (λ w=>∀ x y,Q x y→F x y w):=λ h=>⟨λ w w' hw e x y q=>(h x y).ext _ _ (hw x y q) e,λ w l r r' hl hw hr x y q=>(h x y).loop _ _ _ _ hl (hw x y q) hr⟩
 have hLI:∀ k,ZP w3.heap.size (I k):=λ k=>ZP.and (ZP.from E3.size) (ZP.and ⟨λ _ _ h e=>Nat.le_trans h e.size,λ _ _ _ _ _ h _=>by rw [World.putObj_size];exact h⟩ (ZP.and (ZP.and (ZP.has _ (by simp)) (ZP.has _ (by simp))) (ZP.and (lall λ x y=>ZP.cell _) (ZP.ex λ rv=>ZP.ex λ acc=>ZP.and (ZP.has _ (by simp)) (ZP.and IU (ZP.and (ZP.const _ _) (ZP.const _ _)))))))
 have hLX:∀ k,ZP w3.heap.size (Ix k):=λ k=>ZP.and (ZP.const _ _) (ZP.and (ZP.from E3.size) (ZP.and (ZP.has _ (by simp)) (ZP.const _ _)))
 refine ⟨_,_,(s.length+1) / 2,BB b s.length,λ w=>DW w q1 q2 b s.length c,I,Ix,λ _ _=>False,rfl,ZiT,Nl q1 q2 b s.length c hsc (by omega),⟨E3,Nat.le_refl _,hP,hel3,_,[],o2,ZW.nil _ _ _ _ _,Nat.le_refl _,by rw [Nat.mul_zero,List.drop_zero];cases XN s<;>rfl⟩,λ k w h=>h.2.2.1,hLI,hLX,?_,?_,?_,?_⟩
 · intro rec j w4 hj hI4 hrec hready
   refine ⟨hready,λ w5 hbz=>?_⟩
   have hrec5:=hrec.busied hbz
   have hI5:=(hLI j).busied hbz (Nat.le_succ _) hI4
   clear hI4 hrec hready hbz
   obtain ⟨e5,z5,hP5,hel5,rv,acc,o5,hO5,hal,hacc⟩:=hI5
   have NS:2*j < s.length:=by omega
   have YN:s.drop (2*j)≠[]:=by
    intro h
    rw [List.drop_eq_nil_iff] at h
    omega
   have hsn:s≠[]:=by rintro rfl;simp at NS
   obtain ⟨nb1,nb2⟩:=nb hsn
   have Y8:((s.drop (2*j)).take 2).length=min 2 (s.length - 2*j):=by rw [List.length_take,List.length_drop]
   have hB:zE w5 (BB b s.length j) ((s.drop (2*j)).take 2):=by
    refine ⟨_,_,by unfold BB;rw [Y8],by omega,by omega,λ _=>⟨b,2*j,rfl,λ i x hx=>⟨[.int .u8 x.toNat],rfl,λ q v hv=>?_,rfl⟩⟩⟩
    cases q with
    | zero=>
     simp only [List.getElem?_cons_zero,Option.some.injEq] at hv
     subst hv
     rw [List.getElem?_take] at hx
     split at hx
     · rw [List.getElem?_drop] at hx
       have:=hel5 (2*j+i) x hx
       rwa [Nat.mul_one,Nat.add_zero]
     · cases hx
    | succ q=>simp at hv
   show opV Pg (Go.convert 40 9 (BB b s.length j)) _ w5 _
   rw [qZ hB]
   refine Zk (Cj w5 (hE.ext e5) ((s.drop (2*j)).take 2) (by omega) (by omega)) ?_
   rintro _ w6 ⟨e6,hR⟩
   have o6:=e6.obj o5
   have c6:=Za o6
   unfold ZcL
   rcases hR with ⟨m,hm,hm256,rfl⟩ | ⟨hn,n,tt,x,rfl⟩
   · have XY:=B9 YN
     rw [hm] at XY
     rcases XY with ⟨m',hm',hu⟩ | ⟨hcon,_⟩
     case inr=>cases hcon
     injection hm' with hm'
     subst hm'
     have hnat:(UInt8.ofNat m).toNat=m:=by simp;omega
     have hwr:IntKind.u8.wrap (m:Int)=(((UInt8.ofNat m).toNat:Nat):Int):=by rw [hnat];exact IntWalk.u8_in _ ⟨by omega,by omega⟩
     simp (disch:=try exact DI) only [↓PR,QR,simprocAttr,c6.1]
     unfold ZcK
     simp (disch:=try exact DI) only [↓PR,QR,simprocAttr,c6.1]
     rw [hwr]
     have oY:(w6.alloc (.cells #[.int .u8 ((UInt8.ofNat m).toNat:Int)] 5)).cell? ⟨w6.heap.size,0,none⟩=some (.int .u8 ((UInt8.ofNat m).toNat:Int)):=by rw [QF];rfl
     have eY:Ext w6 (w6.alloc (.cells #[.int .u8 ((UInt8.ofNat m).toNat:Int)] 5)):=(Ext.refl w6).alloc _
     generalize (w6.alloc (.cells #[.int .u8 ((UInt8.ofNat m).toNat:Int)] 5))=Y at oY eY ⊢
     have e56:=e6.trans eY
     have o7:=eY.obj o6
     refine FG (UInt8.ofNat m) (hO5.ext e56) oY (by have:=e56.size;omega) (by omega) ?_
     intro v' w7 hO7 hg
     have hlo:∀ b,rv.ownBlock=some b→w3.heap.size≤b:=λ b hb=>(World.ownsRow.lt hO5 b hb).1
     have Jj:=e56.size
     have blk:∀ g o,g < w3.heap.size→w5.heap[g]?=some o→w7.heap[g]?=some o:=λ g o hg3 ho=>(hg.block g (by omega) λ e=>by have:=hlo g e.symm;omega).trans (e56.obj ho)
     have o8:=blk p2 _ lp2 o5
     have e8:Ext w0 w7:=(e5.trans e56).grown hg λ b hb=>by have:=hlo b hb;have:=E3.size;omega
     have v1:v'.oneCell'=true:=Zc.oneCell (hO7.slice (E:=λ _ cs c=>cs=XV c) (λ _=>rfl) (λ _ _=>rfl))
     simp (disch:=try exact DI) only [↓PR,QR,simprocAttr,(Za o8).1,(Za o8).2]
     have hrec7:Xg rec w3.heap.size w7:=by
      have hr:=hrec5.ext e56
      obtain ⟨hmk,st,pd,hlp⟩:=hr
      have nrow:∀ g o,Y.heap[g]?=some o→(∀ cs T f,o ≠ .cells cs T f)→rv.ownBlock≠some g:=by
       intro g o ho hn hrv
       obtain ⟨cs,T,f,hc⟩:=ZW.cellsAt (hO5.ext e56) g hrv
       rw [ho] at hc
       injection hc with hc
       exact hn _ _ _ hc
      refine ⟨(hg.block _ (Array.getElem?_eq_some_iff.1 hmk).1 λ e=>nrow _ _ hmk (by simp) e.symm).trans hmk,st,pd,(hg.block _ (Array.getElem?_eq_some_iff.1 hlp).1 λ e=>nrow _ _ hlp (by simp) e.symm).trans hlp⟩
     refine ⟨hrec7.setCell _ _,e8.setCell (p:=⟨p2,0,none⟩) l2 _,?_,⟨?_,?_⟩,?_,v',acc++[UInt8.ofNat m],Zw (o:=0) o8 v',ZW.keep hO7 λ g hgo=>?_,?_,?_⟩
     · rw [World.size_setCell]
       have:=hg.size
       omega
     · exact (YG.setCell _ p2 _ _ q1 nq1).trans (blk q1 _ lq1 hP5.1)
     · exact (YG.setCell _ p2 _ _ q2 nq2).trans (blk q2 _ lq2 hP5.2)
     · intro i x hx
       rw [YJ (.inl nb1)]
       have h5:=hel5 i x hx
       have lb:=World.block_lt_of_cell? _ _ h5
       have hb:w7.heap[b]?=w5.heap[b]?:=(hg.block b (by omega) λ e=>by have:=hlo b e.symm;omega).trans (e56.block b lb)
       rw [← h5]
       exact World.cell?_of_block hb
     · have:=(World.ownsRow.lt hO7 g hgo).1
       exact YG.setCell _ p2 _ _ g (by omega)
     · simp;omega
     · rw [hacc,hu,List.drop_drop,show 2*j+2=2*(j+1) by omega,Option.map_map]
       congr 1
       funext l
       simp
   · have XY:=B9 YN
     rw [hn] at XY
     rcases XY with ⟨m',hm',_⟩ | ⟨_,hu⟩
     · cases hm'
     simp (disch:=try exact DI) only [↓PR,QR,simprocAttr,c6.1,c6.2]
     refine ⟨(hrec5.ext e6).setCell _ _,by trivial,(e5.trans e6).setCell (p:=⟨p2,0,none⟩) l2 _,Zw (o:=0) o6 _,?_⟩
     unfold QN
     rw [hacc,hu]
     rfl
 · intro w4 hI4 hmk
   obtain ⟨e4,z4,hP4,hel4,rv,acc,o4,hO4,hal,hacc⟩:=hI4
   have c4:=Za o4
   have hn:s.drop (2*((s.length+1) / 2))=[]:=by rw [List.drop_eq_nil_iff];omega
   have hun:QN s=acc:=by
    unfold QN
    rw [hacc,hn]
    simp [XN]
   have o5:=Zw (o:=0) o4 rv
   have rv1:rv.oneCell'=true:=Zc.oneCell (hO4.slice (E:=λ _ cs c=>cs=XV c) (λ _=>rfl) (λ _ _=>rfl))
   unfold ZcM
   simp (disch:=try exact DI) only [↓PR,QR,simprocAttr,c4.1,c4.2]
   have hmk5:Z5 w3.heap.size (w4.setCell ⟨p2,0,none⟩ rv):=hmk.setCell _ _
   have hO5:ZW (w4.setCell ⟨p2,0,none⟩ rv) w3.heap.size 5 1 XV rv acc:=ZW.keep hO4 λ g hgo=>YG.setCell _ p2 _ _ g (by have:=(World.ownsRow.lt hO4 g hgo).1;omega)
   have e5:Ext w0 (w4.setCell ⟨p2,0,none⟩ rv):=e4.setCell (p:=⟨p2,0,none⟩) l2 _
   generalize (w4.setCell ⟨p2,0,none⟩ rv)=w5 at o5 hmk5 hO5 e5 ⊢
   refine Wm hmk5 ?_
   have o6:(w5.putObj w3.heap.size (.deferred none)).heap[p2]?=some (.cells #[rv] 40 (0,0)):=by
    rw [World.putObj_heap_other (by omega)]
    exact o5
   simp (disch:=try exact DI) only [↓PR,QR,simprocAttr,Wz,yW,XT,(Za o6).1]
   exact ⟨by rw [hun];exact (LJ hO5 hmk5).base (by have:=E3.size;omega),e5.putObj E3.size _⟩
 · intro x w4 hX hmk
   obtain ⟨rfl,e4,o4,hun⟩:=hX
   show Uc _ _ _ _ _
   refine Wm hmk ?_
   have o6:(w4.putObj w3.heap.size (.deferred none)).heap[p2]?=some (.cells #[.slice none 0 0] 40 (0,0)):=by
    rw [World.putObj_heap_other (by omega)]
    exact o4
   simp (disch:=try exact DI) only [↓PR,QR,simprocAttr,Wz,yW,XT,(Za o6).1]
   exact ⟨by rw [hun];exact ZW.nil _ _ _ _ _,e4.putObj E3.size _⟩
 · exact λ _ _ h=>h.elim
def QK:List (List UInt8)→Option (List Qx)
 | []=>some []
 | w::l=>if (BN w).2=true then (QK l).map ((BN w).1::·) else none
theorem H1:∀ {l:List Qx},l.all Vo=true→QK (l.map V4)=some l
 | [],_=>rfl
 | x::l,h=>by
  rw [List.all_cons,Bool.and_eq_true] at h
  rw [List.map_cons,QK,Zbf h.1,if_pos rfl,H1 h.2]
  rfl
theorem H0:∀ {l:List (List UInt8)} {r:List Qx},QK l=some r→r.all Vo=true∧r.length=l.length
 | [],r,h=>by injection h with h;subst h;exact ⟨rfl,rfl⟩
 | w::l,r,h=>by
  rw [QK] at h
  split at h
  · cases ho:QK l with
    | none=>rw [ho] at h;cases h
    | some q=>
     rw [ho] at h
     injection h with h
     subst h
     obtain ⟨h1,h2⟩:=H0 ho
     exact ⟨by rw [List.all_cons,Zbe,h1];rfl,by rw [List.length_cons,List.length_cons,h2]⟩
  · cases h
def T6:List (List UInt8)→Option FrD
 | t::k::rest=>
  let a:=rest[0]?.getD []
  let b:=rest[1]?.getD []
  if k=kwW 1 then some ⟨mkB t,1,mkB a,0,0,[],[]⟩
  else if k=kwW 2 then some ⟨mkB t,2,mkB a,XQ (Yc b),0,[],[]⟩
  else if k=kwW 3 then some ⟨mkB t,3,⟨#[]⟩,0,XQ (Yc a),[],[]⟩
  else if k=kwW 4 then some ⟨mkB t,4,⟨#[]⟩,0,0,QN a,[]⟩
  else if k=kwW 5 then (QK rest.tail).map λ l=>⟨mkB t,5,mkB a,0,0,[],l⟩
  else if k=kwW 6 then some ⟨mkB t,6,mkB a,0,0,[],[]⟩
  else if k=kwW 7 then some ⟨mkB t,7,⟨#[]⟩,0,0,[],[]⟩
  else none
 | _=>none
theorem HJ {n:Int} (h:Qm n=true):XQ (Yc (Go.Lib.itoa n))=n:=by
 have h1:=U4 n (rest:=[]) (.inl rfl)
 rw [List.append_nil] at h1
 rw [h1]
 exact Ka (VE h)
theorem T7 {r:FrD} (h:okF r=true):T6 (YV r)=some r:=by
 unfold okF at h
 rw [Bool.and_eq_true] at h
 obtain ⟨h,hi⟩:=h
 unfold inF at hi
 simp only [Bool.and_eq_true] at hi
 obtain ⟨i1,i2,i3⟩:=hi
 obtain ⟨to,kind,fr,add,value,bytes,table⟩:=r
 unfold Yu at h
 simp only at i1 i2 i3 h
 cases hu:XR kind with
 | none=>rw [hu] at h;cases h
 | some u=>
  rw [hu] at h
  simp only [Bool.and_eq_true] at h
  obtain ⟨c1,c2,c3,c4,c5⟩:=Af h.1
  simp only at c1 c2 c3 c4 c5
  unfold XR at hu
  unfold YV Vd
  simp only
  by_cases k1:kind=1
  · subst k1
    rw [if_pos rfl] at hu
    injection hu with hu
    subst hu
    rw [c2 rfl,c3 rfl,c4 rfl,c5 rfl]
    rfl
  by_cases k2:kind=2
  · subst k2
    rw [if_neg (by decide),if_pos rfl] at hu
    injection hu with hu
    subst hu
    rw [c3 rfl,c4 rfl,c5 rfl,if_neg (by decide),if_pos rfl]
    show some (FrD.mk (mkB to.data.toList) 2 (mkB fr.data.toList) (XQ (Yc (Go.Lib.itoa add))) 0 [] [])=_
    rw [HJ i1]
    rfl
  by_cases k3:kind=3
  · subst k3
    rw [if_neg (by decide),if_neg (by decide),if_pos rfl] at hu
    injection hu with hu
    subst hu
    rw [c1 rfl,c2 rfl,c4 rfl,c5 rfl,if_neg (by decide),if_neg (by decide),if_pos rfl]
    show some (FrD.mk (mkB to.data.toList) 3 ⟨#[]⟩ 0 (XQ (Yc (Go.Lib.itoa value))) [] [])=_
    rw [HJ i2]
    rfl
  by_cases k4:kind=4
  · subst k4
    rw [if_neg (by decide),if_neg (by decide),if_neg (by decide),if_pos rfl] at hu
    injection hu with hu
    subst hu
    rw [c1 rfl,c2 rfl,c3 rfl,c5 rfl,if_neg (by decide),if_neg (by decide),if_neg (by decide),if_pos rfl]
    show some (FrD.mk (mkB to.data.toList) 4 ⟨#[]⟩ 0 0 (QN (Qh bytes)) [])=_
    rw [GQ]
    rfl
  by_cases k5:kind=5
  · subst k5
    rw [if_neg (by decide),if_neg (by decide),if_neg (by decide),if_neg (by decide),if_pos rfl] at hu
    injection hu with hu
    subst hu
    rw [c2 rfl,c3 rfl,c4 rfl,if_neg (by decide),if_neg (by decide),if_neg (by decide),if_neg (by decide),if_neg (by decide),if_neg (by decide)]
    show (QK (table.map V4)).map _=_
    rw [H1 i3]
    rfl
  by_cases k6:kind=6
  · subst k6
    rw [if_neg (by decide),if_neg (by decide),if_neg (by decide),if_neg (by decide),if_neg (by decide),if_pos rfl] at hu
    injection hu with hu
    subst hu
    rw [c2 rfl,c3 rfl,c4 rfl,c5 rfl]
    rfl
  by_cases k7:kind=7
  · subst k7
    rw [if_neg (by decide),if_neg (by decide),if_neg (by decide),if_neg (by decide),if_neg (by decide),if_neg (by decide),if_pos rfl] at hu
    injection hu with hu
    subst hu
    rw [c1 rfl,c2 rfl,c3 rfl,c4 rfl,c5 rfl]
    rfl
  · rw [if_neg k1,if_neg k2,if_neg k3,if_neg k4,if_neg k5,if_neg k6,if_neg k7] at hu
    cases hu
theorem N2 (s:List UInt8):QB s=TK s (T6 (Yi 32 s)):=by
 refine IW λ r hr hs=>?_
 have hp:Yu r=true:=by unfold okF at hr;rw [Bool.and_eq_true] at hr;exact hr.1
 rw [← hs,z7 hp]
 exact T7 hr
theorem Kf (sep:UInt8):∀ xs:List (List UInt8),(Go.Lib.join xs [sep]).length≤(xs.map λ x=>x.length+1).sum
 | []=>by simp [Go.Lib.join]
 | [x]=>by rw [Go.Lib.join_one];simp
 | x::y::r=>by
  rw [Qs,List.length_append,List.length_cons]
  have:=Kf sep (y::r)
  rw [List.map_cons,List.sum_cons]
  omega
theorem Jk {n:Int} (h:Qm n=true):(Go.Lib.itoa n).length≤21:=Go.Lib.itoa_length_le n (V3 h).1 (V3 h).2
theorem H2:∀ {l:List Qx},l.all Vo=true→((l.map V4).map λ x=>x.length+1).sum≤66*l.length
 | [],_=>by simp
 | x::l,h=>by
  rw [List.all_cons,Bool.and_eq_true] at h
  have ih:=H2 h.2
  have hx:=h.1
  unfold Vo at hx
  simp only [Bool.and_eq_true] at hx
  have h1:=Jk hx.1
  have h2:=Jk hx.2.1
  have h3:=Jk hx.2.2
  have:(V4 x).length≤65:=by
   unfold V4
   simp only [List.length_append,List.length_cons]
   omega
  rw [List.map_cons,List.map_cons,List.sum_cons,List.length_cons]
  omega
theorem Vz (s:BAr):s.data.toList.length=s.size:=by unfold ByteArray.size;simp
theorem IL (l:List UInt8):(Qh l).length≤2*l.length+1:=by
 unfold Qh
 split
 · simp
 · rw [Ay];omega
theorem Hn {x:FrD} (h:inF x=true):(YY x).length≤x.to.size+x.fr.size+2*x.bytes.length+66*x.table.length+60:=by
 unfold inF at h
 simp only [Bool.and_eq_true] at h
 obtain ⟨h1,h2,h3⟩:=h
 have a1:=Jk h1
 have a2:=Jk h2
 have a3:=H2 h3
 have a4:=IL x.bytes
 have kw:(kwW x.kind).length≤6:=by
  unfold kwW
  repeat' split
  all_goals decide
 have:=Kf 32 (YV x)
 unfold YY
 refine Nat.le_trans this ?_
 unfold YV
 rw [List.map_cons,List.map_cons,List.sum_cons,List.sum_cons,Vz]
 have ht:((Vd x).map λ x=>x.length+1).sum≤x.fr.size+2*x.bytes.length+66*x.table.length+30:=by
  unfold Vd
  repeat' split
  all_goals simp only [List.map_cons,List.map_nil,List.sum_cons,List.sum_nil,Vz]
  all_goals omega
 omega
def ZeQ (w:Wd) (base:Nat) (v:Vl) (x:FrD):Prop:=∃ bv tv,v = .agg (Zz x bv tv).toArray∧ZW w base 5 1 XV bv x.bytes∧ZW w base 78 3 Z9 tv x.table
theorem zy {w:Wd} {base:Nat} {v:Vl} {l:List UInt8} (h:ZW w base 5 1 XV v l):zD w v l:=h.slice (λ _=>rfl) (λ _ _=>rfl)
theorem V2 {w:Wd} {base:Nat} {v:Vl} {l:List Qx} (h:ZW w base 78 3 Z9 v l):QX w v l:=h.slice (λ _=>rfl) (λ _ _=>rfl)
theorem J4 {b:Nat}:∀ (vs:List Vl) (w:Wd) (o:Nat),(YA w b o vs).os=w.os∧(YA w b o vs).tape=w.tape∧(YA w b o vs).output=w.output
 | [],_,_=>⟨rfl,rfl,rfl⟩
 | v::vs,w,o=>J4 vs (w.setCell ⟨b,o,none⟩ v) (o+1)
theorem Jf {a w:Wd} {b:Nat} {vs:List Vl} {T:TypeId} (e:Ext a w) (ho:w.heap[b]?=some (.cells vs.toArray T (0,0))):Ext a (YA w b 0 vs):=by
 obtain ⟨h1,h2,h3⟩:=J4 vs w 0 (b:=b)
 refine ⟨h1.trans e.os,h2.trans e.tape,h3.trans e.output,by rw [UA];exact e.size,λ k hk=>?_⟩
 rw [← e.block k hk]
 by_cases hb:k=b
 · subst hb
   rw [Q8 vs 0 ho,BP (by simp),ho]
 · exact WZ vs w 0 k hb
theorem IT {w:Wd} {base:Nat} {v:Vl} {x:FrD} (hO:UH w base v (XO x)) (h1:x.table.length≤90000) (h2:(YY x).length≤1000000000):Ret Pg 59 #[v,.string ⟨#[32]⟩] w λ r w'=>r = .string (mkB (YY x))∧Ext w w':=by
 have hj:Ky ⟨#[32]⟩ (XO x)=mkB (YY x):=by unfold XO;rw [AC];rfl
 have hl:(XO x).length≤90004:=by
  unfold XO YV Vd
  rw [List.length_map]
  repeat' split
  all_goals simp only [List.length_cons,List.length_nil,List.length_map]
  all_goals omega
 have:=jR hO ⟨#[32]⟩ (by unfold XO YV;simp) (by omega) (by rw [hj,Xc];omega)
 rwa [hj] at this
def jY (w0:Wd) (s:List UInt8) (r:Vl) (w':Wd):Prop:=Ext w0 w'∧∃ v x b,r = .tuple #[v,.bool b]∧ZeQ w' w0.heap.size v x∧((b=true∧QB s=some x)∨(b=false∧QB s=none))
section
variable {w0 w:Wd} {p2:Nat} {s:List UInt8} {x:FrD} {bv tv:Vl}
structure WE (w0 w:Wd) (p2:Nat) (x:FrD) (bv tv:Vl):Prop where
 e:Ext w0 w
 lp:w0.heap.size≤p2
 obj:w.heap[p2]?=some (.cells (Zz x bv tv).toArray 43 (0,0))
 ob:ZW w w0.heap.size 5 1 XV bv x.bytes
 ot:ZW w w0.heap.size 78 3 Z9 tv x.table
theorem WE.go {w':Wd} (h:WE w0 w p2 x bv tv) (e:Ext w w'):WE w0 w' p2 x bv tv:=⟨h.e.trans e,h.lp,e.obj h.obj,h.ob.ext e,h.ot.ext e⟩
theorem WE.ones (h:WE w0 w p2 x bv tv):bv.oneCell'=true∧tv.oneCell'=true:=⟨Zc.oneCell (zy h.ob),Zc.oneCell (V2 h.ot)⟩
theorem WE.set (h:WE w0 w p2 x bv tv) (o:Nat) (u:Vl) (x':FrD) (bv' tv':Vl) (hc:(Zz x bv tv).set o u=Zz x' bv' tv') (hb:ZW w w0.heap.size 5 1 XV bv' x'.bytes) (ht:ZW w w0.heap.size 78 3 Z9 tv' x'.table):WE w0 (w.setCell ⟨p2,o,none⟩ u) p2 x' bv' tv':=by
 have key:∀ {α:Type} {n:Nat} {T:TypeId} {enc:α→List Vl} {v:Vl} {l:List α},T≠43→ZW w w0.heap.size T n enc v l→ZW (w.setCell ⟨p2,o,none⟩ u) w0.heap.size T n enc v l:=by
  intro α n T enc v l hT hO
  refine ZW.keep hO λ g hg=>YG.setCell _ p2 _ _ g ?_
  rintro rfl
  rcases hO.2 with ⟨rfl,_⟩ | ⟨g',cap,cur,rfl,_,hg',_⟩
  · cases hg
  · have:g'=g:=by simpa [Value.ownBlock] using hg
    subst this
    rw [h.obj] at hg'
    injection hg' with hg'
    injection hg' with _ hg'
    exact hT hg'.symm
 refine ⟨h.e.setCell (p:=⟨p2,o,none⟩) h.lp _,h.lp,?_,key (by decide) hb,key (by decide) ht⟩
 have:=Zw (o:=o) h.obj u
 rw [this,List.setIfInBounds_toArray,hc]
theorem Ol (hE:Vf w0) (h:WE w0 w p2 x bv tv) (hin:inF x=true) (hb:x.bytes.length≤100000) (ht:x.table.length≤90000) (h1:x.to.size≤100000) (h2:x.fr.size≤100000) (hs:QB s=TK s (some x)) :
 Yg w λ C2 w=>MR (.string (mkB s)) (.pointer (some ⟨p2,0,none⟩)) C2 (ZI (jY w0 s)) w:=by
 obtain ⟨o1,o2⟩:=h.ones
 refine ZE ?_
 have h:=h.go (Ext.refl w).drew
 generalize (drew w)=D at h ⊢
 have hll:=Hn hin
 unfold MR
 simp (disch:=try exact DI) only [↓PR,QR,simprocAttr,(Za h.obj).1]
 refine zcr (GJ D _ x ⟨_,_,rfl,zy h.ob,V2 h.ot⟩) λ w1 e1=>?_
 refine ⟨e1,?_⟩
 have hC1:=h.go e1
 have fin:∀ (w2:Wd) (b:Bool),Ext D w2→((b=true∧QB s=some x)∨(b=false∧QB s=none))→opU Pg (storeAt 43 (.pointer (some ⟨p2,0,none⟩)) (.agg (Zz x bv tv).toArray)) (Zd (ZI (jY w0 s))) w2 λ w=>EC D w∧qW Pg 43 (.pointer (some ⟨p2,0,none⟩)) w λ r0=>ZI (jY w0 s) (.returned (.tuple #[r0,.bool b])) w:=by
  intro w2 b e2 hr
  have h2':=h.go e2
  rw [U1 Ud h2'.obj (vs:=Zz x bv tv) rfl (Nat.le_refl _) (by intro v hv;simp only [List.mem_cons,List.not_mem_nil,or_false] at hv;rcases hv with rfl | rfl | rfl | rfl | rfl | rfl | rfl<;>first | rfl | assumption)]
  have e3:=Jf e2 h2'.obj (vs:=Zz x bv tv)
  have h3:=h2'.go (Jf (Ext.refl w2) h2'.obj (vs:=Zz x bv tv))
  generalize (YA w2 p2 0 (Zz x bv tv))=w3 at e3 h3 ⊢
  refine ⟨e3,?_⟩
  simp (disch:=try exact DI) only [↓PR,QR,simprocAttr,(Za h3.obj).1]
  exact ⟨h3.e,_,x,b,rfl,⟨bv,tv,rfl,h3.ob,h3.ot⟩,hr⟩
 have hok:okF x=Yu x:=by unfold okF;rw [hin,Bool.and_true]
 have hs':QB s=if Yu x=true∧YY x=s then some x else none:=by rw [hs,← hok];rfl
 unfold ZcG
 cases hp:Yu x with
 | false=>
  have hno:QB s=none:=by rw [hs',hp,if_neg (by simp)]
  simp (disch:=try exact DI) only [↓PR,QR,simprocAttr]
  exact fin w1 false e1 (.inr ⟨rfl,hno⟩)
 | true=>
  simp (disch:=try exact DI) only [↓PR,QR,simprocAttr,(Za h.obj).1]
  refine Zk (jd w1 (hE.ext hC1.e) _ x ⟨_,_,rfl,zy hC1.ob,V2 hC1.ot⟩ hin (by omega) (by omega)) ?_
  rintro u w2 ⟨hu,e2⟩
  refine ⟨e1.trans e2,?_⟩
  refine zcr (IT hu ht (by omega)) λ w3 e3=>?_
  have E3:=e1.trans (e2.trans e3)
  refine ⟨E3,?_⟩
  have ZY:decide (mkB (YY x)=mkB s)=decide (YY x=s):=by
   rw [decide_eq_decide]
   constructor
   · intro h
     have:=congrArg (λ b:BAr=>b.data.toList) h
     simpa [mkB] using this
   · rintro rfl;rfl
  simp (disch:=try exact DI) only [↓PR,QR,simprocAttr]
  rw [ZY]
  refine fin w3 _ E3 ?_
  by_cases hl:YY x=s
  · exact .inl ⟨by simp [hl],by rw [hs',if_pos ⟨hp,hl⟩]⟩
  · exact .inr ⟨by simp [hl],by rw [hs',if_neg (λ h=>hl h.2)]⟩
end
section
variable {P:Program} {QP:PEn} {w:Wd} {k:KV}
theorem HP {t e:TypeId} {agg:Bool} {n m:Nat} {z:Vl} (hu:P.underlying t=some (.slice e)) (ht:ZD P e agg n m z) (b o len cap:Nat) (l h:Nat) (hl:l≤h) (hh:h≤cap) :
 opV P (sliceAt t (.slice (some ⟨b,o,none⟩) len cap) (some (.int .i64 (l:Int))) (some (.int .i64 (h:Int))) (some (.int .i64 (h:Int)))) QP w k=k (.slice (some ⟨b,if h=l then o else o+l*n,none⟩) (h - l) (h - l)) w:=by
 refine ZX ?_
 have h1:(l:Int)≤(h:Int):=by omega
 have h2:(h:Int)≤(cap:Int):=by omega
 have h3:(0:Int)≤(l:Int):=by omega
 have h4:(0:Int)≤(h:Int):=by omega
 by_cases h5:h=l
 · subst h5
   simp [sliceAt,run_underlying hu,Instr.slice,Instr.sliceBounds,run_sliceBound,h2,h3,Sw.run_sizeOf ht,Addr.add_lit]
 · simp [sliceAt,run_underlying hu,Instr.slice,Instr.sliceBounds,run_sliceBound,h1,h2,h3,h4,h5,Sw.run_sizeOf ht,Addr.add_lit]
end
theorem Aq (l:List BAr):(l.flatMap Xu).length=l.length*1:=by
 induction l with
 | nil=>rfl
 | cons x l ih=>rw [List.flatMap_cons,List.length_append,ih,List.length_cons];simp;omega
theorem D2 {w:Wd} {QP:PEn} {k:KV} {g o:Nat} {u:Vl} {l l':List BAr} (hs:∀ j x,l[j]?=some x→Yn w g (o+j*1) (Xu x)) (hu:UI w u l') (YN:l'≠[]) (h1:l.length≤200000) (h2:l'.length≤100000)
 (hk:∀ v' w',UH w' w.heap.size v' (l++l')→Ext w w'→k v' w') :
 opV Pg (Builtin.append_ #[94,94] 94 #[.slice (some ⟨g,o,none⟩) l.length l.length,u]) QP w k:=by
 obtain ⟨⟨i,hi,Jj,hby,hzz⟩,_⟩:=ty9
 have hb4:=by9
 obtain ⟨A,c,rfl,hlc,hcm,hlm,Y1⟩:=Zc.open hu
 obtain ⟨x0,l0,rfl⟩:=List.exists_cons_of_ne_nil YN
 obtain ⟨b,o',_,rfl,_⟩:=Y1 0 x0 rfl
 have hcells:∀ (ll:List BAr) (B O:Nat),(∀ j x,ll[j]?=some x→Yn w B (O+j*1) (Xu x))→∀ j v,(ll.flatMap Xu)[j]?=some v→w.cell? ((⟨B,O,none⟩:Addr).add j)=some v:=by
  intro ll B O hh j v hv
  have hfl:(ll.flatMap Xu).length=ll.length*1:=Aq ll
  have hj:j < ll.length:=by have:=(List.getElem?_eq_some_iff.1 hv).1;omega
  obtain ⟨x,hx⟩:=getElem?_lt hj
  have hg:=W0 (enc:=Xu) (n:=1) (λ _=>rfl) ll j x 0 _ hx rfl
  rw [show j*1+0=j by omega,hv] at hg
  injection hg with hg
  rw [Addr.add_lit]
  have:=hh _ _ hx 0 _ rfl
  rw [hg,← this]
  congr 2;omega
 obtain ⟨v',w',hr,ho,hg⟩:=run_append_arg_grows (P:=Pg) w 94 94 9 i _ 1 _ underlying94 hi hzz Jj hby rfl (by decide) ⟨g,o,none⟩ l.length l.length (l.flatMap Xu) (Aq l) (hcells l g o hs)
  ⟨b,o',none⟩ (x0::l0).length c ((x0::l0).flatMap Xu) (Aq _) (hcells _ b o' λ j x hx=>by
   obtain ⟨b2,o2,cs,e1,_,hA,e2⟩:=Y1 j x hx
   injection e1 with e1
   injection e1 with e1 e3
   subst e1 e3 e2
   exact hA) (by simp) (by simp only [maxLen];omega) (Nat.le_trans (Nat.mul_le_mul (Nat.add_le_add h1 h2) hb4) (by decide))
 rw [ZX hr]
 refine hk v' w' ?_ ((Ext.refl w).grown hg λ k hk=>by cases hk)
 unfold UH ZW
 rw [List.flatMap_append,List.length_append];exact ho
theorem MK {a b:List UInt8}:decide (mkB a=mkB b)=decide (a=b):=by
 rw [decide_eq_decide]
 constructor
 · intro h
   have:=congrArg (λ b:BAr=>b.data.toList) h
   simpa [mkB] using this
 · rintro rfl;rfl
structure RS (w0 w:Wd) (p2 b0 n:Nat) (ws rs:List BAr) (t27:Vl) (x:FrD) (bv tv:Vl):Prop where
 bld:WE w0 w p2 x bv tv
 ws:UI w (.slice (some ⟨b0,0,none⟩) n n) ws
 nb:b0≠p2
 rs:UI w t27 rs
 nr:∀ A m c,t27 = .slice (some A) m c→A.block≠p2
section
variable {w0 w:Wd} {p2 b0 n:Nat} {ws rs:List BAr} {t27:Vl} {s:List UInt8} {x:FrD} {bv tv:Vl}
theorem RS.go {w':Wd} (h:RS w0 w p2 b0 n ws rs t27 x bv tv) (e:Ext w w'):RS w0 w' p2 b0 n ws rs t27 x bv tv:=⟨h.bld.go e,Zc.ext Gj h.ws e,h.nb,Zc.ext Gj h.rs e,h.nr⟩
theorem RS.set (h:RS w0 w p2 b0 n ws rs t27 x bv tv) (o:Nat) (u:Vl) (x':FrD) (bv' tv':Vl) (hc:(Zz x bv tv).set o u=Zz x' bv' tv') (hb:ZW w w0.heap.size 5 1 XV bv' x'.bytes) (ht:ZW w w0.heap.size 78 3 Z9 tv' x'.table):RS w0 (w.setCell ⟨p2,o,none⟩ u) p2 b0 n ws rs t27 x' bv' tv':=
 ⟨h.bld.set o u x' bv' tv' hc hb ht,Zc.setOther h.ws u (λ A m c e=>by injection e with e;injection e with e;subst e;exact h.nb) (λ _ _ h=>h),h.nb,Zc.setOther h.rs u h.nr (λ _ _ h=>h),h.nr⟩
theorem RS.first (h:RS w0 w p2 b0 n ws rs t27 x bv tv) {a:BAr} (ha:rs[0]?=some a):∃ b o m c,t27 = .slice (some ⟨b,o,none⟩) m c∧0 < m∧b≠p2∧w.cell? ⟨b,o,none⟩=some (.string a):=by
 obtain ⟨A,c,hv,_,_,_,Y1⟩:=Zc.open h.rs
 obtain ⟨b,o,cs,rfl,_,hA,rfl⟩:=Y1 0 a ha
 have:=(List.getElem?_eq_some_iff.1 ha).1
 have hc:=hA.c1 (Ext.refl w)
 rw [Nat.zero_mul,Nat.add_zero] at hc
 exact ⟨b,o,_,c,hv,this,h.nr _ _ _ hv,hc⟩
theorem RS.second (h:RS w0 w p2 b0 n ws rs t27 x bv tv) {a:BAr} (ha:rs[1]?=some a):∃ b o m c,t27 = .slice (some ⟨b,o,none⟩) m c∧1 < m∧b≠p2∧w.cell? ⟨b,o+1,none⟩=some (.string a):=by
 obtain ⟨A,c,hv,_,_,_,Y1⟩:=Zc.open h.rs
 obtain ⟨b,o,cs,rfl,_,hA,rfl⟩:=Y1 1 a ha
 have:=(List.getElem?_eq_some_iff.1 ha).1
 have hc:=hA.c1 (Ext.refl w)
 rw [Nat.one_mul] at hc
 exact ⟨b,o,_,c,hv,this,h.nr _ _ _ hv,hc⟩
theorem Tj {K1:WPr} {R:RT} {to a:BAr} (h:RS w0 w p2 b0 n ws rs t27 ⟨to,0,ByteArray.empty,0,0,[],[]⟩ (.slice none 0 0) (.slice none 0 0)) (ha:rs[0]?=some a)
 (hK:∀ w',RS w0 w' p2 b0 n ws rs t27 ⟨to,1,a,0,0,[],[]⟩ (.slice none 0 0) (.slice none 0 0)→K1 w') :
 Yg w λ C w=>R7 (.pointer (some ⟨p2,0,none⟩)) t27 C K1 R w:=by
 obtain ⟨b,o,m,c,rfl,hm,hbp,X4⟩:=h.first ha
 refine Xy p2 p2 (w1:=w) (λ _ _ _ _=>rfl) ?_
 haveI:Yv (KB w p2 p2):=⟨⟨w,λ _ _ _ _=>rfl⟩⟩
 have hD:=h.go (Ext.refl w).drew
 have hKD:KB w p2 p2 (drew w):=λ _ _ _ _=>rfl
 generalize (drew w)=D at hD hKD ⊢
 have q:=Za hD.bld.obj
 unfold R7
 rw [Ym λ QP w' k'=>Yt (k:=k') underlying94 ty9 b o m c .i64 0 (by decide) (by omega),show o+(0:Int).toNat*1=o from rfl]
 simp (disch:=try exact DI) only [↓PR,QR,simprocAttr,X4,q.1,q.2]
 have h1:=hD.set 1 (.int .i64 1) ⟨to,1,ByteArray.empty,0,0,[],[]⟩ (.slice none 0 0) (.slice none 0 0) rfl hD.bld.ob hD.bld.ot
 have h2:=h1.set 2 (.string a) ⟨to,1,a,0,0,[],[]⟩ (.slice none 0 0) (.slice none 0 0) rfl h1.bld.ob h1.bld.ot
 have k1:KB w p2 p2 (D.setCell ⟨p2,1,none⟩ (.int .i64 1)):=λ b hb g1 g2=>(YG.setCell _ p2 _ _ b g1).trans (hKD b hb g1 g2)
 refine ⟨k1,Xq ?_⟩
 exact hK _ h2
theorem Tk {K1:WPr} {R:RT} {to a:BAr} (h:RS w0 w p2 b0 n ws rs t27 ⟨to,0,ByteArray.empty,0,0,[],[]⟩ (.slice none 0 0) (.slice none 0 0)) (ha:rs[0]?=some a)
 (hK:∀ w',RS w0 w' p2 b0 n ws rs t27 ⟨to,6,a,0,0,[],[]⟩ (.slice none 0 0) (.slice none 0 0)→K1 w') :
 Yg w λ C w=>I9 (.pointer (some ⟨p2,0,none⟩)) t27 C K1 R w:=by
 obtain ⟨b,o,m,c,rfl,hm,hbp,X4⟩:=h.first ha
 refine Xy p2 p2 (w1:=w) (λ _ _ _ _=>rfl) ?_
 haveI:Yv (KB w p2 p2):=⟨⟨w,λ _ _ _ _=>rfl⟩⟩
 have hD:=h.go (Ext.refl w).drew
 have hKD:KB w p2 p2 (drew w):=λ _ _ _ _=>rfl
 generalize (drew w)=D at hD hKD ⊢
 have q:=Za hD.bld.obj
 unfold I9
 rw [Ym λ QP w' k'=>Yt (k:=k') underlying94 ty9 b o m c .i64 0 (by decide) (by omega),show o+(0:Int).toNat*1=o from rfl]
 simp (disch:=try exact DI) only [↓PR,QR,simprocAttr,X4,q.1,q.2]
 have h1:=hD.set 1 (.int .i64 6) ⟨to,6,ByteArray.empty,0,0,[],[]⟩ (.slice none 0 0) (.slice none 0 0) rfl hD.bld.ob hD.bld.ot
 have h2:=h1.set 2 (.string a) ⟨to,6,a,0,0,[],[]⟩ (.slice none 0 0) (.slice none 0 0) rfl h1.bld.ob h1.bld.ot
 have k1:KB w p2 p2 (D.setCell ⟨p2,1,none⟩ (.int .i64 6)):=λ b hb g1 g2=>(YG.setCell _ p2 _ _ b g1).trans (hKD b hb g1 g2)
 refine ⟨k1,Xq ?_⟩
 exact hK _ h2
theorem Zbb {K1:WPr} {R:RT} {to a:BAr} (h:RS w0 w p2 b0 n ws rs t27 ⟨to,0,ByteArray.empty,0,0,[],[]⟩ (.slice none 0 0) (.slice none 0 0)) (ha:rs[0]?=some a)
 (hK:∀ w',RS w0 w' p2 b0 n ws rs t27 ⟨to,2,a,0,0,[],[]⟩ (.slice none 0 0) (.slice none 0 0)→R8 (.pointer (some ⟨p2,0,none⟩)) t27 K1 R w') :
 Yg w λ C w=>R9 (.pointer (some ⟨p2,0,none⟩)) t27 C K1 R w:=by
 obtain ⟨b,o,m,c,rfl,hm,hbp,X4⟩:=h.first ha
 refine Xy p2 p2 (w1:=w) (λ _ _ _ _=>rfl) ?_
 haveI:Yv (KB w p2 p2):=⟨⟨w,λ _ _ _ _=>rfl⟩⟩
 have hD:=h.go (Ext.refl w).drew
 have hKD:KB w p2 p2 (drew w):=λ _ _ _ _=>rfl
 generalize (drew w)=D at hD hKD ⊢
 have q:=Za hD.bld.obj
 unfold R9
 rw [Ym λ QP w' k'=>Yt (k:=k') underlying94 ty9 b o m c .i64 0 (by decide) (by omega),show o+(0:Int).toNat*1=o from rfl]
 simp (disch:=try exact DI) only [↓PR,QR,simprocAttr,X4,q.1,q.2]
 have h1:=hD.set 1 (.int .i64 2) ⟨to,2,ByteArray.empty,0,0,[],[]⟩ (.slice none 0 0) (.slice none 0 0) rfl hD.bld.ob hD.bld.ot
 have h2:=h1.set 2 (.string a) ⟨to,2,a,0,0,[],[]⟩ (.slice none 0 0) (.slice none 0 0) rfl h1.bld.ob h1.bld.ot
 have k1:KB w p2 p2 (D.setCell ⟨p2,1,none⟩ (.int .i64 2)):=λ b hb g1 g2=>(YG.setCell _ p2 _ _ b g1).trans (hKD b hb g1 g2)
 refine ⟨k1,Xq ?_⟩
 exact hK _ h2
theorem Zbc {K1:WPr} {R:RT} {to a:BAr} (h:RS w0 w p2 b0 n ws rs t27 ⟨to,0,ByteArray.empty,0,0,[],[]⟩ (.slice none 0 0) (.slice none 0 0)) (ha:rs[0]?=some a)
 (hK:∀ w',RS w0 w' p2 b0 n ws rs t27 ⟨to,5,a,0,0,[],[]⟩ (.slice none 0 0) (.slice none 0 0)→EL (.pointer (some ⟨p2,0,none⟩)) (.slice (some ⟨b0,0,none⟩) n n) K1 R w') :
 Yg w λ C w=>I8 (.pointer (some ⟨p2,0,none⟩)) (.slice (some ⟨b0,0,none⟩) n n) t27 C K1 R w:=by
 obtain ⟨b,o,m,c,rfl,hm,hbp,X4⟩:=h.first ha
 refine Xy p2 p2 (w1:=w) (λ _ _ _ _=>rfl) ?_
 haveI:Yv (KB w p2 p2):=⟨⟨w,λ _ _ _ _=>rfl⟩⟩
 have hD:=h.go (Ext.refl w).drew
 have hKD:KB w p2 p2 (drew w):=λ _ _ _ _=>rfl
 generalize (drew w)=D at hD hKD ⊢
 have q:=Za hD.bld.obj
 unfold I8
 rw [Ym λ QP w' k'=>Yt (k:=k') underlying94 ty9 b o m c .i64 0 (by decide) (by omega),show o+(0:Int).toNat*1=o from rfl]
 simp (disch:=try exact DI) only [↓PR,QR,simprocAttr,X4,q.1,q.2]
 have h1:=hD.set 1 (.int .i64 5) ⟨to,5,ByteArray.empty,0,0,[],[]⟩ (.slice none 0 0) (.slice none 0 0) rfl hD.bld.ob hD.bld.ot
 have h2:=h1.set 2 (.string a) ⟨to,5,a,0,0,[],[]⟩ (.slice none 0 0) (.slice none 0 0) rfl h1.bld.ob h1.bld.ot
 have k1:KB w p2 p2 (D.setCell ⟨p2,1,none⟩ (.int .i64 5)):=λ b hb g1 g2=>(YG.setCell _ p2 _ _ b g1).trans (hKD b hb g1 g2)
 refine ⟨k1,Xq ?_⟩
 exact hK _ h2
end
theorem Iz {w:Wd} {QP:PEn} {k:KV} {base:Nat} {v:Vl} {l:List Qx} (x:Qx) {b:Nat} (xv:ZW w base 78 3 Z9 v l) (hc:w.heap[b]?=some (.cells (Z9 x).toArray 78 (0,0))) (UT:base≤w.heap.size) (hl:l.length≤1048576)
 (hk:∀ v' w',ZW w' base 78 3 Z9 v' (l++[x])→w.grownBy w' v.ownBlock→k v' w') :
 opV Pg (Builtin.append_ #[41,41] 41 #[v,.slice (some ⟨b,0,none⟩) 1 1]) QP w k:=by
 have hby:=ZiA
 refine We (l':=[x]) underlying41 Ft rfl (by decide) (λ _=>rfl) (λ x _ u hu=>by simp at hu;rcases hu with rfl | rfl | rfl<;>rfl) xv (λ j y hy=>?_) UT ?_ (by simp;omega) hk
 · cases j with
   | zero=>
    simp at hy;subst hy
    intro j v hv
    rw [(Za hc).1]
    simpa using hv
   | succ j=>simp at hy
 · simp only [List.length_cons,List.length_nil]
   exact Nat.le_trans (Nat.mul_le_mul (Nat.add_le_add_right hl 1) hby) (by decide)
section
variable {w0 w:Wd} {p2 b0 n:Nat} {ws rs:List BAr} {t27:Vl} {s:List UInt8} {x:FrD} {bv tv:Vl}
theorem qh (h:WE w0 w p2 x bv tv) (hn:QB s=none):Sa (.pointer (some ⟨p2,0,none⟩)) (ZI (jY w0 s)) w:=by
 obtain ⟨o1,o2⟩:=h.ones
 unfold Sa
 simp (disch:=try exact DI) only [↓PR,QR,simprocAttr,(Za h.obj).1]
 rw [U1 Ud h.obj (vs:=Zz x bv tv) rfl (Nat.le_refl _) (by intro v hv;simp only [List.mem_cons,List.not_mem_nil,or_false] at hv;rcases hv with rfl | rfl | rfl | rfl | rfl | rfl | rfl<;>first | rfl | assumption)]
 have h3:=h.go (Jf (Ext.refl w) h.obj (vs:=Zz x bv tv))
 generalize (YA w p2 0 (Zz x bv tv))=w3 at h3 ⊢
 simp (disch:=try exact DI) only [↓PR,QR,simprocAttr,(Za h3.obj).1]
 exact ⟨h3.e,_,x,false,rfl,⟨bv,tv,rfl,h3.ob,h3.ot⟩,.inr ⟨rfl,hn⟩⟩
theorem LY {l:List (List UInt8)} {u:List UInt8} {r:List Qx} (h:QK l=some r):QK (l++[u])=if (BN u).2=true then some (r++[(BN u).1]) else none:=by
 induction l generalizing r with
 | nil=>
  injection h with h
  subst h
  rw [List.nil_append,QK]
  split
  · rfl
  · rfl
 | cons y l ih=>
  rw [QK] at h
  split at h
  · rename_i hy
    cases ho:QK l with
    | none=>rw [ho] at h;cases h
    | some q=>
     rw [ho] at h
     injection h with h
     subst h
     rw [List.cons_append,QK,if_pos hy,ih ho]
     split<;>rfl
  · cases h
theorem Ok {l r:List (List UInt8)} (h:QK l=none):QK (l++r)=none:=by
 induction l with
 | nil=>cases h
 | cons y l ih=>
  rw [QK] at h
  rw [List.cons_append,QK]
  split
  · rename_i hy
    rw [if_pos hy] at h
    cases ho:QK l with
    | none=>rw [ih ho];rfl
    | some q=>rw [ho] at h;cases h
  · rfl
theorem Mk (hE:Vf w0) {to a:BAr} {W T:List (List UInt8)} (hT:T=W.drop (min 3 n)) (hWn:W.length=n) (hws:ws=W.map mkB) (hn:n≤90000) (hz:∀ u∈W,u.length≤100000) (h:RS w0 w p2 b0 n ws rs t27 ⟨to,5,a,0,0,[],[]⟩ (.slice none 0 0) (.slice none 0 0)) {K1:WPr}
 (hN:QK T=none→QB s=none) (hK:∀ l tv w',QK T=some l→RS w0 w' p2 b0 n ws rs t27 ⟨to,5,a,0,0,[],l⟩ (.slice none 0 0) tv→K1 w') :
 EL (.pointer (some ⟨p2,0,none⟩)) (.slice (some ⟨b0,0,none⟩) n n) K1 (ZI (jY w0 s)) w:=by
 have hmin:(if (n:Int) < 3 then (n:Int) else 3)=((min 3 n:Nat):Int):=by split<;>omega
 have hTl:T.length=n - min 3 n:=by rw [hT,List.length_drop,hWn]
 unfold EL
 simp (disch:=try exact DI) only [↓PR,QR,simprocAttr]
 rw [hmin,JV underlying94 ty9 b0 0 n n (min 3 n) (by omega) (Nat.le_refl _)]
 have hoff:∃ off,(if n=min 3 n then 0 else 0+min 3 n*1)=off∧(min 3 n < n→off=min 3 n):=⟨_,rfl,λ h=>by rw [if_neg (by omega)];omega⟩
 obtain ⟨off,hoff,hoff2⟩:=hoff
 rw [hoff]
 simp (disch:=try exact DI) only [↓PR,QR,simprocAttr]
 have lp2:=(Array.getElem?_eq_some_iff.1 h.bld.obj).1
 have lB:w0.heap.size≤w.heap.size:=h.bld.e.size
 have lb0:0 < ws.length→b0 < w.heap.size:=by
  intro YN
  obtain ⟨x,hx⟩:=getElem?_lt YN
  obtain ⟨A,c,hv,_,_,_,Y1⟩:=Zc.open h.ws
  obtain ⟨b,o,cs,hA,_,Y1,rfl⟩:=Y1 0 x hx
  injection hv with hv1 _ _
  rw [← hv1] at hA
  injection hA with hA
  injection hA with hb _
  subst hb
  exact World.block_lt_of_cell? _ _ (Y1.c1 (Ext.refl w))
 have lb3:0 < rs.length→∀ A m c,t27 = .slice (some A) m c→A.block < w.heap.size:=by
  intro YN A m c hv
  obtain ⟨x,hx⟩:=getElem?_lt YN
  obtain ⟨A',c',hv',_,_,_,Y1⟩:=Zc.open h.rs
  obtain ⟨b,o,cs,hA,_,Y1,rfl⟩:=Y1 0 x hx
  rw [hv] at hv'
  injection hv' with hv1 _ _
  rw [← hv1] at hA
  injection hA with hA
  subst hA
  exact World.block_lt_of_cell? _ _ (Y1.c1 (Ext.refl w))
 refine ZJ (λ i w'=>∃ (k:Nat) (l:List Qx) (tv:Vl),i = .int .i64 k∧k≤T.length∧QK (T.take k)=some l∧l.length=k∧ZW w' w.heap.size 78 3 Z9 tv l∧w.heap.size≤w'.heap.size∧RS w0 w' p2 b0 n ws rs t27 ⟨to,5,a,0,0,[],l⟩ (.slice none 0 0) tv) (λ i _=>T.length - (intOf i).toNat) ⟨0,[],_,rfl,by omega,rfl,rfl,ZW.nil _ _ _ _ _,Nat.le_refl _,h⟩ ?_
 rintro _ w1 ⟨k,l,tv,rfl,hk,hrl,hll,hO1,hz1,hR⟩
 rw [← hTl]
 rcases ZT hk with ⟨u,hu,hdr,Yq,ZY⟩ | ⟨hk,_,ZY⟩
 · have hWu:W[min 3 n+k]?=some u:=by rw [hT,List.getElem?_drop] at hu;exact hu
   have hsu:ws[min 3 n+k]?=some (mkB u):=by rw [hws,List.getElem?_map,hWu];rfl
   have hlt':k < n - min 3 n:=by omega
   have huz:=hz u (List.mem_of_getElem? hWu)
   obtain ⟨A,c,hv,_,_,_,Y1⟩:=Zc.open hR.ws
   obtain ⟨b',o',cs,hA',_,hA,rfl⟩:=Y1 _ _ hsu
   injection hv with hv1 _ _
   rw [← hv1] at hA'
   injection hA' with hA'
   injection hA' with hb ho
   subst hb ho
   have X4:w1.cell? ⟨b0,off+k*1,none⟩=some (.string (mkB u)):=by
    have:=hA.c1 (Ext.refl w1)
    rw [hoff2 (by omega)]
    rw [← this]
    congr 2
    omega
   have XY:=LY (u:=u) hrl
   rw [← XM hu] at XY
   simp (disch:=try exact DI) only [↓PR,QR,simprocAttr,ZY]
   unfold RW
   simp (disch:=try exact DI) only [↓PR,QR,simprocAttr,X4]
   refine zcr (Zbg w1 (hE.ext hR.bld.e).env u huz) λ w2 e2=>?_
   obtain ⟨y,ok,hyo⟩:∃ y ok,BN u=(y,ok):=⟨_,_,rfl⟩
   rw [hyo] at XY ⊢
   simp only at XY ⊢
   have hR2:=hR.go e2
   unfold RV
   simp (disch:=try exact DI) only [↓PR,QR,simprocAttr]
   generalize hV:World.setCell (World.setCell (World.setCell (World.alloc w2 _) _ _) _ _) _ _=V
   have eV:Ext w2 V:=by rw [← hV];exact ((((Ext.refl w2).alloc _).setCell (Nat.le_refl _) _).setCell (Nat.le_refl _) _).setCell (Nat.le_refl _) _
   have oV:V.heap[w2.heap.size]?=some (.cells (Z9 y).toArray 78 (0,0)):=by rw [← hV];exact Zw (o:=2) (Zw (o:=1) (Zw (o:=0) (Zv w2 _ _) (.int .i64 y.low)) (.int .i64 y.high)) (.int .i64 y.to)
   clear hV
   obtain ⟨p8,hp8⟩:∃ p8,w2.heap.size=p8:=⟨_,rfl⟩
   rw [hp8] at oV ⊢
   have hRV:=hR2.go eV
   cases ok with
   | false=>
    rw [if_neg (by simp)] at XY
    have hno:QB s=none:=hN (by
     have:=Ok (r:=T.drop (k+1)) XY
     rwa [List.take_append_drop] at this)
    simp (disch:=try exact DI) only [↓PR,QR,simprocAttr]
    exact qh hRV.bld hno
   | true=>
    rw [if_pos rfl] at XY
    unfold RU
    simp (disch:=try exact DI) only [↓PR,QR,simprocAttr,(Za hRV.bld.obj).1,(Za oV).1]
    have oY:=Zv V (Z9 y).toArray 78
    have eY:Ext V (V.alloc (.cells (Z9 y).toArray 78)):=(Ext.refl V).alloc _
    generalize (V.alloc (.cells (Z9 y).toArray 78))=Y at oY eY ⊢
    have hRY:=hRV.go eY
    have e1Y:=e2.trans (eV.trans eY)
    have hOY:=hO1.ext e1Y
    have hzY:w.heap.size≤Y.heap.size:=Nat.le_trans hz1 e1Y.size
    refine Iz y hOY oY hzY (by omega) ?_
    intro v' w' hO' hg
    have hlo:∀ b,tv.ownBlock=some b→w.heap.size≤b:=λ b hb=>(World.ownsRow.lt hOY b hb).1
    have e':Ext w0 w':=hRY.bld.e.grown hg λ b hb=>Nat.le_trans lB (hlo b hb)
    have blk:∀ g,g < w.heap.size→w'.heap[g]?=Y.heap[g]?:=λ g hg1=>hg.block g (by omega) λ e=>by have:=hlo g e.symm;omega
    have sl:∀ {v:Vl} {ll:List BAr},(0 < ll.length→∀ A m c,v = .slice (some A) m c→A.block < w.heap.size)→UI Y v ll→UI w' v ll:=by
     intro v ll hty hs
     obtain ⟨A,c,hv,h2,h3,h4⟩:=hs
     refine ⟨A,c,hv,h2,h3,λ YN=>?_⟩
     obtain ⟨b,o,hA,Y1⟩:=h4 YN
     subst hA
     have hb:=blk b (hty (List.length_pos_iff.2 YN) _ _ _ hv)
     exact ⟨b,o,rfl,λ i x hx=>by
      obtain ⟨cs',l1,hA',hE'⟩:=Y1 i x hx
      exact ⟨cs',l1,λ j v hv=>(World.cell?_of_block hb).trans (hA' j v hv),hE'⟩⟩
    have o8:=(blk p2 lp2).trans hRY.bld.obj
    have v1:v'.oneCell'=true:=Zc.oneCell (V2 hO')
    have hR':RS w0 w' p2 b0 n ws rs t27 ⟨to,5,a,0,0,[],l⟩ (.slice none 0 0) tv→True:=λ _=>trivial
    simp (disch:=try exact DI) only [↓PR,QR,simprocAttr,(Za o8).1,(Za o8).2]
    have hO2:ZW (w'.setCell ⟨p2,6,none⟩ v') w.heap.size 78 3 Z9 v' (l++[y]):=ZW.keep hO' λ g hgo=>YG.setCell _ p2 _ _ g (by have:=(World.ownsRow.lt hO' g hgo).1;omega)
    have wsl:=sl (v := .slice (some ⟨b0,0,none⟩) n n) (λ YN A m c e=>by injection e with e;injection e with e;subst e;exact lb0 YN) hRY.ws
    have rsl:=sl lb3 hRY.rs
    refine ⟨⟨k+1,l++[y],v',rfl,Yq,XY,by simp [hll],hO2,by have:=hg.size;first | omega | (rw [World.size_setCell];omega),⟨⟨e'.setCell (p:=⟨p2,6,none⟩) h.bld.lp _,h.bld.lp,?_,ZW.nil _ _ _ _ _,hO2.base lB⟩,Zc.setOther wsl _ (λ A m c e=>by injection e with e;injection e with e;subst e;exact h.nb) (λ _ _ h=>h),h.nb,Zc.setOther rsl _ h.nr (λ _ _ h=>h),h.nr⟩⟩,Ya (kd := .i64) Yq⟩
    have:=Zw (o:=6) o8 v'
    rw [this]
    rfl
 · subst hk
   rw [List.take_length] at hrl
   simp (disch:=try exact DI) only [↓PR,QR,simprocAttr,ZY]
   exact hK l tv w1 hrl hR
end
theorem zS (c:UInt8):∀ l:List UInt8,(Yi c l).length≤l.length+1
 | []=>by simp [Yi]
 | b::l=>by
  have ih:=zS c l
  by_cases h:b=c
  · subst h
    rw [WI,List.length_cons,List.length_cons]
    omega
  · cases hL:Yi c l with
    | nil=>exact absurd hL (WV _ _)
    | cons x r=>
     rw [hL] at ih
     rw [X2 h hL]
     simp only [List.length_cons] at ih ⊢
     omega
theorem DP {w:Wd} (hE:UD w) (s:List UInt8) (c:UInt8) (hs:s.length≤100000):Ret Pg 50 #[.string (mkB s),.string ⟨#[c]⟩] w λ r w'=>Ext w w'∧r = .slice (some ⟨w.heap.size,0,none⟩) (Yi c s).length (Yi c s).length∧UI w' r ((Yi c s).map mkB):=by
 refine (Nn hE (mkB s) c (by rw [Xc];exact hs)).mono ?_
 rintro _ w' ⟨e,n,rfl,h⟩
 rw [OB] at h
 unfold ZdO at h
 rw [Qu] at h
 obtain ⟨A,cc,hv,_⟩:=Zc.open h
 injection hv with _ hn _
 rw [List.length_map] at hn
 subst hn
 exact ⟨e,rfl,h⟩
theorem Zfv (k:List UInt8) (i:Int):decide (mkB k=mkB (kwW i))=decide (k=kwW i):=MK
theorem B8:∀ (a r:List UInt8),XN a=some r→r.length≤a.length
 | [],r,h=>by injection h with h;subst h;simp
 | [x],r,h=>by
  unfold XN at h
  cases hx:VL x with
  | none=>rw [hx] at h;cases h
  | some d=>rw [hx] at h;injection h with h;subst h;simp
 | x::y::l,r,h=>by
  unfold XN at h
  cases hx:VL x with
  | none=>rw [hx] at h;cases h
  | some d=>
   cases hy:VL y with
   | none=>rw [hx,hy] at h;cases h
   | some d2=>
    cases hl:XN l with
    | none=>rw [hx,hy,hl] at h;cases h
    | some q=>
     rw [hx,hy,hl] at h
     injection h with h
     subst h
     have:=B8 l q hl
     simp only [List.length_cons]
     omega
theorem OI (a:List UInt8):(QN a).length≤a.length:=by
 unfold QN
 cases h:XN a with
 | none=>simp
 | some r=>exact B8 a r h
theorem LZ (w0:Wd) (hE:Vf w0) (s:List UInt8) (hs:s.length≤80000):Ret Pg 51 #[.string (mkB s)] w0 (jY w0 s):=by
 have hlb:=N2 s
 have hcl:=zS 32 s
 have hcs:∀ u∈Yi 32 s,u.length≤80000:=λ u hu=>Nat.le_trans (UQ hu) hs
 refine Zkq (R:=ZI _) ?_;unfold n51
 simp (disch:=try exact DI) only [↓PR,QR,simprocAttr]
 have oV:=Zv w0 #[.string ByteArray.empty,.int .i64 0,.string ByteArray.empty,.int .i64 0,.int .i64 0,.slice none 0 0,.slice none 0 0] 43
 have eV:Ext w0 (w0.alloc (.cells #[.string ByteArray.empty,.int .i64 0,.string ByteArray.empty,.int .i64 0,.int .i64 0,.slice none 0 0,.slice none 0 0] 43)):=(Ext.refl w0).alloc _
 have sV:(w0.alloc (.cells #[.string ByteArray.empty,.int .i64 0,.string ByteArray.empty,.int .i64 0,.int .i64 0,.slice none 0 0,.slice none 0 0] 43)).heap.size=w0.heap.size+1:=World.size_alloc ..
 generalize (w0.alloc (.cells #[.string ByteArray.empty,.int .i64 0,.string ByteArray.empty,.int .i64 0,.int .i64 0,.slice none 0 0,.slice none 0 0] 43))=V at oV eV sV ⊢
 obtain ⟨p2,hp2⟩:∃ p2,w0.heap.size=p2:=⟨_,rfl⟩
 rw [hp2] at oV sV ⊢
 have hB0:WE w0 V p2 ⟨ByteArray.empty,0,ByteArray.empty,0,0,[],[]⟩ (.slice none 0 0) (.slice none 0 0):=⟨eV,by omega,oV,ZW.nil _ _ _ _ _,ZW.nil _ _ _ _ _⟩
 refine Zk (DP (hE.ext eV).env s 32 (by omega)) ?_
 rintro _ w1 ⟨e1,rfl,hW⟩
 have hB1:=hB0.go e1
 have nb:V.heap.size≠p2:=by omega
 obtain ⟨b0,hb0⟩:∃ b0,V.heap.size=b0:=⟨_,rfl⟩
 rw [hb0] at hW nb ⊢
 unfold R6
 have YN:=WV 32 s
 generalize hWW:Yi 32 s=W at hW hcl hcs hlb YN ⊢
 match W,YN,hW,hcl,hcs,hlb with
 | [y],_,hW,hcl,hcs,hlb=>
  have hno:QB s=none:=hlb
  simp (disch:=try exact DI) only [↓PR,QR,simprocAttr]
  exact qh hB1 hno
 | t::k::rest,_,hW,hcl,hcs,hlb=>
  have hn2:2≤(t::k::rest).length:=by simp
  have d2:decide (((t::k::rest).length:Int) < 2)=false:=by simp only [decide_eq_false_iff_not];omega
  obtain ⟨A,c,hv,_,_,_,Y1⟩:=Zc.open hW
  injection hv with hv1 _ _
  obtain ⟨b',o',cs,hA0,_,hA,rfl⟩:=Y1 0 (mkB t) rfl
  obtain ⟨b'',o'',cs,hA1,_,hAk,rfl⟩:=Y1 1 (mkB k) rfl
  rw [← hv1] at hA0 hA1
  injection hA0 with hA0
  injection hA0 with g1 g2
  subst g1 g2
  injection hA1 with hA1
  injection hA1 with g1 g2
  subst g1 g2
  have ct:w1.cell? ⟨b0,0,none⟩=some (.string (mkB t)):=hA.c1 (Ext.refl w1)
  have ck:w1.cell? ⟨b0,1,none⟩=some (.string (mkB k)):=hAk.c1 (Ext.refl w1)
  have htz:=hcs t (List.mem_cons_self ..)
  have X4:∀ j x,(rest.map mkB)[j]?=some x→Yn w1 b0 (2+j*1) (Xu x):=by
   intro j x hx
   obtain ⟨b3,o3,cs,hA3,_,hA4,rfl⟩:=Y1 (j+2) x hx
   rw [← hv1] at hA3
   injection hA3 with hA3
   injection hA3 with g1 g2
   subst g1 g2
   rw [show 2+j*1=0+(j+2)*1 by omega]
   exact hA4
  generalize hn:(t::k::rest).length=n at hn2 d2 hcl hW ⊢
  simp (disch:=try exact DI) only [↓PR,QR,simprocAttr,d2]
  unfold R5
  try unfold X0
  rw [Yt underlying94 ty9 b0 0 n n .i64 0 (by decide) (by omega),show 0+(0:Int).toNat*1=0 from rfl]
  simp (disch:=try exact DI) only [↓PR,QR,simprocAttr,ct,(Za hB1.obj).1,(Za hB1.obj).2]
  have hBX:=hB1.set 0 (.string (mkB t)) ⟨mkB t,0,ByteArray.empty,0,0,[],[]⟩ (.slice none 0 0) (.slice none 0 0) rfl hB1.ob hB1.ot
  have hWX:UI (w1.setCell ⟨p2,0,none⟩ (.string (mkB t))) (.slice (some ⟨b0,0,none⟩) n n) ((t::k::rest).map mkB):=Zc.setOther hW _ (λ A m c e=>by injection e with e;injection e with e;subst e;exact nb) (λ _ _ h=>h)
  have ckX:(w1.setCell ⟨p2,0,none⟩ (.string (mkB t))).cell? ⟨b0,1,none⟩=some (.string (mkB k)):=by rw [YJ (.inl nb)];exact ck
  have hcX:∀ j x,(rest.map mkB)[j]?=some x→Yn (w1.setCell ⟨p2,0,none⟩ (.string (mkB t))) b0 (2+j*1) (Xu x):=λ j x hx i v hv=>by rw [YJ (.inl nb)];exact X4 j x hx i v hv
  generalize (w1.setCell ⟨p2,0,none⟩ (.string (mkB t)))=X at hBX hWX ckX hcX ⊢
  have Y8:(rest.map mkB).length=n - 2:=by rw [List.length_map,← hn];simp
  obtain ⟨o,ho,ho2⟩:∃ o,(if n=2 then 0 else 0+2*1)=o∧(2 < n→o=2):=⟨_,rfl,λ h=>by rw [if_neg (by omega)]⟩
  refine (HP underlying94 ty9 b0 0 n n 2 n hn2 (Nat.le_refl _)).mpr ?_
  rw [ho]
  simp (disch:=try exact DI) only [↓PR,QR,simprocAttr]
  have hE2:=U3 X [ByteArray.empty,ByteArray.empty] (by simp) (Nat.le_refl _)
  have eY:Ext X (X.alloc (.cells (([ByteArray.empty,ByteArray.empty]:List BAr).map Value.string).toArray 9)):=(Ext.refl X).alloc _
  change opV _ _ _ (X.alloc (.cells (([ByteArray.empty,ByteArray.empty]:List BAr).map Value.string).toArray 9)) _
  generalize (X.alloc (.cells (([ByteArray.empty,ByteArray.empty]:List BAr).map Value.string).toArray 9))=Y at hE2 eY ⊢
  rw [← Y8]
  refine D2 (l:=rest.map mkB) (l':=[ByteArray.empty,ByteArray.empty]) (λ j x hx=>?_) (yU hE2) (by simp) (by omega) (by simp) ?_
  · have:=(List.getElem?_eq_some_iff.1 hx).1
    rw [ho2 (by omega)]
    exact λ i v hv=>eY.cell (hcX j x hx i v hv)
  intro t27 Z hO27 eZ
  have eXZ:=eY.trans eZ
  have lX2:=(Array.getElem?_eq_some_iff.1 hBX.obj).1
  have hRS:RS w0 Z p2 b0 n ((t::k::rest).map mkB) (rest.map mkB++[ByteArray.empty,ByteArray.empty]) t27 ⟨mkB t,0,ByteArray.empty,0,0,[],[]⟩ (.slice none 0 0) (.slice none 0 0):=by
   refine ⟨hBX.go eXZ,Zc.ext Gj hWX eXZ,nb,yU hO27,λ A m c e=>?_⟩
   subst e
   have:=(World.ownsRow.lt hO27 A.block rfl).1
   have:=eY.size
   omega
  have ckZ:=eXZ.cell ckX
  try unfold X0
  rw [Yt underlying94 ty9 b0 0 n n .i64 1 (by decide) (by omega),show 0+(1:Int).toNat*1=1 from rfl]
  have dk:∀ (i:Int) (b:BAr),b=mkB (kwW i)→decide (mkB k=b)=decide (k=kwW i):=λ i b hb=>by rw [hb];exact Zfv k i
  have dk1:=dk 1 ⟨#[99,111,112,121]⟩ rfl
  have dk2:=dk 2 ⟨#[97,100,100]⟩ rfl
  have dk3:=dk 3 ⟨#[118,97,108,117,101]⟩ rfl
  have dk4:=dk 4 ⟨#[98,121,116,101,115]⟩ rfl
  have dk5:=dk 5 ⟨#[116,97,98,108,101]⟩ rfl
  have dk6:=dk 6 ⟨#[110,101,115,116,101,100]⟩ rfl
  have dk7:=dk 7 ⟨#[102,105,116]⟩ rfl
  obtain ⟨a,ha,ha1⟩:∃ a,rest[0]?.getD []=a∧(rest.map mkB++[ByteArray.empty,ByteArray.empty])[0]?=some (mkB a):=by
   cases rest with
   | nil=>exact ⟨[],rfl,rfl⟩
   | cons y r=>exact ⟨y,rfl,rfl⟩
  obtain ⟨b,hb,hb1⟩:∃ b,rest[1]?.getD []=b∧(rest.map mkB++[ByteArray.empty,ByteArray.empty])[1]?=some (mkB b):=by
   match rest with
   | []=>exact ⟨[],rfl,rfl⟩
   | [_]=>exact ⟨[],rfl,rfl⟩
   | _::y::r=>exact ⟨y,rfl,rfl⟩
  have haz:a.length≤80000:=by
   rw [← ha]
   cases rest with
   | nil=>simp
   | cons y r=>exact hcs y (by simp)
  have hbz:b.length≤80000:=by
   rw [← hb]
   match rest with
   | []=>simp
   | [_]=>simp
   | _::y::r=>exact hcs y (by simp)
  have hbld:T6 (t::k::rest)=if k=kwW 1 then some ⟨mkB t,1,mkB a,0,0,[],[]⟩ else if k=kwW 2 then some ⟨mkB t,2,mkB a,XQ (Yc b),0,[],[]⟩ else if k=kwW 3 then some ⟨mkB t,3,⟨#[]⟩,0,XQ (Yc a),[],[]⟩ else if k=kwW 4 then some ⟨mkB t,4,⟨#[]⟩,0,0,QN a,[]⟩ else if k=kwW 5 then (QK rest.tail).map λ l=>⟨mkB t,5,mkB a,0,0,[],l⟩ else if k=kwW 6 then some ⟨mkB t,6,mkB a,0,0,[],[]⟩ else if k=kwW 7 then some ⟨mkB t,7,⟨#[]⟩,0,0,[],[]⟩ else none:=by
   rw [← ha,← hb];rfl
  have tz:(mkB t).size≤100000:=by rw [Xc];omega
  have az:(mkB a).size≤100000:=by rw [Xc];omega
  have ez:(⟨#[]⟩:BAr).size=0:=rfl
  have fin:∀ (x:FrD) (bv tv:Vl) (w':Wd),WE w0 w' p2 x bv tv→inF x=true→x.bytes.length≤100000→x.table.length≤90000→x.to.size≤100000→x.fr.size≤100000→T6 (t::k::rest)=some x→Yg w' λ C2 w=>MR (.string (mkB s)) (.pointer (some ⟨p2,0,none⟩)) C2 (ZI (jY w0 s)) w:=λ x bv tv w' h h1 h2 h3 h4 h5 h6=>Ol hE h h1 h2 h3 h4 h5 (by rw [hlb,h6])
  have in0:∀ (to fr:BAr) (kd ad vl:Int) (by_:List UInt8),Qm ad=true→Qm vl=true→inF ⟨to,kd,fr,ad,vl,by_,[]⟩=true:=λ to fr kd ad vl by_ h1 h2=>by unfold inF;simp only [h1,h2,List.all_nil,Bool.and_self]
  simp (disch:=try exact DI) only [↓PR,QR,simprocAttr,ckZ,dk1]
  by_cases k1:k=kwW 1
  · rw [decide_eq_true k1]
    rw [if_pos k1] at hbld
    simp (disch:=try exact DI) only [↓PR,QR,simprocAttr]
    exact Tj hRS ha1 λ w' h=>fin _ _ _ _ h.bld (in0 _ _ _ _ _ _ (by decide) (by decide)) (by simp) (by simp) tz az hbld
  rw [decide_eq_false k1]
  rw [if_neg k1] at hbld
  simp (disch:=try exact DI) only [↓PR,QR,simprocAttr,R4,dk2]
  by_cases k2:k=kwW 2
  · rw [decide_eq_true k2]
    rw [if_pos k2] at hbld
    simp (disch:=try exact DI) only [↓PR,QR,simprocAttr]
    refine Zbb hRS ha1 λ w' h=>?_
    obtain ⟨b3,o3,m,c3,rfl,hm,hbp,X4⟩:=h.second hb1
    unfold R8
    try unfold X0
    rw [Yt underlying94 ty9 b3 o3 m c3 .i64 1 (by decide) (by omega),show o3+(1:Int).toNat*1=o3+1 from rfl]
    simp (disch:=try exact DI) only [↓PR,QR,simprocAttr,X4]
    refine zcr (W4 w' (hE.ext h.bld.e).env b (by omega)) λ w4 e4=>?_
    have hB4:=h.bld.go e4
    unfold Cr ZcH
    simp (disch:=try exact DI) only [↓PR,QR,simprocAttr,(Za hB4.obj).1,(Za hB4.obj).2]
    have h5:=hB4.set 3 (.int .i64 (XQ (Yc b))) ⟨mkB t,2,mkB a,XQ (Yc b),0,[],[]⟩ (.slice none 0 0) (.slice none 0 0) rfl hB4.ob hB4.ot
    exact fin _ _ _ _ h5 (in0 _ _ _ _ _ _ (KZ _) (by decide)) (by simp) (by simp) tz az hbld
  rw [decide_eq_false k2]
  rw [if_neg k2] at hbld
  simp (disch:=try exact DI) only [↓PR,QR,simprocAttr,R3,dk3]
  by_cases k3:k=kwW 3
  · rw [decide_eq_true k3]
    rw [if_pos k3] at hbld
    obtain ⟨b3,o3,m,c3,rfl,hm,hbp,X4⟩:=hRS.first ha1
    have q:=Za hRS.bld.obj
    simp (disch:=try exact DI) only [↓PR,QR,simprocAttr,R1,q.1,q.2]
    have h1:=hRS.bld.set 1 (.int .i64 3) ⟨mkB t,3,ByteArray.empty,0,0,[],[]⟩ (.slice none 0 0) (.slice none 0 0) rfl hRS.bld.ob hRS.bld.ot
    have hc1:(Z.setCell ⟨p2,1,none⟩ (.int .i64 3)).cell? ⟨b3,o3,none⟩=some (.string (mkB a)):=by rw [YJ (.inl hbp)];exact X4
    generalize (Z.setCell ⟨p2,1,none⟩ (.int .i64 3))=Z1 at h1 hc1 ⊢
    try unfold X0
    rw [Yt underlying94 ty9 b3 o3 m c3 .i64 0 (by decide) (by omega),show o3+(0:Int).toNat*1=o3 from rfl]
    simp (disch:=try exact DI) only [↓PR,QR,simprocAttr,hc1]
    refine zcr (W4 Z1 (hE.ext h1.e).env a (by omega)) λ w4 e4=>?_
    have hB4:=h1.go e4
    unfold Cr ZcI
    simp (disch:=try exact DI) only [↓PR,QR,simprocAttr,(Za hB4.obj).1,(Za hB4.obj).2]
    have h5:=hB4.set 4 (.int .i64 (XQ (Yc a))) ⟨mkB t,3,ByteArray.empty,0,XQ (Yc a),[],[]⟩ (.slice none 0 0) (.slice none 0 0) rfl hB4.ob hB4.ot
    exact fin _ _ _ _ h5 (in0 _ _ _ _ _ _ (by decide) (KZ _)) (by simp) (by simp) tz (by show (⟨#[]⟩:BAr).size≤_;rw [ez];omega) hbld
  rw [decide_eq_false k3]
  rw [if_neg k3] at hbld
  simp (disch:=try exact DI) only [↓PR,QR,simprocAttr,R2,dk4]
  by_cases k4:k=kwW 4
  · rw [decide_eq_true k4]
    rw [if_pos k4] at hbld
    obtain ⟨b3,o3,m,c3,rfl,hm,hbp,X4⟩:=hRS.first ha1
    simp (disch:=try exact DI) only [↓PR,QR,simprocAttr]
    unfold RZ
    try unfold X0
    rw [Yt underlying94 ty9 b3 o3 m c3 .i64 0 (by decide) (by omega),show o3+(0:Int).toNat*1=o3 from rfl]
    simp (disch:=try exact DI) only [↓PR,QR,simprocAttr,X4]
    refine Zk (OJ Z (hE.ext hRS.bld.e).env a (by omega)) ?_
    rintro u w4 ⟨hu,e4⟩
    have hB4:=hRS.bld.go e4
    have hu0:ZW w4 w0.heap.size 5 1 XV u (QN a):=hu.base (hRS.bld.e.size)
    have u1:u.oneCell'=true:=Zc.oneCell (zy hu0)
    unfold ZcJ
    simp (disch:=try exact DI) only [↓PR,QR,simprocAttr,(Za hB4.obj).1,(Za hB4.obj).2]
    have h5:=hB4.set 1 (.int .i64 4) ⟨mkB t,4,ByteArray.empty,0,0,[],[]⟩ (.slice none 0 0) (.slice none 0 0) rfl hB4.ob hB4.ot
    have hu5:ZW (w4.setCell ⟨p2,1,none⟩ (.int .i64 4)) w0.heap.size 5 1 XV u (QN a):=by
     have:=(hu.range.only (YG.setCell w4 p2 1 (.int .i64 4)) (.inr (.inl (by have:=(Array.getElem?_eq_some_iff.1 hRS.bld.obj).1;omega)))).1
     exact this.base hRS.bld.e.size
    have h6:=h5.set 5 u ⟨mkB t,4,ByteArray.empty,0,0,QN a,[]⟩ u (.slice none 0 0) rfl hu5 h5.ot
    exact fin _ _ _ _ h6 (in0 _ _ _ _ _ _ (by decide) (by decide)) (Nat.le_trans (OI a) (by omega)) (by simp) tz (by show (⟨#[]⟩:BAr).size≤_;rw [ez];omega) hbld
  rw [decide_eq_false k4]
  rw [if_neg k4] at hbld
  simp (disch:=try exact DI) only [↓PR,QR,simprocAttr,R0,dk5]
  by_cases k5:k=kwW 5
  · rw [decide_eq_true k5]
    rw [if_pos k5] at hbld
    have hT:rest.tail=(t::k::rest).drop (min 3 n):=by
     rw [← hn]
     cases rest with
     | nil=>rfl
     | cons y r=>
      rw [show min 3 (t::k::y::r).length=3 by simp only [List.length_cons];omega]
      rfl
    have htl:rest.tail.length≤n:=by rw [← hn,List.length_tail];simp only [List.length_cons];omega
    simp (disch:=try exact DI) only [↓PR,QR,simprocAttr]
    refine Zbc hRS ha1 λ w' h=>?_
    refine Mk hE hT hn rfl (by omega) (λ u hu=>by have:=hcs u hu;omega) h (λ hno=>by rw [hlb,hbld,hno];rfl) λ l tv w'' hl h''=>?_
    have hin:=H0 hl
    refine fin _ _ _ _ h''.bld ?_ (by simp) (by show l.length≤_;omega) tz az (by rw [hbld,hl];rfl)
    unfold inF
    simp only [hin.1,Bool.and_true]
    decide
  rw [decide_eq_false k5]
  rw [if_neg k5] at hbld
  simp (disch:=try exact DI) only [↓PR,QR,simprocAttr,RY,dk6]
  by_cases k6:k=kwW 6
  · rw [decide_eq_true k6]
    rw [if_pos k6] at hbld
    simp (disch:=try exact DI) only [↓PR,QR,simprocAttr]
    exact Tk hRS ha1 λ w' h=>fin _ _ _ _ h.bld (in0 _ _ _ _ _ _ (by decide) (by decide)) (by simp) (by simp) tz az hbld
  rw [decide_eq_false k6]
  rw [if_neg k6] at hbld
  simp (disch:=try exact DI) only [↓PR,QR,simprocAttr,RX,dk7]
  by_cases k7:k=kwW 7
  · rw [decide_eq_true k7]
    rw [if_pos k7] at hbld
    have q:=Za hRS.bld.obj
    simp (disch:=try exact DI) only [↓PR,QR,simprocAttr,q.1,q.2]
    have h1:=hRS.bld.set 1 (.int .i64 7) ⟨mkB t,7,ByteArray.empty,0,0,[],[]⟩ (.slice none 0 0) (.slice none 0 0) rfl hRS.bld.ob hRS.bld.ot
    exact fin _ _ _ _ h1 (in0 _ _ _ _ _ _ (by decide) (by decide)) (by simp) (by simp) tz (by show (⟨#[]⟩:BAr).size≤_;rw [ez];omega) hbld
  rw [decide_eq_false k7]
  rw [if_neg k7] at hbld
  simp (disch:=try exact DI) only [↓PR,QR,simprocAttr]
  exact qh hRS.bld (by rw [hlb,hbld];rfl)
end Go.Proofs.YtgalpdihjbinjaaGreatDoor
