/-
  Lemmas for the claim.
-/
import Derived.Test.YtgalpdihjbinjaaGreatDoorXa4
set_option linter.all false
set_option maxHeartbeats 4000000
set_option maxRecDepth 100000
open Go.Instr (loadAt storeAt fieldAt indexAt buildSlice mapUpdate makeFunc)
open Go.Proofs.Tryz
namespace Go.Proofs.YtgalpdihjbinjaaGreatDoor
open Sw
open Go.RowKit (intOf Below)
def GM (m:YG) (d e:Qk):Bool:=match m.rules.find? λ r=>decide (r.fr=d.start) with
 | none=>false
 | some r=>decide (r.to=e.start)
def FY (m:YG) (d e:Qk) (q:Int×Int×Int):Option (Int×Int×Int):=if q.2.2≠0 then some q else if GM m d e=true then none else some (-1,-1,11)
def JS (m:YG) (d e:Qk):Option (Int×Int×Int):=
 if (!X1 d&&!X1 e)=false then some (-1,-1,0) else if Yj m.name=false then some (-1,-1,1) else if ¬ (1≤m.rules.length∧m.rules.length≤60) then some (-1,-1,2) else FY m d e (GJ m d e 0 m.rules)
def CR (o:Option (Int×Int×Int)):Vl := .tuple #[W3 (o.getD (0,0,0)).1 (o.getD (0,0,0)).2.1 (o.getD (0,0,0)).2.2,.bool o.isSome]
theorem HL {P:Program} {QP:PEn} {w:Wd} {k:KV} {xt t:TypeId} {d:TypeDesc} (hu:P.underlying t=some d) (hn:(match d with | .interface _=>false | _=>true)=true) (v:Vl):opV P (Instr.typeAssert (.iface t v) xt t false) QP w k=k v w:=by
 refine ZS ?_
 unfold Instr.typeAssert
 simp only [Sem.run_bind,run_underlying hu,Result.andThen_ok]
 cases d<;>simp at hn<;>simp
abbrev QW (p3 p4:Nat):Deferred:={ target := .fn (.func 32) #[.pointer (some ⟨p3,0,none⟩),.pointer (some ⟨p4,0,none⟩)],args := #[] }
theorem FQ {p3 p4:Nat} {w:Wd} {k:FrameMode→Wd→Prop} (h:k .returning w):qe Pg [QW p3 p4] .returning w k:=by
 refine ⟨by simp,.inr ⟨.func 32,_,32,#[.pointer (some ⟨p3,0,none⟩),.pointer (some ⟨p4,0,none⟩)],rfl,?_,?_⟩⟩
 · exact XX c32 _ w
 · refine Zei ?_
   unfold n15
   show opV _ (Zh .neq _ true .nilIface .nilIface) _ _ _
   rw [Vt underlying20]
   simp (disch:=try exact DI) only [↓PR,QR,simprocAttr]
   exact h
theorem FO {p3 p4:Nat} {w:Wd} {k:FrameMode→Wd→Prop} {a f c:Int} {x0 x1 x2 y:Vl} (o3:w.heap[p3]?=some (.cells #[x0,x1,x2] 34 (0,0))) (o4:w.heap[p4]?=some (.cells #[y] 4 (0,0)))
 (h:k .returning ((((w.setCell ⟨p3,0,none⟩ (.int .i64 a)).setCell ⟨p3,1,none⟩ (.int .i64 f)).setCell ⟨p3,2,none⟩ (.int .i64 c)).setCell ⟨p4,0,none⟩ (.bool true))):qe Pg [QW p3 p4] (.panicking [WT a f c]) w k:=by
 have YW:p3≠p4:=by rintro rfl;rw [o3] at o4;cases o4
 refine ⟨by simp,.inr ⟨.func 32,_,32,#[.pointer (some ⟨p3,0,none⟩),.pointer (some ⟨p4,0,none⟩)],rfl,?_,?_⟩⟩
 · exact XX c32 _ w
 · refine Zei ?_
   rw [show recM (.panicking [WT a f c])=(.iface 82 (W3 a f c),.panicking [{ v := .iface 82 (W3 a f c),recovered:=true }]) from rfl]
   unfold n15
   rw [Vu underlying20]
   simp (disch:=try exact DI) only [↓PR,QR,simprocAttr]
   unfold Ta
   rw [HL underlying82 rfl]
   simp (disch:=try exact DI) only [↓PR,QR,simprocAttr,(Za o3).1,(Za o3).2,(Za o4).1,(Za o4).2]
   exact h
section
variable {w0:Wd}
abbrev Dn (p3 p4:Nat):List (Option TypeId×Vl):=[(some 34,.pointer (some ⟨p3,0,none⟩)),(some 4,.pointer (some ⟨p4,0,none⟩))]
def zV (w0:Wd) (o:Option (Int×Int×Int)) (r:Vl) (w':Wd):Prop:=r=CR o∧Ext w0 w'
theorem Sl {w:Wd} {o:Option (Int×Int×Int)} {p3 p4:Nat} {a f c:Int} {x0 x1 x2 y:Vl} (e:Ext w0 w) (h3:w0.heap.size≤p3) (h4:w0.heap.size≤p4) (o3:w.heap[p3]?=some (.cells #[x0,x1,x2] 34 (0,0))) (o4:w.heap[p4]?=some (.cells #[y] 4 (0,0)))
 (h:o=some (a,f,c)):Zy Pg [QW p3 p4] (Dn p3 p4) (ZJ (zV w0 o)) [WT a f c] w:=by
 have YW:p3≠p4:=by rintro rfl;rw [o3] at o4;cases o4
 unfold Zy
 refine FO o3 o4 ?_
 have q3:=Zw (o:=2) (Zw (o:=1) (Zw (o:=0) o3 (.int .i64 a)) (.int .i64 f)) (.int .i64 c)
 have e1:Ext w0 ((((w.setCell ⟨p3,0,none⟩ (.int .i64 a)).setCell ⟨p3,1,none⟩ (.int .i64 f)).setCell ⟨p3,2,none⟩ (.int .i64 c)).setCell ⟨p4,0,none⟩ (.bool true)):=(((e.setCell h3 _).setCell h3 _).setCell h3 _).setCell h4 _
 have q4:=Zw (o:=0) ((YH.setCell ((w.setCell ⟨p3,0,none⟩ (.int .i64 a)).setCell ⟨p3,1,none⟩ (.int .i64 f)) p3 2 (.int .i64 c) p4 (by omega)).trans ((YH.setCell (w.setCell ⟨p3,0,none⟩ (.int .i64 a)) p3 1 (.int .i64 f) p4 (by omega)).trans ((YH.setCell w p3 0 (.int .i64 a) p4 (by omega)).trans o4))) (.bool true)
 have q3':=(YH.setCell _ p4 0 (.bool true) p3 YW).trans q3
 simp only [List.setIfInBounds_toArray,List.set_cons_zero,List.set_cons_succ] at q3' q4
 generalize ((((w.setCell ⟨p3,0,none⟩ (.int .i64 a)).setCell ⟨p3,1,none⟩ (.int .i64 f)).setCell ⟨p3,2,none⟩ (.int .i64 c)).setCell ⟨p4,0,none⟩ (.bool true))=W at e1 q3' q4 ⊢
 unfold Sw.endM zy XD Dn
 simp only
 simp (disch:=try exact DI) only [↓PR,QR,simprocAttr,(Za q3').1,(Za q4).1]
 exact ⟨by rw [h];rfl,e1⟩
end
def xC (a b:Vl) (ds:LDf) (R:RT) (w:Wd):Prop:=
 opV Pg (Instr.build 34 #[]) (Zy Pg ds [(some 34,a),(some 4,b)] R) w λ c w=>
 opU Pg (storeAt 34 a c) (Zy Pg ds [(some 34,a),(some 4,b)] R) w λ w=>
 opU Pg (storeAt 4 b (.bool false)) (Zy Pg ds [(some 34,a),(some 4,b)] R) w λ w=>
 VH Pg ds [(some 34,a),(some 4,b)] R w
def xD (a b c d e:Vl) (f:WPr) (ds:LDf) (R:RT) (w:Wd):Prop:=
 ZD d e (.bool false) λ g=>
 Zg Pg 33 #[c,g,(.int .i64 11)] (Zy Pg ds [(some 34,a),(some 4,b)] R) w λ h w=>
 f w∧(
 xC a b ds R w)
def jB (e f g h i j c:Vl) (a:WPr) (ds:LDf) (R:RT) (w:Wd):Prop:=
 Zq (λ (b:Vl) (w:Wd)=>
 xD g h i c b a ds R w) λ d=>
 Zp c true (
 qV Pg a (fieldAt 24 e 1) λ k=>
 qV Pg a (loadAt 22 k) λ l=>
 qV Pg a (indexAt 22 l j) λ m=>
 qV Pg a (fieldAt 60 m 1) λ n=>
 qV Pg a (loadAt 9 n) λ o=>
 qV Pg a (fieldAt 27 f 2) λ p=>
 qV Pg a (loadAt 9 p) λ q=>
 qV Pg a (Zh .eql 9 false o q) λ b=>
 d b w) (
 d undef w)
def jC (d e a b f c:Vl) (ds:LDf) (R:RT) (w:Wd):Prop:=
 opV Pg (Instr.extract c 0) (Zy Pg ds [(some 34,a),(some 4,b)] R) w λ g w=>
 opV Pg (Instr.extract c 1) (Zy Pg ds [(some 34,a),(some 4,b)] R) w λ h w=>
 Ye w λ i w=>
 jB d e a b f g h i ds R w
def xE (c e f a b d:Vl) (ds:LDf) (R:RT) (w:Wd):Prop:=
 opN Pg (YL d) (Zy Pg ds [(some 34,a),(some 4,b)] R) w λ g w=>
 opV Pg (fieldAt 81 g 3) (Zy Pg ds [(some 34,a),(some 4,b)] R) w λ h w=>
 opU Pg (storeAt 3 h (.int .i64 (-1))) (Zy Pg ds [(some 34,a),(some 4,b)] R) w λ w=>
 opV Pg (loadAt 24 c) (Zy Pg ds [(some 34,a),(some 4,b)] R) w λ i w=>
 opV Pg (fieldAt 27 e 2) (Zy Pg ds [(some 34,a),(some 4,b)] R) w λ j w=>
 opV Pg (loadAt 9 j) (Zy Pg ds [(some 34,a),(some 4,b)] R) w λ k w=>
 Zg Pg 20 #[i,k] (Zy Pg ds [(some 34,a),(some 4,b)] R) w λ l w=>
 jC c f a b d l ds R w
def jD (a b d f c:Vl) (Vo:KV) (ds:LDf) (R:RT) (w:Wd):Prop:=
 opV Pg (indexAt 22 f c) (Zy Pg ds [(some 34,a),(some 4,b)] R) w λ g w=>
 opV Pg (loadAt 60 g) (Zy Pg ds [(some 34,a),(some 4,b)] R) w λ h w=>
 opV Pg (Instr.alloc 60 true (.tuple #[])) (Zy Pg ds [(some 34,a),(some 4,b)] R) w λ e w=>
 opU Pg (storeAt 60 e h) (Zy Pg ds [(some 34,a),(some 4,b)] R) w λ w=>
 opN Pg (YL d) (Zy Pg ds [(some 34,a),(some 4,b)] R) w λ i w=>
 opV Pg (fieldAt 81 i 3) (Zy Pg ds [(some 34,a),(some 4,b)] R) w λ j w=>
 opU Pg (storeAt 3 j c) (Zy Pg ds [(some 34,a),(some 4,b)] R) w λ w=>
 opV Pg (loadAt 60 e) (Zy Pg ds [(some 34,a),(some 4,b)] R) w λ k w=>
 Zg Pg 36 #[d,k] (Zy Pg ds [(some 34,a),(some 4,b)] R) w λ m w=>
 opV Pg (Zh .add 3 true c (.int .i64 1)) (Zy Pg ds [(some 34,a),(some 4,b)] R) w λ l w=>
 Vo l w
def jE (e f g a b c h i d:Vl) (Vo:KV) (ds:LDf) (R:RT) (w:Wd):Prop:=
 opV Pg (Zh .lss 3 false d i) (Zy Pg ds [(some 34,a),(some 4,b)] R) w λ j w=>
 Zu j (
 jD a b c h d Vo ds R w) (
 xE e f g a b c ds R w)
def ze (c e f a b g:Vl) (ds:LDf) (R:RT) (w:Wd):Prop:=
 opV Pg (fieldAt 24 c 1) (Zy Pg ds [(some 34,a),(some 4,b)] R) w λ h w=>
 opV Pg (loadAt 22 h) (Zy Pg ds [(some 34,a),(some 4,b)] R) w λ d w=>
 opV Pg (Builtin.len_ #[22] 3 #[d]) (Zy Pg ds [(some 34,a),(some 4,b)] R) w λ i w=>
 Xd (λ j w Vo=>
 jE c e f a b g d i j Vo ds R w) (.int .i64 0) w
def BF (d e f a b c g h:Vl) (ds:LDf) (R:RT) (w:Wd):Prop:=
 ZD g h (.bool false) λ i=>
 Zg Pg 33 #[c,i,(.int .i64 2)] (Zy Pg ds [(some 34,a),(some 4,b)] R) w λ j w=>
 ze d e f a b c ds R w
def Gt (c g h a b i:Vl) (ds:LDf) (R:RT) (w:Wd):Prop:=
 opV Pg (fieldAt 24 c 1) (Zy Pg ds [(some 34,a),(some 4,b)] R) w λ j w=>
 opV Pg (loadAt 22 j) (Zy Pg ds [(some 34,a),(some 4,b)] R) w λ k w=>
 opV Pg (Builtin.len_ #[22] 3 #[k]) (Zy Pg ds [(some 34,a),(some 4,b)] R) w λ l w=>
 opV Pg (Zh .geq 3 true l (.int .i64 1)) (Zy Pg ds [(some 34,a),(some 4,b)] R) w λ e w=>
 Zq (λ (d:Vl) (w:Wd)=>
 BF c g h a b i e d ds R w) λ f=>
 Zp e true (
 opV Pg (fieldAt 24 c 1) (Zy Pg ds [(some 34,a),(some 4,b)] R) w λ m w=>
 opV Pg (loadAt 22 m) (Zy Pg ds [(some 34,a),(some 4,b)] R) w λ n w=>
 opV Pg (Builtin.len_ #[22] 3 #[n]) (Zy Pg ds [(some 34,a),(some 4,b)] R) w λ o w=>
 opV Pg (Zh .leq 3 true o (.int .i64 60)) (Zy Pg ds [(some 34,a),(some 4,b)] R) w λ d w=>
 f d w) (
 f undef w)
def KF (c e f a b d:Vl) (ds:LDf) (R:RT) (w:Wd):Prop:=
 opV Pg (fieldAt 24 c 0) (Zy Pg ds [(some 34,a),(some 4,b)] R) w λ g w=>
 opV Pg (loadAt 9 g) (Zy Pg ds [(some 34,a),(some 4,b)] R) w λ h w=>
 Zg Pg 35 #[h] (Zy Pg ds [(some 34,a),(some 4,b)] R) w λ i w=>
 Zg Pg 33 #[d,i,(.int .i64 1)] (Zy Pg ds [(some 34,a),(some 4,b)] R) w λ j w=>
 Gt c e f a b d ds R w
def yI (d e f a b c g h:Vl) (ds:LDf) (R:RT) (w:Wd):Prop:=
 ZD g h (.bool false) λ i=>
 Zg Pg 33 #[c,i,(.int .i64 0)] (Zy Pg ds [(some 34,a),(some 4,b)] R) w λ j w=>
 KF d e f a b c ds R w
def KG (g h d a b i e:Vl) (ds:LDf) (R:RT) (w:Wd):Prop:=
 Zq (λ (c:Vl) (w:Wd)=>
 yI g h d a b i e c ds R w) λ f=>
 Zp e true (
 opV Pg (loadAt 27 d) (Zy Pg ds [(some 34,a),(some 4,b)] R) w λ j w=>
 Zg Pg 34 #[j] (Zy Pg ds [(some 34,a),(some 4,b)] R) w λ c w=>
 f c w) (
 f undef w)
def n14 (f g h:Vl) (R:RT) (w:Wd):Prop:=
 (λ (ds:LDf)=>
 opV Pg (Instr.box 24 f) (Zy Pg ds [(some 34,undef),(some 4,undef)] R) w λ d w=>
 opV Pg (Instr.box 27 g) (Zy Pg ds [(some 34,undef),(some 4,undef)] R) w λ c w=>
 opV Pg (Instr.box 27 h) (Zy Pg ds [(some 34,undef),(some 4,undef)] R) w λ e w=>
 opV Pg (Instr.alloc 34 true (.tuple #[])) (Zy Pg ds [(some 34,undef),(some 4,undef)] R) w λ a w=>
 opV Pg (Instr.alloc 4 true (.tuple #[])) (Zy Pg ds [(some 34,a),(some 4,undef)] R) w λ b w=>
 opV Pg (loadAt 24 d) (Zy Pg ds [(some 34,a),(some 4,b)] R) w λ i w=>
 opV Pg (loadAt 27 c) (Zy Pg ds [(some 34,a),(some 4,b)] R) w λ j w=>
 opV Pg (loadAt 27 e) (Zy Pg ds [(some 34,a),(some 4,b)] R) w λ k w=>
 opV Pg (Instr.build 81 #[(0,i),(1,j),(2,k),(3,(.int .i64 (-1))),(4,(.int .i64 (-1)))]) (Zy Pg ds [(some 34,a),(some 4,b)] R) w λ l w=>
 opV Pg (Instr.box 81 l) (Zy Pg ds [(some 34,a),(some 4,b)] R) w λ m w=>
 opV Pg (makeFunc (.func 32) #[] #[a,b]) (Zy Pg ds [(some 34,a),(some 4,b)] R) w λ n w=>
 Zbk Pg n #[] ds w λ ds w=>
 opV Pg (loadAt 27 c) (Zy Pg ds [(some 34,a),(some 4,b)] R) w λ o w=>
 Zg Pg 34 #[o] (Zy Pg ds [(some 34,a),(some 4,b)] R) w λ p w=>
 KG d c e a b m p ds R w) []
set_option maxHeartbeats 40000000 in
theorem ZgJ {t0 t1 t2:Vl} {R:RT} {w:Wd} (h:n14 t0 t1 t2 R w):Calls Pg 14 #[t0,t1,t2] w R:=by
 refine yE func14 ?_
 unfold n14 at h
 dsimp only at h
 refine zs<|zr<|yv h λ _ w h=>yv h λ _ w h=>yv h λ _ w h=>yv h λ _ w h=>yv h λ _ w h=>zn<|zk<|zs<|zr<|yv h λ _ w h=>yv h λ _ w h=>yv h λ _ w h=>yB h λ _ w h=>?_
 refine yv h λ _ w h=>zm<|zn<|zk<|zs<|zr<|yF h λ _ w h=>?_
 refine Ca h rfl rfl ?_;intro ds w h
 refine zn<|zk<|zs<|Zr<|yG 4<|zm<|yv h λ _ w h=>yc h c34 λ _ w h=>zm<|zn<|yg1 2 3 true [23,24] 24 h (λ _ T hT h=>?_) λ σ w h=>?_
 · refine yv h λ _ w h=>yc h c34 λ _ w h=>zn ?_
   exact zt hT h
 refine yG 2<|yp h λ _ h=>yc h c33 λ _ w h=>zn<|ZK<|zk<|zs<|zr<|zm<|yv h λ _ w h=>yv h λ _ w h=>yc h c35 λ _ w h=>yc h c33 λ _ w h=>zn<|zk ?_
 refine zs<|Zr<|yG 6<|zm<|yv h λ _ w h=>yv h λ _ w h=>yx h λ _ w h=>yb h λ _ w h=>zm<|zn<|yg1 4 5 true [38,39,40,41] 41 h (λ _ T hT h=>?_) λ σ w h=>?_
 · refine yv h λ _ w h=>yv h λ _ w h=>yx h λ _ w h=>yb h λ _ w h=>zn ?_
   exact zt hT h
 refine yG 2<|yp h λ _ h=>yc h c33 λ _ w h=>zn<|ZK<|zk<|zs<|zs<|zr<|yv h λ _ w h=>yv h λ _ w h=>yx h λ _ w h=>zm<|zn<|zk ?_
 refine Zn<|yl1 [9,10,47,48,49,50,51,52,53,54,55,56,57,58,59] 47 h λ σ w next h=>zs<|zr<|yb h λ _ w h=>zn<|zk<|zs<|yC h (λ h=>?_) λ h=>?_
 · refine Zo<|zk<|zs<|Zn<|zs<|zr<|zm<|yv h λ _ w h=>yv h λ _ w h=>yv h λ _ w h=>zm<|yu h λ w h=>zn<|zk<|zs ?_
   refine zr<|zm<|zm<|yN h λ _ w h=>yv h λ _ w h=>yu h λ w h=>zn<|zk<|zr<|zm<|yv h λ _ w h=>yc h c36 λ _ w h=>zn<|Zf<|zk ?_
   exact zr<|yb h λ _ w h=>zm<|zn<|zk<|⟨rfl,h⟩
 refine ZR<|Ze<|Ze<|Zx<|zk<|zs<|zr<|zm<|yN h λ _ w h=>yv h λ _ w h=>yu h λ w h=>zn<|zk<|zs<|zr ?_
 refine yv h λ _ w h=>yv h λ _ w h=>yv h λ _ w h=>yc h c20 λ _ w h=>zm<|yv h λ _ w h=>yv h λ _ w h=>zm<|zm<|zn<|zk<|zs<|yh [70,71,72,73,74,75,76,77,78,79,80,81,82,83] h λ C hC h=>yw 0 hC ?_
 refine yw 1 hC ?_
 refine yw 2 hC ?_
 refine yj1 2 [11,10,9,8,7,6,5,4,3,2,1,0] [73,74,75,76,77,78,79,80,81] 81 h (λ _ hT hb h=>?_) (λ _ hT hb h=>?_) λ σ w hC h=>?_
 · refine ye 3 hC h λ _ h=>?_
   refine ye 4 hC h λ _ h=>?_
   refine yw 5 hC ?_
   refine ye 6 hC h λ _ h=>?_
   refine ye 7 hC h λ _ h=>?_
   refine ye 8 hC h λ _ h=>?_
   refine ye 9 hC h λ _ h=>?_
   refine ye 10 hC h λ _ h=>?_
   refine ye 11 hC h λ _ h=>?_
   exact yt hT hC h
 · refine yi 3 hC ?_
   refine yi 4 hC ?_
   refine yi 5 hC ?_
   refine yi 6 hC ?_
   refine yi 7 hC ?_
   refine yi 8 hC ?_
   refine yi 9 hC ?_
   refine yi 10 hC ?_
   refine yi 11 hC ?_
   exact yt hT hC h
 refine yP 12 hC h λ _ h=>?_
 refine yo 13 ?_
 refine yc h c33 λ _ w h=>zn ?_
 obtain ⟨hC,h⟩:=h
 refine ⟨hC,?_⟩
 exact yz<|zk<|zs<|zr<|yB h λ _ w h=>yu h λ w h=>yu h λ w h=>zn<|zk<|Zi<|XN rfl h
theorem AP {d:Qk} (h:(!X1 d)=true):∀ x∈d.msgs,∀ f∈x.fields,(Yx f).length≤1048576:=by
 intro x hx f hf
 have h0:(Qf d).2.2=0:=by
  unfold X1 at h
  simpa using h
 obtain ⟨_,_,h3,_⟩:=FR h0
 obtain ⟨k,hk⟩:=List.getElem?_of_mem hx
 obtain ⟨_,_,h40,h4,_⟩:=HH (h3.next hk)
 have h1:=y8 _ _ _ _ h4
 have h2:(Yx f).length≤(YR x.fields).length:=by
  unfold YR
  obtain ⟨l1,l2,hl⟩:=List.append_of_mem hf
  rw [hl,List.flatMap_append,List.flatMap_cons,List.length_append,List.length_append]
  omega
 omega
theorem NN {w0 w:Wd} {o:Option (Int×Int×Int)} {p3 p4:Nat} (e:Ext w0 w) (o3:w.heap[p3]?=some (.cells #[.int .i64 0,.int .i64 0,.int .i64 0] 34 (0,0))) (o4:w.heap[p4]?=some (.cells #[.bool false] 4 (0,0)))
 (h:o=none):VH Pg [QW p3 p4] (Dn p3 p4) (ZJ (zV w0 o)) w:=by
 unfold VH
 refine FQ ?_
 unfold Sw.endM zy XD Dn
 simp only
 simp (disch:=try exact DI) only [↓PR,QR,simprocAttr,(Za o3).1,(Za o4).1]
 exact ⟨by rw [h];rfl,e⟩
section
variable {w0 A0 w:Wd} {cb p1 p2 p5 p3 p4:Nat} {m:YG} {d e:Qk} {ru:Int} {rv dv ev:Vl} {O:Option (Int×Int×Int)}
structure qD (w0 A0:Wd) (p1 p2 p5 p3 p4:Nat) (m:YG) (d e:Qk) (rv dv ev:Vl):Prop where
 ea:Ext w0 A0
 o1:A0.heap[p1]?=some (.cells (Yb m rv).toArray 24 (0,0))
 o2:A0.heap[p2]?=some (.cells (Xk d dv).toArray 27 (0,0))
 o5:A0.heap[p5]?=some (.cells (Xk e ev).toArray 27 (0,0))
 o3:A0.heap[p3]?=some (.cells #[.int .i64 0,.int .i64 0,.int .i64 0] 34 (0,0))
 o4:A0.heap[p4]?=some (.cells #[.bool false] 4 (0,0))
 l3:w0.heap.size≤p3
 l4:w0.heap.size≤p4
 hR:Kg A0 rv m.rules
theorem qD.pan (h:qD w0 A0 p1 p2 p5 p3 p4 m d e rv dv ev) {w':Wd} {a f c:Int} (x:Ext A0 w') (ho:O=some (a,f,c)):Zy Pg [QW p3 p4] (Dn p3 p4) (ZJ (zV w0 O)) [WT a f c] w':=Sl (h.ea.trans x) h.l3 h.l4 (x.obj h.o3) (x.obj h.o4) ho
theorem SR (h:qD w0 A0 p1 p2 p5 p3 p4 m d e rv dv ev) (hC:CkM A0 w cb m d e ru (-1)) (hO:(if GM m d e=true then none else some (-1,-1,11))=O) :
 xE (.pointer (some ⟨p1,0,none⟩)) (.pointer (some ⟨p2,0,none⟩)) (.pointer (some ⟨p5,0,none⟩)) (.pointer (some ⟨p3,0,none⟩)) (.pointer (some ⟨p4,0,none⟩)) (.pointer (some ⟨cb,0,none⟩)) [QW p3 p4] (ZJ (zV w0 O)) w:=by
 obtain ⟨rv',dv',ev',q,_⟩:=hC.obj
 have t1:=Zd.oneCell h.hR
 unfold xE
 simp (disch:=try exact DI) only [↓PR,QR,simprocAttr,(Za q).1,(Za q).2,(Za (hC.ext.obj h.o1)).1,(Za (hC.ext.obj h.o2)).1]
 have hC2:=hC.setRule (-1)
 generalize (w.setCell ⟨cb,8,none⟩ (.int .i64 (-1)))=X at hC2 ⊢
 refine zcr (GV X _ m d.start ⟨_,rfl,h.hR.ext hC2.ext⟩) λ w1 e1=>?_
 have hC3:=hC2.go e1
 unfold jC
 simp (disch:=try exact DI) only [↓PR,QR,simprocAttr]
 refine ZG ?_
 have eD:Ext w1 (Sw.drew w1):=(Ext.refl w1).drew
 have hC4:=hC3.go eD
 generalize (Sw.drew w1)=D at hC4 ⊢
 have fin:∀ b,b=GM m d e→Zg Pg 33 #[.pointer (some ⟨cb,0,none⟩),.bool b,.int .i64 11] (Zy Pg [QW p3 p4] (Dn p3 p4) (ZJ (zV w0 O))) D λ _ w=>EC D w∧xC (.pointer (some ⟨p3,0,none⟩)) (.pointer (some ⟨p4,0,none⟩)) [QW p3 p4] (ZJ (zV w0 O)) w:=by
  rintro b rfl
  refine YB (Xo hC4 _ 11) (λ w5 e5 hb=>?_) (λ w5 e5 hb=>?_)
  · refine ⟨e5,?_⟩
    rw [if_pos hb] at hO
    have E5:=hC4.ext.trans e5
    have q3:=E5.obj h.o3
    have q4:=E5.obj h.o4
    have YW:p3≠p4:=by rintro rfl;rw [q3] at q4;cases q4
    have lA3:w0.heap.size≤p3:=h.l3
    have lA4:w0.heap.size≤p4:=h.l4
    unfold xC
    simp (disch:=try exact DI) only [↓PR,QR,simprocAttr,(Za q3).1,(Za q3).2,(Za q4).1,(Za q4).2]
    have z3:=Zw (o:=2) (Zw (o:=1) (Zw (o:=0) q3 (.int .i64 0)) (.int .i64 0)) (.int .i64 0)
    have eZ:Ext w0 ((((w5.setCell ⟨p3,0,none⟩ (.int .i64 0)).setCell ⟨p3,1,none⟩ (.int .i64 0)).setCell ⟨p3,2,none⟩ (.int .i64 0)).setCell ⟨p4,0,none⟩ (.bool false)):=((((h.ea.trans E5).setCell lA3 _).setCell lA3 _).setCell lA3 _).setCell lA4 _
    have z4:=Zw (o:=0) ((YH.setCell ((w5.setCell ⟨p3,0,none⟩ (.int .i64 0)).setCell ⟨p3,1,none⟩ (.int .i64 0)) p3 2 (.int .i64 0) p4 (by omega)).trans ((YH.setCell (w5.setCell ⟨p3,0,none⟩ (.int .i64 0)) p3 1 (.int .i64 0) p4 (by omega)).trans ((YH.setCell w5 p3 0 (.int .i64 0) p4 (by omega)).trans q4))) (.bool false)
    have z3':=(YH.setCell _ p4 0 (.bool false) p3 YW).trans z3
    simp only [List.setIfInBounds_toArray,List.set_cons_zero,List.set_cons_succ] at z3' z4
    exact NN eZ z3' z4 hO.symm
  · rw [if_neg (by rw [hb];simp)] at hO
    exact h.pan (hC4.ext.trans e5) hO.symm
 unfold jB
 rcases H7 (λ r:MrD=>decide (r.fr=d.start)) m.rules with ⟨h1,h2,_,_,_⟩ | ⟨i,x,hxi,h1,h2,_,_,_⟩
 · have hp:VA m d.start=none:=h2
   have hs:GM m d e=false:=by unfold GM;rw [h1]
   rw [hp,Option.getD_none,show (none:Option Nat).isSome=false from rfl]
   simp (disch:=try exact DI) only [↓PR,QR,simprocAttr]
   unfold xD
   simp (disch:=try exact DI) only [↓PR,QR,simprocAttr]
   exact fin false hs.symm
 · have hp:VA m d.start=some i:=h2
   have hs:GM m d e=decide (x.to=e.start):=by unfold GM;rw [h1]
   rw [hp,Option.getD_some,show (some i).isSome=true from rfl]
   obtain ⟨br,or',cr,rfl,_,_,_,hil,helr⟩:=EU h.hR hxi
   obtain ⟨csr,_,hAr,hEr⟩:=helr i x hxi
   obtain ⟨fv,rfl,hFr⟩:=hEr
   simp (disch:=try exact DI) only [↓PR,QR,simprocAttr,(Za (hC4.ext.obj h.o1)).1,(Za (hC4.ext.obj h.o5)).1,hAr.c3 hC4.ext]
   unfold xD
   simp (disch:=try exact DI) only [↓PR,QR,simprocAttr]
   exact fin _ hs.symm
theorem SM (h:qD w0 A0 p1 p2 p5 p3 p4 m d e rv dv ev) (hC:CkM A0 w cb m d e ru (-1)) (hin:∀ r∈m.rules,∀ x∈r.fields,inF x=true) (bd:∀ x∈d.msgs,∀ f∈x.fields,(Yx f).length≤1048576) (be:∀ x∈e.msgs,∀ f∈x.fields,(Yx f).length≤1048576)
 (hO:FY m d e (GJ m d e 0 m.rules)=O) :
 ze (.pointer (some ⟨p1,0,none⟩)) (.pointer (some ⟨p2,0,none⟩)) (.pointer (some ⟨p5,0,none⟩)) (.pointer (some ⟨p3,0,none⟩)) (.pointer (some ⟨p4,0,none⟩)) (.pointer (some ⟨cb,0,none⟩)) [QW p3 p4] (ZJ (zV w0 O)) w:=by
 obtain ⟨A,c,rfl,hlc,hcm,hlm,YV⟩:=Zd.open h.hR
 unfold ze
 simp (disch:=try exact DI) only [↓PR,QR,simprocAttr,(Za (hC.ext.obj h.o1)).1]
 refine ZQ (λ i w'=>∃ (k:Nat) (r:Int),i = .int .i64 k∧k≤m.rules.length∧CkM A0 w' cb m d e r (-1)∧GJ m d e 0 m.rules=GJ m d e k (m.rules.drop k)) (λ i _=>m.rules.length - (intOf i).toNat) ⟨0,_,rfl,by omega,hC,rfl⟩ ?_
 rintro _ w1 ⟨k,r0,rfl,hk,hC1,hR⟩
 unfold jE
 rcases ZY hk with ⟨x,hx,hdr,Yq,Z5⟩ | ⟨hk,hdr,Z5⟩
 · obtain ⟨bt,ot,cst,rfl,_,hAt,hE⟩:=YV k x hx
   obtain ⟨fv,rfl,hF,o1⟩:=hE.op
   obtain ⟨rv',dv',ev',q,_⟩:=hC1.obj
   rw [hdr,GJ] at hR
   simp (disch:=try exact DI) only [↓PR,QR,simprocAttr,Z5]
   unfold jD
   have lcb:=(Array.getElem?_eq_some_iff.1 q).1
   have qV:=Za q
   simp (disch:=try exact DI) only [↓PR,QR,simprocAttr,hAt.c3 hC1.ext,qV.1,qV.2]
   have hC2:=(hC1.setRule (k:Int)).go ((Ext.refl _).alloc (.cells #[.string x.fr,.string x.to,fv] 60))
   refine VK (Hc hC2 k rfl _ x ⟨_,rfl,hF⟩ hx (hin x (List.mem_of_getElem? hx)) bd be) (λ v w5 hq=>?_) (λ ch w5 hq=>?_) (λ w5 hq=>?_)
   · rcases hq with ⟨E5,⟨h0,hv,hC5⟩ | ⟨_,hv⟩⟩
     · rw [if_neg (by rw [h0];simp)] at hR
       simp (disch:=try exact DI) only [↓PR,QR,simprocAttr]
       exact ⟨⟨k+1,_,rfl,Yq,hC5,hR⟩,Yf (kd := .i64) Yq⟩
     · cases hv
   · rcases hq with ⟨E5,⟨_,hv,_⟩ | ⟨h0,hv⟩⟩
     · cases hv
     · injection hv with hv
       subst hv
       rw [if_pos h0] at hR
       refine h.pan E5 ?_
       rw [← hO,hR]
       unfold FY
       rw [if_pos h0]
   · rcases hq with ⟨_,⟨_,hv,_⟩ | ⟨_,hv⟩⟩<;>cases hv
 · subst hk
   rw [hdr,GJ] at hR
   simp (disch:=try exact DI) only [↓PR,QR,simprocAttr,Z5]
   refine SR h hC1 ?_
   rw [← hO,hR]
   rfl
end
theorem X3 (w0:Wd) (v1 v2 v3:Vl) (m:YG) (d e:Qk) (hm:Y3 w0 v1 m) (hd:XU w0 v2 d) (he:XU w0 v3 e) (hin:∀ r∈m.rules,∀ x∈r.fields,inF x=true):Ret Pg 14 #[v1,v2,v3] w0 (zV w0 (JS m d e)):=by
 obtain ⟨rv,rfl,hR⟩:=hm
 obtain ⟨dv,rfl,hD⟩:=hd
 obtain ⟨ev,rfl,hE⟩:=he
 have t1:=Zd.oneCell hR
 have t2:=Zd.oneCell hD
 have t3:=Zd.oneCell hE
 refine ZgJ (R:=ZJ _) ?_;unfold n14
 simp (disch:=try exact DI) only [↓PR,QR,simprocAttr]
 refine ⟨QW (w0.heap.size+1+1+1) (w0.heap.size+1+1+1+1),_,rfl,?_⟩
 simp only [World.size_alloc]
 generalize hA0:((((w0.alloc (Obj.cells (Yb m rv).toArray 24)).alloc (Obj.cells (Xk d dv).toArray 27)).alloc (Obj.cells (Xk e ev).toArray 27)).alloc (Obj.cells #[.int .i64 0,.int .i64 0,.int .i64 0] 34)).alloc (Obj.cells #[.bool false] 4)=A0
 have ea:Ext w0 A0:=by rw [← hA0];exact ee
 have o1:A0.heap[w0.heap.size]?=some (.cells (Yb m rv).toArray 24 (0,0)):=by rw [← hA0];simp (disch:=try exact DI) only [↓PR,QR,simprocAttr]
 have o2:A0.heap[w0.heap.size+1]?=some (.cells (Xk d dv).toArray 27 (0,0)):=by rw [← hA0];simp (disch:=try exact DI) only [↓PR,QR,simprocAttr]
 have o5:A0.heap[w0.heap.size+1+1]?=some (.cells (Xk e ev).toArray 27 (0,0)):=by rw [← hA0];simp (disch:=try exact DI) only [↓PR,QR,simprocAttr]
 have o3:A0.heap[w0.heap.size+1+1+1]?=some (.cells #[.int .i64 0,.int .i64 0,.int .i64 0] 34 (0,0)):=by rw [← hA0];simp (disch:=try exact DI) only [↓PR,QR,simprocAttr]
 have o4:A0.heap[w0.heap.size+1+1+1+1]?=some (.cells #[.bool false] 4 (0,0)):=by rw [← hA0];simp (disch:=try exact DI) only [↓PR,QR,simprocAttr]
 have JA:A0.heap.size=w0.heap.size+1+1+1+1+1:=by rw [← hA0];simp only [World.size_alloc]
 clear hA0
 have hC:CkM A0 (A0.alloc (Obj.cells #[.string m.name,rv,.string d.name,dv,.string d.start,.string e.name,ev,.string e.start,.int .i64 (-1),.int .i64 (-1)] 81)) A0.heap.size m d e (-1) (-1):=⟨(Ext.refl _).alloc _,Nat.le_refl _,rv,dv,ev,Zz _ _ _,hR.ext ea,hD.ext ea,hE.ext ea⟩
 generalize (A0.alloc (Obj.cells #[.string m.name,rv,.string d.name,dv,.string d.start,.string e.name,ev,.string e.start,.int .i64 (-1),.int .i64 (-1)] 81))=W at hC ⊢
 generalize hcb:w0.heap.size+1+1+1+1+1=cb at JA ⊢
 rw [JA] at hC
 generalize hp4:w0.heap.size+1+1+1+1=p4 at o4 hcb ⊢
 generalize hp3:w0.heap.size+1+1+1=p3 at o3 hp4 ⊢
 generalize hp5:w0.heap.size+1+1=p5 at o5 hp3 ⊢
 generalize hp2:w0.heap.size+1=p2 at o2 hp5 ⊢
 generalize hp1:w0.heap.size=p1 at o1 hp2 ⊢
 simp (disch:=try exact DI) only [↓PR,QR,simprocAttr,(Za (hC.ext.obj o2)).1]
 have l3:w0.heap.size≤p3:=by omega
 have l4:w0.heap.size≤p4:=by omega
 generalize hO:JS m d e=O
 have hEnv:qD w0 A0 p1 p2 p5 p3 p4 m d e rv dv ev:=⟨ea,o1,o2,o5,o3,o4,l3,l4,hR.ext ea⟩
 have pan:∀ w' a f c,Ext A0 w'→O=some (a,f,c)→Zy Pg [QW p3 p4] (Dn p3 p4) (ZJ (zV w0 O)) [WT a f c] w':=λ w' a f c x h=>hEnv.pan x h
 unfold JS at hO
 refine zcr (Bo _ d ⟨_,rfl,hD.ext (ea.trans hC.ext)⟩) λ w1 e1=>?_
 have hC1:=hC.go e1
 have rest:∀ (w2:Wd) (bb:Bool),CkM A0 w2 cb m d e (-1) (-1)→bb=(!X1 d&&!X1 e)→Zg Pg 33 #[.pointer (some ⟨cb,0,none⟩),.bool bb,.int .i64 0] (Zy Pg [QW p3 p4] (Dn p3 p4) (ZJ (zV w0 O))) w2 λ _ w3=>KF (.pointer (some ⟨p1,0,none⟩)) (.pointer (some ⟨p2,0,none⟩)) (.pointer (some ⟨p5,0,none⟩)) (.pointer (some ⟨p3,0,none⟩)) (.pointer (some ⟨p4,0,none⟩)) (.pointer (some ⟨cb,0,none⟩)) [QW p3 p4] (ZJ (zV w0 O)) w3:=by
  rintro w2 bb hC2 hbb
  refine YB (Xo hC2 _ 0) (λ w3 e3 hb=>?_) (λ w3 e3 hb=>?_)
  case refine_2=>
   rw [← hbb,if_pos hb] at hO
   exact pan _ _ _ _ (hC2.ext.trans e3) hO.symm
  have hvv:(!X1 d&&!X1 e)=true:=hbb.symm.trans hb
  rw [hvv,if_neg (by simp)] at hO
  have hvd:(!X1 d)=true:=by cases h:(!X1 d)<;>simp_all
  have hve:(!X1 e)=true:=by cases h:(!X1 e)<;>simp_all
  have hC3:=hC2.go e3
  have x3:=Za (hC3.ext.obj o1)
  unfold KF
  simp (disch:=try exact DI) only [↓PR,QR,simprocAttr,x3.1]
  refine zcr (Ud _ m.name) λ w4 e4=>?_
  have hC4:=hC3.go e4
  refine YB (Xo hC4 _ 1) (λ w5 e5 hb=>?_) (λ w5 e5 hb=>?_)
  case refine_2=>
   rw [if_pos hb] at hO
   exact pan _ _ _ _ (hC4.ext.trans e5) hO.symm
  rw [hb,if_neg (by simp)] at hO
  have hC5:=hC4.go e5
  have x5:=Za (hC5.ext.obj o1)
  obtain ⟨A,c,hrv,hlc,hcm,hlm,YV⟩:=Zd.open hR
  rw [hrv] at x5
  have last:∀ b,b=decide (1≤m.rules.length∧m.rules.length≤60)→Zg Pg 33 #[.pointer (some ⟨cb,0,none⟩),.bool b,.int .i64 2] (Zy Pg [QW p3 p4] (Dn p3 p4) (ZJ (zV w0 O))) w5 λ _ w=>ze (.pointer (some ⟨p1,0,none⟩)) (.pointer (some ⟨p2,0,none⟩)) (.pointer (some ⟨p5,0,none⟩)) (.pointer (some ⟨p3,0,none⟩)) (.pointer (some ⟨p4,0,none⟩)) (.pointer (some ⟨cb,0,none⟩)) [QW p3 p4] (ZJ (zV w0 O)) w:=by
   rintro b rfl
   refine YB (Xo hC5 _ 2) (λ w6 e6 hb=>?_) (λ w6 e6 hb=>?_)
   · rw [if_neg (by simpa using hb)] at hO
     exact SM hEnv (hC5.go e6) hin (AP hvd) (AP hve) hO
   · rw [if_pos (by simpa using hb)] at hO
     exact pan _ _ _ _ (hC5.ext.trans e6) hO.symm
  unfold Gt
  by_cases h1:1≤m.rules.length
  · have d1:decide ((m.rules.length:Int)≥1)=true:=by simp;omega
    by_cases h2:m.rules.length≤60
    · have d2:decide ((m.rules.length:Int)≤60)=true:=by simp;omega
      simp (disch:=try exact DI) only [↓PR,QR,simprocAttr,x5.1,d1,d2,↓xC,↓xD,↓jB,↓jC,↓xE,↓jD,↓jE,↓ze,↓BF,↓Gt,↓KF,↓yI,↓KG]
      exact last _ (by simp [h1,h2])
    · have d2:decide ((m.rules.length:Int)≤60)=false:=by simp;omega
      simp (disch:=try exact DI) only [↓PR,QR,simprocAttr,x5.1,d1,d2,↓xC,↓xD,↓jB,↓jC,↓xE,↓jD,↓jE,↓ze,↓BF,↓Gt,↓KF,↓yI,↓KG]
      exact last _ (by simp [h2])
  · have d1:decide ((m.rules.length:Int)≥1)=false:=by simp;omega
    simp (disch:=try exact DI) only [↓PR,QR,simprocAttr,x5.1,d1,↓xC,↓xD,↓jB,↓jC,↓xE,↓jD,↓jE,↓ze,↓BF,↓Gt,↓KF,↓yI,↓KG]
    exact last _ (by simp [h1])
 obtain ⟨vb,hv⟩:∃ vb,(!X1 d)=vb:=⟨_,rfl⟩
 rw [hv] at rest ⊢
 cases vb with
 | false=>
  rw [Bool.false_and] at rest
  unfold KG
  rw [joinK_eq]
  simp (disch:=try exact DI) only [↓PR,QR,simprocAttr,↓xC,↓xD,↓jB,↓jC,↓xE,↓jD,↓jE,↓ze,↓BF,↓Gt,↓KF,↓yI,↓KG]
  exact rest w1 _ hC1 rfl
 | true=>
  rw [Bool.true_and] at rest
  unfold KG
  simp (disch:=try exact DI) only [↓PR,QR,simprocAttr,↓xC,↓xD,↓jB,↓jC,↓xE,↓jD,↓jE,↓ze,↓BF,↓Gt,↓KF,↓yI,↓KG,(Za (hC1.ext.obj o5)).1]
  refine zcr (Bo _ e ⟨_,rfl,hE.ext (ea.trans hC1.ext)⟩) λ w2 e2=>?_
  exact rest w2 _ (hC1.go e2) rfl
def Tq (a:Vl) (R:RT) (w:Wd):Prop:=
 opV Pg (Instr.extract a 0) (Zb R) w λ b w=>
 opV Pg (Instr.extract a 1) (Zb R) w λ c w=>
 opV Pg (Instr.alloc 34 true (.tuple #[])) (Zb R) w λ d w=>
 opU Pg (storeAt 34 d b) (Zb R) w λ w=>
 opV Pg (Op.unary .not c) (Zb R) w λ e w=>
 R (.returned e) w
def n24 (a b c:Vl) (R:RT) (w:Wd):Prop:=
 opV Pg (Instr.box 24 a) (Zb R) w λ d w=>
 opV Pg (Instr.box 27 b) (Zb R) w λ e w=>
 opV Pg (Instr.box 27 c) (Zb R) w λ f w=>
 opV Pg (loadAt 24 d) (Zb R) w λ g w=>
 opV Pg (loadAt 27 e) (Zb R) w λ h w=>
 opV Pg (loadAt 27 f) (Zb R) w λ i w=>
 Zg Pg 14 #[g,h,i] (Zb R) w λ j w=>
 Tq j R w
theorem ZgQ {t0 t1 t2:Vl} {R:RT} {w:Wd} (h:n24 t0 t1 t2 R w):Calls Pg 16 #[t0,t1,t2] w R:=by
 refine yD func16 ?_
 refine zs<|zr<|yv h λ _ w h=>yv h λ _ w h=>yv h λ _ w h=>zm<|zn<|zk<|zs<|zr<|yv h λ _ w h=>yv h λ _ w h=>yv h λ _ w h=>yc h c14 λ _ w h=>zm ?_
 refine yv h λ _ w h=>yv h λ _ w h=>yv h λ _ w h=>yu h λ w h=>zm<|zn<|zk<|zs<|zr<|zm<|yv h λ _ w h=>zm<|zn<|zk<|Zi ?_
 exact Zk rfl rfl h
theorem Hb (w0:Wd) (v1 v2 v3:Vl) (m:YG) (d e:Qk) (hm:Y3 w0 v1 m) (hd:XU w0 v2 d) (he:XU w0 v3 e) (hin:∀ r∈m.rules,∀ x∈r.fields,inF x=true):Ret Pg 16 #[v1,v2,v3] w0 λ r w'=>r = .bool (JS m d e).isNone∧Ext w0 w':=by
 obtain ⟨rv,rfl,hR⟩:=hm
 obtain ⟨dv,rfl,hD⟩:=hd
 obtain ⟨ev,rfl,hE⟩:=he
 have t1:=Zd.oneCell hR
 have t2:=Zd.oneCell hD
 have t3:=Zd.oneCell hE
 refine ZgQ (R:=ZJ _) ?_;unfold n24
 simp (disch:=try exact DI) only [↓PR,QR,simprocAttr]
 generalize hA0:(((w0.alloc (Obj.cells (Yb m rv).toArray 24)).alloc (Obj.cells (Xk d dv).toArray 27)).alloc (Obj.cells (Xk e ev).toArray 27))=A0
 have ea:Ext w0 A0:=by rw [← hA0];exact ee
 clear hA0
 refine zcr (X3 A0 _ _ _ m d e ⟨_,rfl,hR.ext ea⟩ ⟨_,rfl,hD.ext ea⟩ ⟨_,rfl,hE.ext ea⟩ hin) λ w1 e1=>?_
 unfold Tq CR
 simp (disch:=try exact DI) only [↓PR,QR,simprocAttr]
 exact ⟨by cases JS m d e<;>rfl,(ea.trans e1).alloc _⟩
def V5 (r:FrD) (n:Int):Option Int:=if r.kind=1 then some n else if r.kind=2 then (if UX r.add=true then some (n+r.add) else none) else if r.kind=3 then some r.value else if r.kind=5 then (r.table.find? λ x=>decide (x.low≤n)&&decide (n≤x.high)).map (·.to) else none
def Cc:Option Int→Option Int
 | some v=>if Qj v=true then some v else none
 | none=>none
def JU (r:FrD) (n:Int):Option Int:=if Qj n=false then none else Cc (V5 r n)
def Aa (o:Option Int):Vl := .tuple #[.int .i64 (o.getD 0),.bool o.isSome]
theorem Ck (w:Wd) (x:Qm) (q:Nat) (n:Int) (hq:w.heap[q]?=some (.cells #[.int .i64 n] 3 (0,0))):Ret Pg 44 #[.agg (Z6 x).toArray,.pointer (some ⟨q,0,none⟩)] w λ r w'=>r = .bool (decide (x.low≤n)&&decide (n≤x.high))∧Ext w w':=by
 have lq:=(Array.getElem?_eq_some_iff.1 hq).1
 have hc:=(Za hq).1
 refine ZgL (R:=ZJ _) ?_;unfold n18
 by_cases h1:x.low≤n
 · have d1:decide (n≥x.low)=true:=by simpa using h1
   by_cases h2:n≤x.high
   · have d2:decide (n≤x.high)=true:=by simpa using h2
     simp (disch:=try exact DI) only [↓PR,QR,simprocAttr,hc,d1,d2]
     exact ⟨by simp [h1],ee⟩
   · have d2:decide (n≤x.high)=false:=by simpa using h2
     simp (disch:=try exact DI) only [↓PR,QR,simprocAttr,hc,d1,d2]
     exact ⟨by simp,ee⟩
 · have d1:decide (n≥x.low)=false:=by simpa using h1
   simp (disch:=try exact DI) only [↓PR,QR,simprocAttr,hc,d1]
   exact ⟨by simp [h1],ee⟩
theorem Mc {n:Int} (h:Qj n=true):0≤n∧n < 34359738368:=by
 unfold Qj at h
 simpa only [Bool.and_eq_true,decide_eq_true_eq] using h
theorem VO (w0:Wd) (v:Vl) (r:FrD) (n:Int) (hr:QH w0 v r) (hin:inF r=true):Ret Pg 18 #[v,.int .i64 n] w0 λ u w'=>u=Aa (JU r n)∧Ext w0 w':=by
 obtain ⟨bv,tv,rfl,hB,hT,b1,b2⟩:=hr.op
 refine ZgK (R:=ZJ _) ?_;unfold n17
 rw [YS]
 have q2:=Zz w0 (ZB r bv tv).toArray 43
 have e2:Ext w0 (w0.alloc (.cells (ZB r bv tv).toArray 43)):=(Ext.refl w0).alloc _
 have s2:(w0.alloc (.cells (ZB r bv tv).toArray 43)).heap.size=w0.heap.size+1:=World.size_alloc ..
 generalize (w0.alloc (.cells (ZB r bv tv).toArray 43))=w2 at q2 e2 s2 ⊢
 generalize hp2:w0.heap.size=p2 at q2 ⊢
 simp (disch:=try exact DI) only [↓PR,QR,simprocAttr]
 have q3:=Zz w2 #[.int .i64 n] 3
 have e3:Ext w2 (w2.alloc (.cells #[.int .i64 n] 3)):=(Ext.refl w2).alloc _
 generalize (w2.alloc (.cells #[.int .i64 n] 3))=w3 at q3 e3 ⊢
 have l3:w0.heap.size≤w2.heap.size:=e2.size
 have n23:p2≠w2.heap.size:=by omega
 generalize w2.heap.size=p3 at q3 l3 n23 ⊢
 replace q2:=e3.obj q2
 have E3:=e2.trans e3
 refine Zl (Qo w3 n) ?_
 rintro _ w' ⟨rfl,hw⟩
 rw [hw]
 clear hw
 have c2:=(Za q2).1
 have c3:=Za q3
 cases hn:Qj n with
 | false=>
  simp (disch:=try exact DI) only [↓PR,QR,simprocAttr]
  exact ⟨by unfold JU;rw [hn];rfl,E3⟩
 | true=>
 have hM:JU r n=Cc (V5 r n):=by unfold JU;rw [hn];rfl
 have rng:=Mc hn
 have none_:V5 r n=none→∀ w',Ext w0 w'→(Value.tuple #[.int .i64 0,.bool false]=Aa (JU r n)∧Ext w0 w'):=λ h w' e=>⟨by rw [hM,h];rfl,e⟩
 have tail:∀ (w1:Wd) (u:Int),Ext w0 w1→w1.heap[p3]?=some (.cells #[.int .i64 u] 3 (0,0))→V5 r n=some u→Zg Pg 42 #[.int .i64 u] (Zb (ZJ λ u w'=>u=Aa (JU r n)∧Ext w0 w')) w1 λ t47 w=>N4 (.pointer (some ⟨p3,0,none⟩)) t47 (ZJ λ u w'=>u=Aa (JU r n)∧Ext w0 w') w:=by
  intro w1 u e1 hq hu
  refine Zl (Qo w1 u) ?_
  rintro _ w' ⟨rfl,hw⟩
  rw [hw]
  unfold N4
  cases hv:Qj u with
  | true=>
   simp (disch:=try exact DI) only [↓PR,QR,simprocAttr,(Za hq).1]
   exact ⟨by rw [hM,hu];simp only [Cc,hv];rfl,e1⟩
  | false=>
   simp (disch:=try exact DI) only [↓PR,QR,simprocAttr]
   exact ⟨by rw [hM,hu];simp only [Cc,hv];rfl,e1⟩
 have put:∀ (w1:Wd) (a:Vl),Ext w0 w1→w1.heap[p3]?=some (.cells #[.int .i64 n] 3 (0,0))→Ext w0 (w1.setCell ⟨p3,0,none⟩ a)∧(w1.setCell ⟨p3,0,none⟩ a).heap[p3]?=some (.cells #[a] 3 (0,0)):=λ w1 a e1 hq=>⟨e1.setCell l3 _,Zw (o:=0) hq a⟩
 unfold Tg
 by_cases k1:r.kind=1
 · have hv:V5 r n=some n:=by unfold V5;rw [if_pos k1]
   simp (disch:=try exact DI) only [↓PR,QR,simprocAttr,c2,c3.1,k1]
   exact tail w3 n E3 q3 hv
 by_cases k2:r.kind=2
 · simp (disch:=try exact DI) only [↓PR,QR,simprocAttr,c2,c3.1,k2,Tf]
   refine Zl (Qo w3 _) ?_
   rintro _ w' ⟨rfl,hw⟩
   rw [hw,MZ hin]
   clear hw
   cases ha:UX r.add with
   | false=>
    simp (disch:=try exact DI) only [↓PR,QR,simprocAttr]
    exact none_ (by unfold V5;rw [if_neg k1,if_pos k2,ha];rfl) _ E3
   | true=>
    have hv:V5 r n=some (n+r.add):=by unfold V5;rw [if_neg k1,if_pos k2,ha];rfl
    have hb : -34359738368 < r.add∧r.add < 34359738368:=by unfold UX at ha;simpa only [Bool.and_eq_true,decide_eq_true_eq] using ha
    have hw:IntKind.i64.wrap (n+r.add)=n+r.add:=Xf (by omega) (by omega)
    obtain ⟨g1,g2⟩:=put w3 (.int .i64 (n+r.add)) E3 q3
    simp (disch:=try exact DI) only [↓PR,QR,simprocAttr,Tb,c2,c3.1,c3.2,hw]
    exact tail _ _ g1 g2 hv
 have e1:(r.kind == 1)=false:=by simpa using k1
 have e2':(r.kind == 2)=false:=by simpa using k2
 by_cases k3:r.kind=3
 · have hv:V5 r n=some r.value:=by unfold V5;rw [if_neg k1,if_neg k2,if_pos k3]
   obtain ⟨g1,g2⟩:=put w3 (.int .i64 r.value) E3 q3
   simp (disch:=try exact DI) only [↓PR,QR,simprocAttr,c2,c3.1,c3.2,k3,IL,Te]
   exact tail _ _ g1 g2 hv
 have e3':(r.kind == 3)=false:=by simpa using k3
 by_cases k5:r.kind=5
 · have hv:V5 r n=(r.table.find? λ x=>decide (x.low≤n)&&decide (n≤x.high)).map (·.to):=by unfold V5;rw [if_neg k1,if_neg k2,if_neg k3,if_pos k5]
   simp (disch:=try exact DI) only [↓PR,QR,simprocAttr,c2,c3.1,k5,IL,Td]
   refine zcr (GR w3 _ r.table _ _ (λ x=>decide (x.low≤n)&&decide (n≤x.high)) (hT.ext E3) c44 λ w' v y _ e' hv=>by subst hv;exact Ck w' y _ n (e'.obj q3)) λ w4 e4=>?_
   have E4:=E3.trans e4
   rcases H7 (λ x:Qm=>decide (x.low≤n)&&decide (n≤x.high)) r.table with ⟨h1,_,_,_,h5⟩ | ⟨i,x,hxi,h1,_,_,_,h5⟩
   · rw [h5]
     simp (disch:=try exact DI) only [↓PR,QR,simprocAttr]
     exact none_ (by rw [hv,h1];rfl) _ E4
   · rw [h5]
     have d0:decide ((i:Int) < 0)=false:=by simp
     obtain ⟨bt,ot,ct,rfl,_,_,_,hil,helr⟩:=EU hT hxi
     obtain ⟨cs,_,hA,rfl⟩:=helr i x hxi
     obtain ⟨g1,g2⟩:=put w4 (.int .i64 x.to) E4 (e4.obj q3)
     simp (disch:=try exact DI) only [↓PR,QR,simprocAttr,d0,Tc,(Za (e4.obj q2)).1,(Za (e4.obj q3)).1,(Za (e4.obj q3)).2,hA.c3 E4]
     exact tail _ _ g1 g2 (by rw [hv,h1];rfl)
 · have e5:(r.kind == 5)=false:=by simpa using k5
   simp (disch:=try exact DI) only [↓PR,QR,simprocAttr,c2,c3.1,e1,e2',e3',e5,IL]
   exact none_ (by unfold V5;rw [if_neg k1,if_neg k2,if_neg k3,if_neg k5]) _ E3
def Zeg (b a:Vl) (R:RT) (w:Wd):Prop:=
 opV Pg (Builtin.len_ #[9] 3 #[a]) (Zb R) w λ c w=>
 Zg Pg 85 #[b,a,c,(.int .i64 (-1))] (Zb R) w λ d w=>
 R (.returned d) w
theorem Zeh {t0 t1:Vl} {R:RT} {w:Wd} (h:Zeg t0 t1 R w):Calls Pg 48 #[t0,t1] w R:=by
 refine yD func48 ?_
 refine zs<|zr<|zm<|zn<|zk<|zs<|zr<|zm<|zm<|zm<|yx h λ _ w h=>yc h c85 λ _ w h=>zm<|zn<|zk ?_
 exact Zi<|Zk rfl rfl h
def Zec (a b:Vl) (R:RT) (w:Wd):Prop:=
 Zg Pg 160 #[a,b] (Zb R) w λ c w=>
 R (.returned c) w
theorem Zed {t0 t1:Vl} {R:RT} {w:Wd} (h:Zec t0 t1 R w):Calls Pg 133 #[t0,t1] w R:=by
 refine yD func133 ?_
 exact zs<|zr<|zm<|zn<|zk<|zs<|zr<|zm<|zm<|yc h ZfN λ _ w h=>zm<|zn<|zk<|Zi<|Zk rfl rfl h
def Hi (d e f a:Vl) (R:RT) (w:Wd):Prop:=
 opV Pg (Instr.extract a 0) (Zb R) w λ b w=>
 opV Pg (Instr.extract a 1) (Zb R) w λ c w=>
 opV Pg (Zh .neq 162 true c .nilIface) (Zb R) w λ g w=>
 Zu g (
 Zg Pg 153 #[(.string { data := #[80,97,114,115,101,85,105,110,116] }),d,e,f,c] (Zb R) w λ h w=>
 R (.returned (.tuple #[b,h])) w) (
 R (.returned (.tuple #[b,.nilIface])) w)
def Zee (a b c:Vl) (R:RT) (w:Wd):Prop:=
 Zg Pg 155 #[a,b,c] (Zb R) w λ d w=>
 Hi a b c d R w
theorem Zef {t0 t1 t2:Vl} {R:RT} {w:Wd} (h:Zee t0 t1 t2 R w):Calls Pg 127 #[t0,t1,t2] w R:=by
 refine yD func127 ?_
 refine zs<|zr<|zm<|zm<|zn<|zk<|zs<|zr<|zm<|zm<|zm<|yc h ZfM λ _ w h=>zm<|yv h λ _ w h=>yv h λ _ w h=>?_
 refine zm<|zm<|zn<|zk<|zs<|zs<|zr<|zm<|yb h λ _ w h=>zn<|zk<|yC h (λ h=>zs<|zr<|zm<|zm<|zm<|zm<|zm<|yc h ZfK λ _ w h=>zm<|zm<|zn<|zk<|Zi<|Zc<|Z9 rfl rfl rfl h) λ h=>Zo<|zk ?_
 exact zs<|zr<|zm<|zm<|zm<|zn<|zk<|Zi<|Z9 rfl rfl rfl h
def Zen (g h i c j:Vl) (k:KW) (R:RT) (w:Wd):Prop:=
 opV Pg (Go.convert 3 191 j) (Zb R) w λ l w=>
 opV Pg (Zh .mul 191 false h l) (Zb R) w λ d w=>
 opV Pg (Go.convert 5 191 i) (Zb R) w λ m w=>
 opV Pg (Zh .add 191 false d m) (Zb R) w λ a w=>
 opV Pg (Zh .lss 191 false a d) (Zb R) w λ e w=>
 Zq (λ (b:Vl) (w:Wd)=>
 ZD e (.bool true) b λ n=>
 Zu n (
 opV Pg (Instr.makeInterface 239 (.int .i64 1)) (Zb R) w λ o w=>
 R (.returned (.tuple #[c,o])) w) (
 k g a w)) λ f=>
 Zp e false (
 opV Pg (Zh .gtr 191 false a c) (Zb R) w λ b w=>
 f b w) (
 f undef w)
def Zer (c d a e b f:Vl) (g:KW) (R:RT) (w:Wd):Prop:=
 opV Pg (Zh .geq 191 false a c) (Zb R) w λ h w=>
 Zu h (
 opV Pg (Instr.makeInterface 239 (.int .i64 1)) (Zb R) w λ i w=>
 R (.returned (.tuple #[b,i])) w) (
 Zen d a e b f g R w)
def HE (c d e a f b:Vl) (g:KW) (R:RT) (w:Wd):Prop:=
 opV Pg (Go.convert 3 5 b) (Zb R) w λ h w=>
 opV Pg (Zh .geq 5 false a h) (Zb R) w λ i w=>
 Zu i (
 opV Pg (Instr.makeInterface 239 (.int .i64 2)) (Zb R) w λ j w=>
 R (.returned (.tuple #[(.int .u64 0),j])) w) (
 Zer c d e a f b g R w)
def Zey (a:Vl) (b:KV) (R:RT) (w:Wd):Prop:=
 Zg Pg 188 #[a] (Zb R) w λ c w=>
 opV Pg (Zh .sub 5 true c (.int .u8 97)) (Zb R) w λ d w=>
 opV Pg (Zh .add 5 true d (.int .u8 10)) (Zb R) w λ e w=>
 b e w
def Sp (a b c:Vl) (d:KV) (R:RT) (w:Wd):Prop:=
 ZD b c (.bool false) λ e=>
 Zu e (
 Zey a d R w) (
 opV Pg (Instr.makeInterface 239 (.int .i64 2)) (Zb R) w λ f w=>
 R (.returned (.tuple #[(.int .u64 0),f])) w)
def ZbJ (b e:Vl) (f:KV) (R:RT) (w:Wd):Prop:=
 opV Pg (Zh .leq 5 true (.int .u8 97) e) (Zb R) w λ c w=>
 Zq (λ (a:Vl) (w:Wd)=>
 Sp b c a f R w) λ d=>
 Zp c true (
 Zg Pg 188 #[b] (Zb R) w λ g w=>
 opV Pg (Zh .leq 5 true g (.int .u8 122)) (Zb R) w λ a w=>
 d a w) (
 d undef w)
def Sq (c d e f a g h i:Vl) (j:KW) (R:RT) (w:Wd):Prop:=
 ZD g h (.bool false) λ k=>
 Zq (λ (l:Vl) (w:Wd)=>
 HE c d e l f i j R w) λ b=>
 Zu k (
 opV Pg (Zh .sub 5 true a (.int .u8 48)) (Zb R) w λ m w=>
 b m w) (
 Zg Pg 188 #[a] (Zb R) w λ n w=>
 ZbJ a n b R w)
def ZbK (e f g h a i:Vl) (j:KW) (R:RT) (w:Wd):Prop:=
 opV Pg (Zh .leq 5 true (.int .u8 48) a) (Zb R) w λ c w=>
 Zq (λ (b:Vl) (w:Wd)=>
 Sq e f g h a c b i j R w) λ d=>
 Zp c true (
 opV Pg (Zh .leq 5 true a (.int .u8 57)) (Zb R) w λ b w=>
 d b w) (
 d undef w)
def Zez (a b c:Vl) (R:RT) (w:Wd):Prop:=
 ZD a c (.bool false) λ d=>
 Zu d (
 opV Pg (Instr.makeInterface 239 (.int .i64 2)) (Zb R) w λ e w=>
 R (.returned (.tuple #[(.int .u64 0),e])) w) (
 R (.returned (.tuple #[b,.nilIface])) w)
def ZaQ (d b e:Vl) (R:RT) (w:Wd):Prop:=
 Zq (λ (a:Vl) (w:Wd)=>
 Zez b e a R w) λ c=>
 Zp b true (
 Zg Pg 189 #[d] (Zb R) w λ f w=>
 opV Pg (Op.unary .not f) (Zb R) w λ a w=>
 c a w) (
 c undef w)
def ZaR (h b a i j k c l:Vl) (Qu:Vl→Vl→Vl→Wd→Prop) (R:RT) (w:Wd):Prop:=
 Zq (λ (b:Vl) (a:Vl) (w:Wd)=>
 opV Pg (Zh .add 3 true c (.int .i64 1)) (Zb R) w λ m w=>
 Qu b a m w) λ d=>
 opV Pg (indexAt 40 k c) (Zb R) w λ n w=>
 opV Pg (loadAt 5 n) (Zb R) w λ e w=>
 opV Pg (Zh .eql 5 true e (.int .u8 95)) (Zb R) w λ f w=>
 Zq (λ (o:Vl) (w:Wd)=>
 ZD f o (.bool false) λ p=>
 Zu p (
 d (.bool true) a w) (
 ZbK h b a j e l d R w)) λ g=>
 Zp f true (
 g i w) (
 g undef w)
def Po (d e a b f g h i c j:Vl) (Qu:Vl→Vl→Vl→Wd→Prop) (R:RT) (w:Wd):Prop:=
 opV Pg (Zh .lss 3 false c i) (Zb R) w λ k w=>
 Zu k (
 ZaR e a b f g h c j Qu R w) (
 ZaQ d a b R w)
def ZaS (b c d e f g:Vl) (R:RT) (w:Wd):Prop:=
 opV Pg (Go.convert 3 197 g) (Zb R) w λ h w=>
 opV Pg (Zh .shl 191 true (.int .u64 1) h) (Zb R) w λ i w=>
 opV Pg (Zh .sub 191 true i (.int .u64 1)) (Zb R) w λ j w=>
 opV Pg (Go.convert 9 40 e) (Zb R) w λ a w=>
 opV Pg (Builtin.len_ #[40] 3 #[a]) (Zb R) w λ k w=>
 Kv (λ l m n w Qu=>
 Po b c l m d j a k n f Qu R w) (.bool false) (.int .u64 0) (.int .i64 0) w
def Zeo (a:Vl) (b:KV) (R:RT) (w:Wd):Prop:=
 opV Pg (Go.convert 3 191 a) (Zb R) w λ c w=>
 opV Pg (Zh .quo 191 true (.int .u64 18446744073709551615) c) (Zb R) w λ d w=>
 opV Pg (Zh .add 191 true d (.int .u64 1)) (Zb R) w λ e w=>
 b e w
def ZaT (c d e a f:Vl) (R:RT) (w:Wd):Prop:=
 opV Pg (Zh .eql 3 true a (.int .i64 10)) (Zb R) w λ g w=>
 Zq (λ (h:Vl) (w:Wd)=>
 ZaS c h d e a f R w) λ b=>
 Zu g (
 b (.int .u64 1844674407370955162) w) (
 opV Pg (Zh .eql 3 true a (.int .i64 16)) (Zb R) w λ i w=>
 Zu i (
 b (.int .u64 1152921504606846976) w) (
 Zeo a b R w))
def ZaU (a:Vl) (e:KV) (R:RT) (w:Wd):Prop:=
 opV Pg (Zh .lss 3 true a (.int .i64 0)) (Zb R) w λ c w=>
 Zq (λ (b:Vl) (w:Wd)=>
 ZD c (.bool true) b λ f=>
 Zu f (
 opV Pg (Instr.makeInterface 239 (.int .i64 4)) (Zb R) w λ g w=>
 R (.returned (.tuple #[(.int .u64 0),g])) w) (
 e a w)) λ d=>
 Zp c false (
 opV Pg (Zh .gtr 3 true a (.int .i64 64)) (Zb R) w λ b w=>
 d b w) (
 d undef w)
def ZaV (c a d e f:Vl) (R:RT) (w:Wd):Prop:=
 opV Pg (Zh .eql 3 true a (.int .i64 0)) (Zb R) w λ g w=>
 Zq (λ (h:Vl) (w:Wd)=>
 ZaT c d e f h R w) λ b=>
 Zu g (
 b (.int .i64 64) w) (
 ZaU a b R w)
def Zep (a c d:Vl) (b:KW) (R:RT) (w:Wd):Prop:=
 ZD c d (.bool false) λ e=>
 Zu e (
 opV Pg (Instr.sliceAt 9 a (some (.int .i64 2)) none none) (Zb R) w λ f w=>
 b f (.int .i64 16) w) (
 opV Pg (Instr.sliceAt 9 a (some (.int .i64 1)) none none) (Zb R) w λ g w=>
 b g (.int .i64 8) w)
def Zeq (a:Vl) (e:KW) (R:RT) (w:Wd):Prop:=
 opV Pg (Builtin.len_ #[9] 3 #[a]) (Zb R) w λ f w=>
 opV Pg (Zh .geq 3 true f (.int .i64 3)) (Zb R) w λ c w=>
 Zq (λ (b:Vl) (w:Wd)=>
 Zep a c b e R w) λ d=>
 Zp c true (
 opV Pg (Instr.index 9 a (.int .i64 1)) (Zb R) w λ g w=>
 Zg Pg 188 #[g] (Zb R) w λ h w=>
 opV Pg (Zh .eql 5 true h (.int .u8 120)) (Zb R) w λ b w=>
 d b w) (
 d undef w)
def Zes (a c d:Vl) (b:KW) (R:RT) (w:Wd):Prop:=
 ZD c d (.bool false) λ e=>
 Zu e (
 opV Pg (Instr.sliceAt 9 a (some (.int .i64 2)) none none) (Zb R) w λ f w=>
 b f (.int .i64 8) w) (
 Zeq a b R w)
def Zet (a:Vl) (e:KW) (R:RT) (w:Wd):Prop:=
 opV Pg (Builtin.len_ #[9] 3 #[a]) (Zb R) w λ f w=>
 opV Pg (Zh .geq 3 true f (.int .i64 3)) (Zb R) w λ c w=>
 Zq (λ (b:Vl) (w:Wd)=>
 Zes a c b e R w) λ d=>
 Zp c true (
 opV Pg (Instr.index 9 a (.int .i64 1)) (Zb R) w λ g w=>
 Zg Pg 188 #[g] (Zb R) w λ h w=>
 opV Pg (Zh .eql 5 true h (.int .u8 111)) (Zb R) w λ b w=>
 d b w) (
 d undef w)
def Zeu (a c d:Vl) (e:KW) (R:RT) (w:Wd):Prop:=
 ZD c d (.bool false) λ f=>
 Zq (λ (g:Vl) (h:Vl) (w:Wd)=>
 e g h w) λ b=>
 Zu f (
 opV Pg (Instr.sliceAt 9 a (some (.int .i64 2)) none none) (Zb R) w λ i w=>
 b i (.int .i64 2) w) (
 Zet a b R w)
def Zev (a:Vl) (e:KW) (R:RT) (w:Wd):Prop:=
 opV Pg (Builtin.len_ #[9] 3 #[a]) (Zb R) w λ f w=>
 opV Pg (Zh .geq 3 true f (.int .i64 3)) (Zb R) w λ c w=>
 Zq (λ (b:Vl) (w:Wd)=>
 Zeu a c b e R w) λ d=>
 Zp c true (
 opV Pg (Instr.index 9 a (.int .i64 1)) (Zb R) w λ g w=>
 Zg Pg 188 #[g] (Zb R) w λ h w=>
 opV Pg (Zh .eql 5 true h (.int .u8 98)) (Zb R) w λ b w=>
 d b w) (
 d undef w)
def Zew (a:Vl) (b:KW) (R:RT) (w:Wd):Prop:=
 opV Pg (Instr.index 9 a (.int .i64 0)) (Zb R) w λ c w=>
 opV Pg (Zh .eql 5 true c (.int .u8 48)) (Zb R) w λ d w=>
 Zu d (
 Zev a b R w) (
 b a (.int .i64 10) w)
def Zex (a b:Vl) (c:KW) (R:RT) (w:Wd):Prop:=
 opV Pg (Zh .eql 3 true b (.int .i64 0)) (Zb R) w λ d w=>
 Zu d (
 Zew a c R w) (
 opV Pg (Instr.makeInterface 239 (.int .i64 3)) (Zb R) w λ e w=>
 R (.returned (.tuple #[(.int .u64 0),e])) w)
def ZaW (a b d e f g:Vl) (R:RT) (w:Wd):Prop:=
 ZD f g (.bool false) λ h=>
 Zq (λ (i:Vl) (j:Vl) (w:Wd)=>
 ZaV a d e i j R w) λ c=>
 Zu h (
 c a b w) (
 Zex a b c R w)
def ZaX (e a f:Vl) (R:RT) (w:Wd):Prop:=
 opV Pg (Zh .eql 3 true a (.int .i64 0)) (Zb R) w λ g w=>
 opV Pg (Zh .leq 3 true (.int .i64 2) a) (Zb R) w λ c w=>
 Zq (λ (b:Vl) (w:Wd)=>
 ZaW e a f g c b R w) λ d=>
 Zp c true (
 opV Pg (Zh .leq 3 true a (.int .i64 36)) (Zb R) w λ b w=>
 d b w) (
 d undef w)
def n8 (a b c:Vl) (R:RT) (w:Wd):Prop:=
 opV Pg (Zh .eql 9 true a (.string { data := #[] })) (Zb R) w λ d w=>
 Zu d (
 opV Pg (Instr.makeInterface 239 (.int .i64 2)) (Zb R) w λ e w=>
 R (.returned (.tuple #[(.int .u64 0),e])) w) (
 ZaX a b c R w)
set_option maxHeartbeats 40000000 in
theorem n8s {t0 t1 t2:Vl} {R:RT} {w:Wd} (h:n8 t0 t1 t2 R w):Calls Pg 155 #[t0,t1,t2] w R:=by
 refine yD func155 ?_
 refine zs<|zr<|zm<|zm<|zn<|zk<|zs<|zs<|zr<|zm<|yb h λ _ w h=>zn<|zk<|yC h (λ h=>zs<|zr<|yv h λ _ w h=>zm<|zm<|zn<|zk<|Zi<|Zc<|Z9 rfl rfl rfl h) λ h=>?_
 refine Zo<|zk<|zs<|zr<|zm<|yb h λ _ w h=>zm<|zn<|zk<|zs<|zr<|zm<|zm<|zn<|zk ?_
 refine zs<|Zn<|zs<|Zr<|yG 3<|zm<|yb h λ _ w h=>zm<|zn<|yg1 2 2 true [29,30] 30 h (λ _ T hT h=>?_) λ σ w h=>?_
 · refine zm<|yb h λ _ w h=>zn ?_
   exact zt hT h
 refine yG 2<|yp h λ _ h=>zm<|zn<|ZK<|zk<|yJ2 [0,1,6,7,24,32,33,34,35,36,37,38,39,40,41,42,43,44,45,46,47,48,49,50,51,52,53,54,55,56,57,58,59,60,61,62,63,64,65,66,67,68,69,70,71,72,73,74,75] 0 1 h (λ _ _ hkK2 h=>?_) λ σ w h=>?_
 · refine yC h (λ h=>?_) λ h=>?_
   · refine Zo<|zk ?_
     exact zt hkK2 h
   refine zs<|zr<|zm<|yb h λ _ w h=>zm<|zn<|zk<|yC h (λ h=>?_) λ h=>?_
   · refine zs<|zr<|zm<|zn<|zk<|zs<|zr<|zm<|yv h λ _ w h=>yb h λ _ w h=>zn<|zk<|yC h (λ h=>?_) λ h=>?_
     · refine Zn<|zs<|Zr<|yG 4<|zm<|yx h λ _ w h=>yb h λ _ w h=>zm<|zn<|yg1 4 3 true [45,46,47,48] 48 h (λ _ T hT h=>?_) λ σ w h=>?_
       · refine zm<|yv h λ _ w h=>yc h Lq λ _ w h=>yb h λ _ w h=>zn ?_
         exact zt hT h
       refine yG 2<|yp h λ _ h=>zm<|zn<|ZK<|zk<|yJ2 [0,1,38,39,50,51,52,53,54,55,56,57,58,59,60,61,62,63,64,65,66,67,68,69,70,71,72,73,74,75] 0 1 h (λ _ _ hkK15 h=>?_) λ σ w h=>?_
       · refine yC h (λ h=>?_) λ h=>?_
         · refine zs<|zr<|zm<|zn<|zk<|zr<|zm<|yv h λ _ w h=>zm<|zn<|zk ?_
           exact zt hkK15 h
         refine zs<|Zr<|yG 4<|zm<|yx h λ _ w h=>yb h λ _ w h=>zm<|zn<|yg1 4 3 true [57,58,59,60] 60 h (λ _ T hT h=>?_) λ σ w h=>?_
         · refine zm<|yv h λ _ w h=>yc h Lq λ _ w h=>yb h λ _ w h=>zn ?_
           exact zt hT h
         refine yG 2<|yp h λ _ h=>zm<|zn<|ZK<|zk<|yC h (λ h=>?_) λ h=>?_
         · refine zs<|zr<|zm<|zn<|zk<|zr<|zm<|yv h λ _ w h=>zm<|zn<|zk ?_
           exact zt hkK15 h
         refine zs<|Zr<|yG 4<|zm<|yx h λ _ w h=>yb h λ _ w h=>zm<|zn<|yg1 4 3 true [69,70,71,72] 72 h (λ _ T hT h=>?_) λ σ w h=>?_
         · refine zm<|yv h λ _ w h=>yc h Lq λ _ w h=>yb h λ _ w h=>zn ?_
           exact zt hT h
         refine yG 2<|yp h λ _ h=>zm<|zn<|ZK<|zk<|yC h (λ h=>?_) λ h=>?_
         · refine zs<|zr<|zm<|zn<|zk<|zr<|zm<|yv h λ _ w h=>zm<|zn<|zk ?_
           exact zt hkK15 h
         refine zs<|zr<|zm<|zn<|zk<|zr<|zm<|yv h λ _ w h=>zm<|zn<|zk ?_
         exact zt hkK15 h
       refine Zf<|zk ?_
       exact zt hkK2 h
     refine Zo<|zk ?_
     exact zt hkK2 h
   exact zs<|zr<|yv h λ _ w h=>zm<|zm<|zn<|zk<|Zi<|Zc<|Zj<|Zc<|Z9 rfl rfl rfl h
 refine Zf<|zk<|zs<|zs<|zr<|zm<|yb h λ _ w h=>zn<|zk<|yJ1 [2,6,7,78,79,80,81,82,83,84] 2 h (λ _ _ hkK3 h=>?_) λ σ w h=>?_
 · refine yC h (λ h=>?_) λ h=>?_
   · refine zr<|zm<|zn<|zk ?_
     exact zt hkK3 h
   refine zs<|Zr<|yG 3<|zm<|yb h λ _ w h=>zm<|zn<|yg1 2 2 false [81,82] 82 h (λ _ T hT h=>?_) λ σ w h=>?_
   · refine zm<|yb h λ _ w h=>zn ?_
     exact zt hT h
   refine yG 1<|yp h λ _ h=>zn<|ZK<|zk<|yC h (λ h=>zs<|zr<|yv h λ _ w h=>zm<|zm<|zn<|zk<|Zi<|Zc<|Zc<|Z9 rfl rfl rfl h) λ h=>Zo<|zk ?_
   exact zt hkK3 h
 refine zk<|zs<|zr<|zm<|zn<|zk<|zs<|zs<|zr<|zm<|zn<|zk<|Zn<|zs<|zr ?_
 refine yb h λ _ w h=>zm<|zn<|zk<|yJ1 [10,86,87,88,89,92,93] 10 h (λ _ _ hkK4 h=>?_) λ σ w h=>?_
 · refine yC h (λ h=>?_) λ h=>?_
   · refine zr<|zm<|zn<|zk ?_
     exact zt hkK4 h
   refine zs<|zr<|yb h λ _ w h=>zm<|zn<|zk<|yC h (λ h=>?_) λ h=>?_
   · refine zr<|zm<|zn<|zk ?_
     exact zt hkK4 h
   refine zr<|zm<|yv h λ _ w h=>yb h λ _ w h=>yb h λ _ w h=>zm<|zn<|zk ?_
   exact zt hkK4 h
 refine Zf<|zk<|zs<|zr<|zm<|yv h λ _ w h=>yb h λ _ w h=>yb h λ _ w h=>zm<|zn<|zk<|zs<|zr<|zm<|zn ?_
 refine zk<|zs<|zr<|zm<|zn<|zk<|zs<|zs<|zr<|zm<|yv h λ _ w h=>yx h λ _ w h=>zm<|zn<|zk ?_
 refine Zn<|yl3 [6,7,12,13,15,16,17,101,102,103,104,105,106,107,108,109,110,111,112,113,114,115,116,117,118,119,120,121,122,123,124,125,126,127,128,129,130,131,132,133,134,135,136,137,138,139,140,141,142,143,144,145,146,147,148,149,150,151,152,153,154,155,156,157,158,159,160,161,162,163] 12 13 101 h λ σ w next h=>zs<|zr<|yb h λ _ w h=>zn<|zk<|zs<|yC h (λ h=>?_) λ h=>?_
 · refine Zo<|zk<|zs<|yJ2 [6,7,12,13,15,16,17,103,104,105,106,107,108,109,110,111,112,113,114,115,116,117,118,119,120,121,122,123,124,125,126,127,128,129,130,131,132,133,134,135,136,137,138,139,140,141,142,143,144,145,146,147,148,149,150,151,152,153,154,155,156,157,158,159,160,161,162] 12 13 h (λ _ _ hkK6 h=>?_) λ σ w h=>?_
   · refine Zn<|zs<|zr<|yv h λ _ w h=>yv h λ _ w h=>zm<|zn<|zk<|zs<|zr<|zm<|zn<|zk<|zs<|Zn ?_
     refine zs<|Zr<|yG 3<|zm<|yb h λ _ w h=>zm<|zn<|yg1 1 2 true [110] 110 h (λ _ T hT h=>?_) λ σ w h=>?_
     · refine zm<|zn ?_
       exact zt hT h
     refine yG 2<|yp h λ _ h=>zm<|zn<|ZK<|zk<|yC h (λ h=>?_) λ h=>?_
     · refine zs<|zr<|zm<|zn<|zk<|ZR<|Qw rfl<|Ze<|Zx<|zk ?_
       exact zt hkK6 h
     refine zs<|Zr<|yG 3<|zm<|yb h λ _ w h=>zm<|zn<|yg1 2 2 true [116,117] 117 h (λ _ T hT h=>?_) λ σ w h=>?_
     · refine zm<|yb h λ _ w h=>zn ?_
       exact zt hT h
     refine yG 2<|yp h λ _ h=>zm<|zn<|ZK<|zk<|yJ1 [6,7,16,105,119,120,121,122,123,124,125,126,127,128,129,130,131,132,133] 16 h (λ _ _ hkK9 h=>?_) λ σ w h=>?_
     · refine yC h (λ h=>?_) λ h=>?_
       · refine zr<|zm<|yb h λ _ w h=>zm<|zn<|zk ?_
         exact zt hkK9 h
       refine zs<|Zr<|yG 4<|zm<|yc h Lq λ _ w h=>yb h λ _ w h=>zm<|zn<|yg1 3 3 true [126,127,128] 128 h (λ _ T hT h=>?_) λ σ w h=>?_
       · refine zm<|yc h Lq λ _ w h=>yb h λ _ w h=>zn ?_
         exact zt hT h
       refine yG 2<|yp h λ _ h=>zm<|zn<|ZK<|zk<|yC h (λ h=>?_) λ h=>?_
       · refine zr<|zm<|yc h Lq λ _ w h=>yb h λ _ w h=>yb h λ _ w h=>zm<|zn<|zk ?_
         exact zt hkK9 h
       refine zs<|zr<|yv h λ _ w h=>zm<|zm<|zn<|zk<|Zi<|Zc<|Zj<|Zc<|Zj<|Zc<|Zc<|Zc ?_
       exact Zj<|Zc<|Z9 rfl rfl rfl h
     refine Zf<|zk<|zs<|zs<|zr<|zm<|zm<|yv h λ _ w h=>yb h λ _ w h=>zn<|zk<|yC h (λ h=>?_) λ h=>?_
     · refine zs<|zr<|yv h λ _ w h=>zm<|zm<|zn<|zk<|Zi<|Zc<|Zj<|Zc<|Zc<|Zc<|Zj<|Zc ?_
       exact Z9 rfl rfl rfl h
     refine Zo<|zk<|zs<|zs<|zr<|zm<|zm<|yb h λ _ w h=>zn<|zk<|yC h (λ h=>?_) λ h=>?_
     · refine zs<|zr<|zm<|yv h λ _ w h=>zm<|zm<|zn<|zk<|Zi<|Zc<|Zj<|Zc<|Zc<|Zc<|Zj ?_
       exact Zc<|Z9 rfl rfl rfl h
     refine Zo<|zk<|zs<|zr<|zm<|zm<|yv h λ _ w h=>yb h λ _ w h=>zm<|zn<|zk<|zs<|zr<|zm<|zm ?_
     refine yv h λ _ w h=>yb h λ _ w h=>zm<|zn<|zk<|zs<|zs<|Zr<|yG 4<|zm<|zm<|yb h λ _ w h=>zm<|zn<|yg1 3 3 false [156,157,158] 158 h (λ _ T hT h=>?_) λ σ w h=>?_
     · refine zm<|zm<|yb h λ _ w h=>zn ?_
       exact zt hT h
     refine yG 1<|yp h λ _ h=>zn<|ZK<|zk<|yC h (λ h=>?_) λ h=>?_
     · refine zs<|zr<|zm<|yv h λ _ w h=>zm<|zm<|zn<|zk<|Zi<|Zc<|Zj<|Zc<|Zc<|Zc<|Zj ?_
       exact Zc<|Z9 rfl rfl rfl h
     refine Zo<|zk<|zr<|zm<|zm<|zn<|Zf<|zk ?_
     exact zt hkK6 h
   exact zk<|zr<|yb h λ _ w h=>zm<|zn<|zk<|⟨rfl,h⟩
 refine ZR<|Ze<|Ze<|Zx<|zk<|zs<|zs<|Zr<|yG 2<|zm<|zm<|zn<|yg1 3 1 true [166,167,168] 168 h (λ _ T hT h=>?_) λ σ w h=>?_
 · refine zm<|yc h ZfT λ _ w h=>yv h λ _ w h=>zn ?_
   exact zt hT h
 refine yG 1<|yp h λ _ h=>zn<|ZK<|zk<|yC h (λ h=>zs<|zr<|yv h λ _ w h=>zm<|zm<|zn<|zk<|Zi<|Zc<|Z9 rfl rfl rfl h) λ h=>Zo<|zk<|zs<|zr<|zm<|zm<|zm<|zn ?_
 exact zk<|Zi<|Z9 rfl rfl rfl h
def ZhI (c a b:Vl) (R:RT) (w:Wd):Prop:=
 opV Pg (Instr.sliceAt 246 a none (some b) none) (Zb R) w λ d w=>
 Zg Pg 193 #[d,c] (Zb R) w λ g w=>
 opV Pg (Instr.sliceAt 246 a none (some b) none) (Zb R) w λ e w=>
 opV Pg (Go.convert 40 9 e) (Zb R) w λ f w=>
 R (.returned f) w
def ZhJ (a:Vl) (R:RT) (w:Wd):Prop:=
 opV Pg (Zh .lss 191 true a (.int .u64 100)) (Zb R) w λ b w=>
 Zu b (
 opV Pg (Go.convert 191 3 a) (Zb R) w λ c w=>
 Zg Pg 191 #[c] (Zb R) w λ d w=>
 R (.returned d) w) (
 opV Pg (Instr.alloc 246 true (.tuple #[])) (Zb R) w λ e w=>
 Zg Pg 192 #[a] (Zb R) w λ f w=>
 ZhI a e f R w)
def Zem (b c:Vl) (R:RT) (w:Wd):Prop:=
 Zg Pg 194 #[(Value.slice none 0 0),b,c,(.bool false),(.bool false)] (Zb R) w λ a w=>
 opV Pg (Instr.extract a 0) (Zb R) w λ e w=>
 opV Pg (Instr.extract a 1) (Zb R) w λ d w=>
 R (.returned d) w
def n7 (a b:Vl) (R:RT) (w:Wd):Prop:=
 opV Pg (Zh .eql 3 true b (.int .i64 10)) (Zb R) w λ c w=>
 Zu c (
 ZhJ a R w) (
 Zem a b R w)
theorem n7s {t0 t1:Vl} {R:RT} {w:Wd} (h:n7 t0 t1 R w):Calls Pg 160 #[t0,t1] w R:=by
 refine yD func160 ?_
 refine zs<|zr<|zm<|zn<|zk<|zs<|zs<|zr<|zm<|yb h λ _ w h=>zn<|zk<|yC h (λ h=>?_) λ h=>?_
 · refine zs<|zs<|zr<|zm<|yb h λ _ w h=>zn<|zk<|yC h (λ h=>zs<|zr<|zm<|yv h λ _ w h=>yc h ZfU λ _ w h=>zm<|zn<|zk<|Zi<|Zc<|Zc<|Zk rfl rfl h) λ h=>Zo<|zk<|zs<|zr<|yv h λ _ w h=>zn ?_
   refine zk<|zs<|zr<|zm<|yc h ZfV λ _ w h=>zm<|zn<|zk<|zs<|zr<|zm<|yv h λ _ w h=>zm<|yc h ZfW λ _ w h=>zn ?_
   exact zk<|zs<|zr<|zm<|yv h λ _ w h=>yv h λ _ w h=>zm<|zn<|zk<|Zi<|Zc<|Zk rfl rfl h
 refine Zo<|zk<|zs<|zr<|zm<|zm<|yc h ZfX λ _ w h=>zm<|yv h λ _ w h=>yv h λ _ w h=>zm<|zm<|zn<|zk<|zs ?_
 exact zr<|zm<|zm<|zn<|zk<|Zi<|Zk rfl rfl h
def Zh4 (a b c:Vl) (R:RT) (w:Wd):Prop:=
 opV Pg (Instr.sliceAt 282 b (some c) none none) (Zb R) w λ d w=>
 opV Pg (Builtin.append_ #[40,40] 40 #[a,d]) (Zb R) w λ e w=>
 R (.returned (.tuple #[e,(.string { data := #[] })])) w
def ZeD (a b:Vl) (R:RT) (w:Wd):Prop:=
 opV Pg (Instr.sliceAt 282 a (some b) none none) (Zb R) w λ c w=>
 opV Pg (Go.convert 40 9 c) (Zb R) w λ d w=>
 R (.returned (.tuple #[(Value.slice none 0 0),d])) w
def Zh5 (b c:Vl) (d:KV) (R:RT) (w:Wd):Prop:=
 opV Pg (Zh .sub 3 true c (.int .i64 1)) (Zb R) w λ a w=>
 opV Pg (indexAt 282 b a) (Zb R) w λ e w=>
 opU Pg (storeAt 5 e (.int .u8 45)) (Zb R) w λ w=>
 d a w
def ZeE (d e f b a:Vl) (R:RT) (w:Wd):Prop:=
 Zq (λ (a:Vl) (w:Wd)=>
 Zu f (
 Zh4 d b a R w) (
 ZeD b a R w)) λ c=>
 Zu e (
 Zh5 b a c R w) (
 c a w)
def ZeF (b c d:Vl) (e:KV) (R:RT) (w:Wd):Prop:=
 opV Pg (Zh .sub 3 true d (.int .i64 1)) (Zb R) w λ a w=>
 opV Pg (Instr.index 9 (.string { data := #[48,49,50,51,52,53,54,55,56,57,97,98,99,100,101,102,103,104,105,106,107,108,109,110,111,112,113,114,115,116,117,118,119,120,121,122] }) b) (Zb R) w λ f w=>
 opV Pg (indexAt 282 c a) (Zb R) w λ g w=>
 opU Pg (storeAt 5 g f) (Zb R) w λ w=>
 e a w
def Zh6 (a c d e f:Vl) (Vp:KW) (R:RT) (w:Wd):Prop:=
 opV Pg (Zh .sub 3 true d (.int .i64 1)) (Zb R) w λ b w=>
 opV Pg (Zh .and 197 false a f) (Zb R) w λ g w=>
 opV Pg (Instr.index 9 (.string { data := #[48,49,50,51,52,53,54,55,56,57,97,98,99,100,101,102,103,104,105,106,107,108,109,110,111,112,113,114,115,116,117,118,119,120,121,122] }) g) (Zb R) w λ h w=>
 opV Pg (indexAt 282 c b) (Zb R) w λ i w=>
 opU Pg (storeAt 5 i h) (Zb R) w λ w=>
 opV Pg (Zh .shr 191 false a e) (Zb R) w λ j w=>
 Vp j b w
def ZeG (a b c d e f:Vl) (g:KV) (Vp:KW) (R:RT) (w:Wd):Prop:=
 opV Pg (Zh .geq 191 false a e) (Zb R) w λ h w=>
 Zu h (
 Zh6 a b c d f Vp R w) (
 ZeF a b c g R w)
def ZeH (a b c d:Vl) (e:KV) (R:RT) (w:Wd):Prop:=
 opV Pg (Go.convert 3 197 d) (Zb R) w λ f w=>
 opV Pg (Go.convert 3 191 b) (Zb R) w λ g w=>
 opV Pg (Go.convert 3 197 b) (Zb R) w λ h w=>
 opV Pg (Zh .sub 197 true h (.int .u64 1)) (Zb R) w λ i w=>
 U0 (λ a j w Vp=>
 ZeG a c j f g i e Vp R w) a (.int .i64 65) w
def Zh7 (b c d:Vl) (e:KV) (R:RT) (w:Wd):Prop:=
 opV Pg (Zh .sub 3 true d (.int .i64 1)) (Zb R) w λ a w=>
 opV Pg (Instr.index 9 (.string { data := #[48,49,50,51,52,53,54,55,56,57,97,98,99,100,101,102,103,104,105,106,107,108,109,110,111,112,113,114,115,116,117,118,119,120,121,122] }) b) (Zb R) w λ f w=>
 opV Pg (indexAt 282 c a) (Zb R) w λ g w=>
 opU Pg (storeAt 5 g f) (Zb R) w λ w=>
 e a w
def ZeA (a e f b:Vl) (Ja:KW) (R:RT) (w:Wd):Prop:=
 opV Pg (Zh .sub 3 true f (.int .i64 1)) (Zb R) w λ c w=>
 opV Pg (Zh .quo 191 false a b) (Zb R) w λ d w=>
 opV Pg (Zh .mul 191 false d b) (Zb R) w λ g w=>
 opV Pg (Zh .sub 191 false a g) (Zb R) w λ h w=>
 opV Pg (Instr.index 9 (.string { data := #[48,49,50,51,52,53,54,55,56,57,97,98,99,100,101,102,103,104,105,106,107,108,109,110,111,112,113,114,115,116,117,118,119,120,121,122] }) h) (Zb R) w λ i w=>
 opV Pg (indexAt 282 e c) (Zb R) w λ j w=>
 opU Pg (storeAt 5 j i) (Zb R) w λ w=>
 Ja d c w
def ZeB (a b c d:Vl) (e:KV) (Ja:KW) (R:RT) (w:Wd):Prop:=
 opV Pg (Zh .geq 191 false a d) (Zb R) w λ f w=>
 Zu f (
 ZeA a b c d Ja R w) (
 Zh7 a b c e R w)
def Za1 (f a b g h c i:Vl) (R:RT) (w:Wd):Prop:=
 Zq (λ (d:Vl) (w:Wd)=>
 ZeE f g h c d R w) λ e=>
 Zu i (
 opV Pg (Go.convert 3 197 b) (Zb R) w λ j w=>
 Zg Pg 211 #[j] (Zb R) w λ k w=>
 ZeH a b c k e R w) (
 opV Pg (Go.convert 3 191 b) (Zb R) w λ l w=>
 U0 (λ a d w Ja=>
 ZeB a c d l e Ja R w) a (.int .i64 65) w)
def ZeC (R:RT) (w:Wd):Prop:=
 opV Pg (Instr.makeInterface 9 (.string { data := #[115,116,114,99,111,110,118,58,32,105,108,108,101,103,97,108,32,65,112,112,101,110,100,73,110,116,47,70,111,114,109,97,116,73,110,116,32,98,97,115,101] })) (Zb R) w λ a w=>
 opV Pg (Instr.panic a) (Zb R) w λ _ w=>
 False
def Za2 (e a b c f:Vl) (R:RT) (w:Wd):Prop:=
 opV Pg (Instr.alloc 282 true (.tuple #[])) (Zb R) w λ g w=>
 Zq (λ (a:Vl) (w:Wd)=>
 Zg Pg 210 #[b] (Zb R) w λ h w=>
 Za1 e a b c f g h R w) λ d=>
 Zu c (
 opV Pg (Op.unary .neg a) (Zb R) w λ i w=>
 d i w) (
 d a w)
def Za3 (e f b g h i j:Vl) (R:RT) (w:Wd):Prop:=
 ZD i (.bool true) j λ c=>
 Zq (λ (a:Vl) (w:Wd)=>
 ZD c (.bool true) a λ k=>
 Zu k (
 ZeC R w) (
 Za2 e f b g h R w)) λ d=>
 Zp c false (
 opV Pg (Zh .gtr 3 true b (.int .i64 36)) (Zb R) w λ a w=>
 d a w) (
 d undef w)
def n9 (e f a g h:Vl) (R:RT) (w:Wd):Prop:=
 opV Pg (Zh .lss 3 true a (.int .i64 2)) (Zb R) w λ c w=>
 Zq (λ (b:Vl) (w:Wd)=>
 Za3 e f a g h c b R w) λ d=>
 Zp c false (
 opV Pg (Zh .eql 3 true a (.int .i64 10)) (Zb R) w λ b w=>
 d b w) (
 d undef w)
set_option maxHeartbeats 40000000 in
theorem n9s {t0 t1 t2 t3 t4:Vl} {R:RT} {w:Wd} (h:n9 t0 t1 t2 t3 t4 R w):Calls Pg 194 #[t0,t1,t2,t3,t4] w R:=by
 refine yD func194 ?_
 refine zs<|zr<|zm<|zm<|zn<|zk<|zs<|zs<|Zr<|yG 3<|zm<|yb h λ _ w h=>zm<|zn<|yg1 2 2 false [22,23] 23 h (λ _ T hT h=>?_) λ σ w h=>?_
 · refine zm<|yb h λ _ w h=>zn ?_
   exact zt hT h
 refine yG 2<|yp h λ _ h=>zm<|zn<|yg1 2 6 false [26,27] 27 h (λ _ T hT h=>?_) λ σ w h=>?_
 · refine zm<|yb h λ _ w h=>zn ?_
   exact zt hT h
 refine yG 1<|yp h λ _ h=>zn<|ZK<|zk<|yC h (λ h=>zr<|yv h λ _ w h=>yv h λ _ w h=>zn<|h.elim) λ h=>Zo<|zk<|zs<|zr<|yv h λ _ w h=>zn<|zk<|zs ?_
 refine zr<|zm<|zn<|zk<|zs<|zs<|zr<|zm<|zn<|zk<|yJ1 [1,31,32] 1 h (λ _ _ hkK3 h=>?_) λ σ w h=>?_
 · refine yC h (λ h=>?_) λ h=>?_
   · refine zr<|zm<|yv h λ _ w h=>zm<|zn<|zk ?_
     exact zt hkK3 h
   refine Zo<|zk ?_
   exact zt hkK3 h
 refine zk<|zs<|zs<|zr<|zm<|yc h c210 λ _ w h=>zn<|zk<|yJ1 [1,13,14,15,16,17,18,35,36,37,38,39,40,41,42,43,44,45,46,47,48,49,50,51,52,53,54,55,56,57,58,59,60,61,62,63,64,65,66,67,68,69,70,71,72,73,74,75,76,77,78,79,80,81,82,83,84,85,86,87,88] 13 h (λ _ _ hkK4 h=>?_) λ σ w h=>?_
 · refine yC h (λ h=>?_) λ h=>?_
   · refine zs<|zr<|zm<|yv h λ _ w h=>yc h Zf0 λ _ w h=>yv h λ _ w h=>zm<|zn<|zk<|zs<|zr<|zm<|yv h λ _ w h=>zm<|zn ?_
     refine zk<|zs<|zr<|zm<|yv h λ _ w h=>yb h λ _ w h=>zm<|zn<|zk<|zs<|Zn<|yl2 [1,13,44,45,46,47,48,49,50,51,52,53,54,55,56,57] 1 13 h λ σ w next h=>zs<|zs<|zr ?_
     refine zm<|zm<|yb h λ _ w h=>zn<|zk<|yC h (λ h=>?_) λ h=>?_
     · refine Zo<|zk<|Zn<|zs<|zr<|zm<|yb h λ _ w h=>zm<|zn<|zk<|zs<|zr<|zm<|zm<|zm ?_
       exact yb h λ _ w h=>yv h λ _ w h=>yv h λ _ w h=>yu h λ w h=>zn<|zk<|zr<|zm<|zm<|yb h λ _ w h=>zm<|zn<|Zf<|zk<|⟨rfl,h⟩
     refine ZR<|Ze<|Ze<|Zx<|zk<|zs<|zr<|zm<|yb h λ _ w h=>zm<|zn<|zk<|zr<|zm<|zm ?_
     refine yv h λ _ w h=>yv h λ _ w h=>yu h λ w h=>zn<|zk ?_
     exact zt hkK4 h
   refine zs<|zr<|zm<|yv h λ _ w h=>zm<|zn<|zk<|zs<|Zn<|yl2 [1,13,18,66,67,68,69,70,71,72,73,74,75,76,77,78,79,80,81,82] 1 13 h λ σ w next h=>zs<|zs<|zr<|zm<|zm ?_
   refine yb h λ _ w h=>zn<|zk<|yC h (λ h=>?_) λ h=>?_
   · refine Zo<|zk<|Zn<|zs<|zr<|zm<|yb h λ _ w h=>zm<|zn<|zk<|zs<|zr<|zm<|zm<|yb h λ _ w h=>?_
     refine zm<|zn<|zk<|zs<|zr<|zm<|zm<|zm<|zm<|yb h λ _ w h=>yb h λ _ w h=>yv h λ _ w h=>yv h λ _ w h=>yu h λ w h=>zn ?_
     exact zk<|zr<|zm<|zm<|zn<|Zf<|zk<|⟨rfl,h⟩
   refine ZR<|Ze<|Ze<|Zx<|zk<|zs<|zr<|zm<|yb h λ _ w h=>zm<|zn<|zk<|zr<|zm<|zm ?_
   refine yv h λ _ w h=>yv h λ _ w h=>yu h λ w h=>zn<|zk ?_
   exact zt hkK4 h
 refine zk<|zs<|zs<|zr<|zm<|zn<|zk<|yJ1 [13,90,91,92,93] 13 h (λ _ _ hkK5 h=>?_) λ σ w h=>?_
 · refine yC h (λ h=>?_) λ h=>?_
   · refine zs<|zr<|zm<|yb h λ _ w h=>zm<|zn<|zk<|zr<|zm<|yv h λ _ w h=>yu h λ w h=>zn<|zk ?_
     exact zt hkK5 h
   refine Zo<|zk ?_
   exact zt hkK5 h
 refine zk<|zs<|zs<|zr<|zm<|zn<|zk<|yC h (λ h=>zs<|zr<|zm<|zm<|yv h λ _ w h=>yx h λ _ w h=>zm<|zn<|zk<|Zi<|Zc<|Z9 rfl rfl rfl h) λ h=>Zo<|zk<|zs<|zr<|zm<|yv h λ _ w h=>?_
 exact yv h λ _ w h=>zm<|zn<|zk<|Zi<|Z9 rfl rfl rfl h
def n10 (a:Vl) (R:RT) (w:Wd):Prop:=
 opV Pg (Zh .sub 3 true a (.int .i64 1)) (Zb R) w λ b w=>
 opV Pg (Zh .and 3 false a b) (Zb R) w λ c w=>
 opV Pg (Zh .eql 3 true c (.int .i64 0)) (Zb R) w λ d w=>
 R (.returned d) w
theorem ZgH {t0:Vl} {R:RT} {w:Wd} (h:n10 t0 R w):Calls Pg 210 #[t0] w R:=by
 refine yD func210 ?_
 refine zs<|zr<|zm<|zn<|zk<|zs<|zr<|zm<|zm<|yb h λ _ w h=>yb h λ _ w h=>yb h λ _ w h=>zm<|zn<|zk ?_
 exact Zi<|Zk rfl rfl h
def n13 (a:Vl) (R:RT) (w:Wd):Prop:=
 opV Pg (Zh .or 5 true a (.int .u8 32)) (Zb R) w λ b w=>
 R (.returned b) w
theorem ZgI {t0:Vl} {R:RT} {w:Wd} (h:n13 t0 R w):Calls Pg 188 #[t0] w R:=by
 refine yD func188 ?_
 exact zs<|zr<|zm<|zn<|zk<|zs<|zr<|zm<|yb h λ _ w h=>zm<|zn<|zk<|Zi<|Zk rfl rfl h
structure VE (w:Wd):Prop where
 env:Uc w
 tz:w.cell? ⟨7,15,none⟩=some (.int .u8 4)
theorem VE.ext {w w':Wd} (h:VE w) (e:Ext w w'):VE w':=⟨h.env.ext e,e.cell h.tz⟩
section
variable {P:Program} {QP:PEn} {w:Wd} {k:KV}
theorem Dk (t:TypeId) (c:Bool) (kd:IntKind) (a b:Int):opV P (Zh .and t c (.int kd a) (.int kd b)) QP w k=k (.int kd (kd.wrap ((BitVec.ofInt kd.bits a &&& BitVec.ofInt kd.bits b).toNat:Nat))) w:=ZS (by rw [Y2 _ _ _ _ _ _ rfl];rfl)
theorem I4 (t:TypeId) (c:Bool) (kd:IntKind) (x y:Int) (h0:0≤y):opV P (Zh .shr t c (.int kd x) (.int .u64 y)) QP w k=k (.int kd (x / 2 ^ min y.toNat kd.bits)) w:=ZS (by
 have h0:¬ (y < 0):=by omega
 simp [Zh,go_sem,Op.shift,h0]
 exact Int.fdiv_eq_ediv_of_nonneg _ (Int.le_of_lt (Int.pow_pos (by decide))))
theorem BX {t e:TypeId} {agg:Bool} {n m len:Nat} {z:Vl} (hu:P.underlying t=some (.array len e)) (ht:ZF P e agg n m z) (b o:Nat) (ik:IntKind) (i:Int) (h0:0≤i) (h1:i < len) :
 opV P (indexAt t (.pointer (some ⟨b,o,none⟩)) (.int ik i)) QP w k=k (.pointer (some ⟨b,o+i.toNat*n,none⟩)) w:=ZS (by
 simp [indexAt,asIntOf,Instr.sureAddr,run_underlying hu,Sw.run_sizeOf ht,h0,h1,Addr.add_lit])
theorem EP {t e:TypeId} {agg:Bool} {n m len:Nat} {z:Vl} (hu:P.underlying t=some (.array len e)) (ht:ZF P e agg n m z) (b o:Nat) (kd:IntKind) (l:Nat) (h1:l < len) :
 opV P (Instr.sliceAt t (.pointer (some ⟨b,o,none⟩)) (some (.int kd (l:Int))) none none) QP w k=k (.slice (some ⟨b,o+l*n,none⟩) (len - l) (len - l)) w:=by
 refine ZS ?_
 have h2:(l:Int)≤(len:Int):=by omega
 have h3:(0:Int)≤(l:Int):=by omega
 have h4:len≠l:=by omega
 simp [Instr.sliceAt,run_underlying hu,Instr.sliceBounds,run_sliceBound,Instr.sureAddr,h2,h3,h4,Sw.run_sizeOf ht,Addr.add_lit]
end
theorem B4:∀ (l:List UInt8) (r:BAr),(l.map λ c=>(c.toNat:Int)).foldl (λ r n=>r.push (UInt8.ofNat n.toNat)) r=⟨r.data++l.toArray⟩
 | [],r=>by simp
 | c::l,r=>by
  rw [List.map_cons,List.foldl_cons,B4 l]
  apply ByteArray.ext
  show (r.data.push (UInt8.ofNat ((c.toNat:Int)).toNat))++l.toArray=_
  rw [Int.toNat_natCast,UInt8.ofNat_toNat]
  simp
theorem xS {w:Wd} {QP:PEn} {k:KV} {v:Vl} {l:List UInt8} (h:GO w v l):opV Pg (Go.convert 40 9 v) QP w k=k (.string ⟨l.toArray⟩) w:=by
 refine ZS ?_
 obtain ⟨A,c,rfl,_,_,_,YV⟩:=Zd.open h
 rw [run_convert_bytes_string w _ _ 5 _ _ _ underlying40 underlying5 underlying9]
 cases l with
 | nil=>
  cases A with
  | none=>rfl
  | some a=>
   have:=run_bytesToString (P:=Pg) w a 0 c [] rfl
   exact this
 | cons x l=>
  obtain ⟨b,o,cs,rfl,_,_,_⟩:=YV 0 x rfl
  have hl:=run_loadCells_list (P:=Pg) (w:=w) ⟨b,o,none⟩ ((x::l).map λ c=>Value.int .u8 (c.toNat:Int)) λ j y hy=>by
   rw [List.getElem?_map] at hy
   obtain ⟨z,hz,rfl⟩:=Option.map_eq_some_iff.1 hy
   obtain ⟨b',o',cs',hA,_,hE,rfl⟩:=YV j z hz
   injection hA with hA
   injection hA with h1 h2
   subst h1 h2
   have:=hE 0 (.int .u8 z.toNat) rfl
   rw [Addr.add_lit]
   simpa using this
  have:=run_bytesToString (P:=Pg) w ⟨b,o,none⟩ (x::l).length c ((x::l).map λ c=>(c.toNat:Int)) (by
   rw [List.map_map]
   rw [List.length_map] at hl
   exact hl)
  rw [this,B4]
  congr 2
  apply ByteArray.ext
  show (#[]:Array UInt8)++_=_
  simp
theorem Zj1:ZF Pg 282 true 65 (Pg.bytesOf 282) (.agg (Array.replicate 65 (.int .u8 0))):=YA (by kernel_rfl) underlying282 rfl
theorem PQ (w0:Wd):Ret Pg 210 #[.int .i64 16] w0 λ r w'=>r = .bool true∧w'=w0:=by
 refine ZgH (R:=ZJ _) ?_;unfold n10
 simp (disch:=try exact DI) only [↓PR,QR,simprocAttr,Dk]
 exact ⟨congrArg Value.bool (by decide),by trivial⟩
theorem Rt (w0:Wd) (hE:VE w0):Ret Pg 245 #[.int .u64 16] w0 λ r w'=>r = .int .i64 4∧w'=w0:=by
 refine Zhf (R:=ZJ _) ?_;unfold n49
 have ht:=hE.tz
 unfold T8
 have e1:(IntKind.u64.wrap (IntKind.u64.wrap ((BitVec.ofInt IntKind.u64.bits 16 &&& BitVec.ofInt IntKind.u64.bits (IntKind.u64.wrap (-16))).toNat:Nat)*285870213051353865)) / 2 ^ min (58:Int).toNat IntKind.u64.bits=15:=by decide
 simp (disch:=try exact DI) only [↓PR,QR,simprocAttr,Dk]
 rw [I4 191 true .u64 _ 58 (by decide),e1,BX underlying306 ty5 _ _ _ _ (by decide) (by decide)]
 simp (disch:=try exact DI) only [↓PR,QR,simprocAttr,ht]
 exact ⟨congrArg _ (by decide),by trivial⟩
theorem Zb3 (w0:Wd) (hE:VE w0):Ret Pg 211 #[.int .u64 16] w0 λ r w'=>r = .int .i64 4∧w'=w0:=by
 refine Zhe (R:=ZJ _) ?_;unfold n48
 simp (disch:=try exact DI) only [↓PR,QR,simprocAttr]
 refine Zl (Rt w0 hE) ?_
 rintro _ w ⟨rfl,hw⟩
 rw [hw]
 simp (disch:=try exact DI) only [↓PR,QR,simprocAttr]
 exact ⟨by trivial,by trivial⟩
theorem jb (w0:Wd) (hE:VE w0) (u:Nat) (hu:u < 16):Ret Pg 194 #[.slice none 0 0,.int .u64 u,.int .i64 16,.bool false,.bool false] w0 λ r w'=>r = .tuple #[.slice none 0 0,.string ⟨#[VG u]⟩]∧Ext w0 w':=by
 refine n9s (R:=ZJ _) ?_;unfold n9
 unfold Za3 Za2
 simp (disch:=try exact DI) only [↓PR,QR,simprocAttr,Yp Zj1]
 have oV:=Zz w0 (Array.replicate 65 (.int .u8 0)) 282
 have eV:Ext w0 (w0.alloc (.cells (Array.replicate 65 (.int .u8 0)) 282)):=(Ext.refl w0).alloc _
 generalize (w0.alloc (.cells (Array.replicate 65 (.int .u8 0)) 282))=V at oV eV ⊢
 obtain ⟨b,hbe⟩:∃ b,w0.heap.size=b:=⟨_,rfl⟩
 rw [hbe] at oV ⊢
 have hb:w0.heap.size≤b:=by omega
 refine Zl (PQ V) ?_
 rintro _ w ⟨rfl,hw⟩
 rw [hw]
 clear hw
 unfold Za1
 simp (disch:=try exact DI) only [↓PR,QR,simprocAttr]
 refine Zl (Zb3 V (hE.ext eV)) ?_
 rintro _ w ⟨rfl,hw⟩
 rw [hw]
 clear hw
 unfold ZeH
 simp (disch:=try exact DI) only [↓PR,QR,simprocAttr]
 refine Q0 (λ x y w=>x = .int .u64 u∧y = .int .i64 65∧w=V) (λ _ _ _=>0) ⟨rfl,rfl,rfl⟩ ?_
 rintro _ _ W ⟨rfl,rfl,hW⟩
 rw [hW]
 clear hW
 have d1:decide ((u:Int)≥IntKind.u64.wrap 16)=false:=by
  rw [show IntKind.u64.wrap 16=16 by decide]
  simp
  omega
 have hdig:∀ n:Fin 16,([48,49,50,51,52,53,54,55,56,57,97,98,99,100,101,102,103,104,105,106,107,108,109,110,111,112,113,114,115,116,117,118,119,120,121,122]:List UInt8)[n.1]?=some (VG n.1):=by decide
 have hx:=hdig ⟨u,hu⟩
 unfold ZeG
 simp (disch:=try exact DI) only [↓PR,QR,simprocAttr,d1]
 unfold ZeF
 have w64:IntKind.i64.wrap (65 - 1)=64:=by decide
 have oZ:=Zw (o:=64) oV (.int .u8 ((VG u).toNat:Int))
 have cV:=Za oV
 have c64:V.cell? ⟨b,64,none⟩=some (.int .u8 0):=by rw [cV.1];rfl
 rw [Dl,w64]
 rw [Q2 underlying9 _ .u64 u hx,BX underlying282 ty5 _ _ _ _ (by decide) (by decide)]
 simp (disch:=try exact DI) only [↓PR,QR,simprocAttr,c64,cV.2]
 have eZ:Ext w0 (V.setCell ⟨b,64,none⟩ (.int .u8 ((VG u).toNat:Int))):=eV.setCell hb _
 generalize (V.setCell ⟨b,64,none⟩ (.int .u8 ((VG u).toNat:Int)))=Z at oZ eZ ⊢
 unfold ZeE
 simp (disch:=try exact DI) only [↓PR,QR,simprocAttr]
 unfold ZeD
 have:=EP (P:=Pg) (QP:=Zb (ZJ λ r w'=>r=Value.tuple #[Value.slice none 0 0,Value.string ⟨#[VG u]⟩]∧Ext w0 w')) (w:=Z) (k:=λ t100 w=>opV Pg (Go.convert 40 9 t100) (Zb (ZJ λ r w'=>r=Value.tuple #[Value.slice none 0 0,Value.string ⟨#[VG u]⟩]∧Ext w0 w')) w λ t101 w=>ZJ (λ r w'=>r=Value.tuple #[Value.slice none 0 0,Value.string ⟨#[VG u]⟩]∧Ext w0 w') (.returned (.tuple #[(Value.slice none 0 0),t101])) w) underlying282 ty5 b 0 .i64 64 (by decide)
 refine this.mpr ?_
 have hB:GO Z (.slice (some ⟨b,64,none⟩) 1 1) [VG u]:=⟨_,1,rfl,Nat.le_refl _,by decide,λ _=>⟨b,64,rfl,λ k x hk=>?_⟩⟩
 · rw [show (0+64*1)=64 from rfl,show 65 - 64=1 from rfl,xS hB]
   exact ⟨_,rfl,rfl,eZ⟩
 · cases k with
   | zero=>
    simp only [List.getElem?_cons_zero,Option.some.injEq] at hk
    subst hk
    refine ⟨[.int .u8 ((VG u).toNat:Int)],rfl,λ j v hj=>?_,rfl⟩
    cases j with
    | zero=>
     simp only [List.getElem?_cons_zero,Option.some.injEq] at hj
     subst hj
     rw [(Za oZ).1]
     rfl
    | succ j=>simp at hj
   | succ k=>simp at hk
theorem Kd (w0:Wd) (hE:VE w0) (u:Nat) (hu:u < 16):Ret Pg 133 #[.int .u64 u,.int .i64 16] w0 λ r w'=>r = .string ⟨#[VG u]⟩∧Ext w0 w':=by
 refine Zed (R:=ZJ _) ?_;unfold Zec
 have inner:Ret Pg 160 #[.int .u64 u,.int .i64 16] w0 λ r w'=>r = .string ⟨#[VG u]⟩∧Ext w0 w':=by
  refine n7s (R:=ZJ _) ?_;unfold n7
  simp (disch:=try exact DI) only [↓PR,QR,simprocAttr]
  unfold Zem
  refine zcr (jb w0 hE u hu) λ w e=>?_
  simp (disch:=try exact DI) only [↓PR,QR,simprocAttr]
  exact ⟨by trivial,e⟩
 refine Zl inner ?_
 rintro _ w ⟨rfl,e⟩
 exact ⟨_,rfl,rfl,e⟩
open Go.Shelf
def Jo:Go.Shelf.Ren:=⟨λ | 169=>100 | n=>n,λ | 70=>157 | 9=>9 | 0=>0 | 72=>159 | 37=>40 | 127=>195 | 3=>3 | 5=>5 | n=>n,λ | n=>n⟩
theorem Ib:Go.Proofs.Lays.n169 Pg Jo:={
 mixed:=by kernel_rfl
 f169:=func100.trans (congrArg some (by kernel_rfl))
 t0:=underlying0
 a0:=Tryz.isAgg0
 z0:=Tryz.sizeOf0
 v0:=Tryz.zeroValue0
 t3:=underlying3
 a3:=Tryz.isAgg3
 z3:=Tryz.sizeOf3
 v3:=Tryz.zeroValue3
 t9:=underlying9
 a9:=Tryz.isAgg9
 z9:=Tryz.sizeOf9
 v9:=Tryz.zeroValue9
 t37:=underlying40
 a37:=Tryz.isAgg40
 z37:=Tryz.sizeOf40
 v37:=Tryz.zeroValue40
 t70:=underlying157
 a70:=Tryz.isAgg157
 z70:=Tryz.sizeOf157
 v70:=Tryz.zeroValue157
 t72:=underlying159
 a72:=Tryz.isAgg159
 z72:=Tryz.sizeOf159
 v72:=Tryz.zeroValue159
 t127:=underlying195
 a127:=Tryz.isAgg195
 z127:=Tryz.sizeOf195
 v127:=Tryz.zeroValue195 }
theorem Jn:Builder.Extra Pg Jo:={
 sizeBuilder:=by kernel_rfl
 liesBuilder:=by kernel_rfl
 t5:=underlying5
 a5:=Tryz.isAgg5
 z5:=Tryz.sizeOf5
 v5:=Tryz.zeroValue5
 infoByte:=by kernel_rfl
 cellsByte:=by kernel_rfl
 sizeByte:=by kernel_rfl
 neB5:=by decide }
open Go.RowKit in
theorem Ka (B b:Nat) (l:List UInt8) (w:World) (h:Lib.IsBuilder 159 5 B b (Lib.byteCells l) w) (hBw:B≤w.heap.size) :
 Calls Pg 100 #[.pointer (some ⟨b,0,none⟩)] w λ e w'=>e = .returned (.string ⟨l.toArray⟩)∧Below B w w':=Any.Builder_String_any Ib Jn B b l w h hBw
abbrev GN (B b:Nat) (l:List UInt8) (w:Wd):Prop:=Go.Lib.IsBuilder 159 5 B b (Go.Lib.byteCells l) w
theorem zJ (a b:List UInt8):Go.Lib.byteCells (a++b)=Go.Lib.byteCells a++Go.Lib.byteCells b:=by unfold Go.Lib.byteCells;rw [List.map_append]
theorem GN.ext {B b:Nat} {l:List UInt8} {w w':Wd} (h:GN B b l w) (e:Ext w w'):GN B b l w':=by
 have key:∀ p,Go.Lib.BuilderAt 159 5 B b p (Go.Lib.byteCells l) w→Go.Lib.BuilderAt 159 5 B b p (Go.Lib.byteCells l) w':=λ p ⟨h1,v,h2,h3,h4⟩=>⟨h1,v,e.obj h2,xV h3 e,h4⟩
 exact h.imp (key _) (key _)
theorem Rv {a w w':Wd} (e:Ext a w) (h:Below a.heap.size w w'):Ext a w':=⟨h.os.trans e.os,h.tape.trans e.tape,h.output.trans e.output,Nat.le_trans e.size h.size,λ k hk=>(h.block k hk).trans (e.block k hk)⟩
theorem qb {w:Wd} {B b:Nat} {l:List UInt8} (h:GN B b l w) (s:BAr) (hl:l.length+s.size≤140737488355328) (hB:B≤w.heap.size) :
 Ret Pg 99 #[.pointer (some ⟨b,0,none⟩),.string s] w λ _ w'=>GN B b (l++s.data.toList) w'∧Below B w w':=by
 have hc:(Go.Lib.byteCells l).length+s.size≤140737488355328:=by rw [Go.Lib.byteCells_length];exact hl
 refine Calls.mono (Any.Builder_WriteString (P:=Pg) (ρ:=VC) { AA with } WO B b (Go.Lib.byteCells l) s w h hc hB) ?_
 rintro e w' ⟨rfl,h1,h2⟩
 refine ⟨_,rfl,?_,h2⟩
 unfold GN
 rw [zJ]
 exact .inr h1
theorem AT {w:Wd} {B b:Nat} {l:List UInt8} (h:GN B b l w) (hB:B≤w.heap.size) :
 Ret Pg 100 #[.pointer (some ⟨b,0,none⟩)] w λ r w'=>r = .string ⟨l.toArray⟩∧Below B w w':=by
 refine Calls.mono (Ka B b l w h hB) ?_
 rintro e w' ⟨rfl,h1⟩
 exact ⟨_,rfl,rfl,h1⟩
theorem LM (l:List UInt8) (c:UInt8):zO (l++[c])=zO l++[VG (c.toNat / 16),VG (c.toNat % 16)]:=by
 unfold zO
 rw [List.flatMap_append,List.flatMap_cons,List.flatMap_nil,List.append_nil]
theorem P8:∀ n:Fin 256,((n.1:Nat):Int) / 2 ^ min (4:Int).toNat IntKind.u8.bits=((n.1 / 16:Nat):Int):=by decide
theorem RG:∀ n:Fin 256,IntKind.u8.wrap ((BitVec.ofInt IntKind.u8.bits ((n.1:Nat):Int) &&& BitVec.ofInt IntKind.u8.bits 15).toNat:Nat)=((n.1 % 16:Nat):Int):=by decide
theorem X7 {α:Type} {l:List α} {k:Nat} {x:α} (h:l[k]?=some x):l.take (k+1)=l.take k++[x]:=by
 rw [List.take_add_one,h];rfl
theorem FX (w0:Wd) (hE:VE w0) (v:Vl) (l:List UInt8) (hs:AU w0 v l) (hz:l.length≤1000000000):Ret Pg 102 #[v] w0 λ r w'=>r = .string (mkB (QS l))∧Ext w0 w':=by
 obtain ⟨A,c,rfl,hlc,hcm,hlm,YV⟩:=Zd.open hs
 refine Zg1 (R:=ZJ _) ?_;unfold n35
 by_cases hl:l=[]
 · have d0:((l.length:Int) == 0)=true:=by rw [hl];rfl
   simp (disch:=try exact DI) only [↓PR,QR,simprocAttr,d0]
   exact ⟨by rw [hl];rfl,Ext.refl _⟩
 have hpos:0 < l.length:=List.length_pos_iff.2 hl
 have d0:((l.length:Int) == 0)=false:=by rw [beq_eq_false_iff_ne];omega
 simp (disch:=try exact DI) only [↓PR,QR,simprocAttr,d0]
 unfold Tz
 simp (disch:=try exact DI) only [↓PR,QR,simprocAttr]
 have hB0:GN w0.heap.size w0.heap.size [] (w0.alloc (.cells #[.pointer none,.slice none 0 0] 159)):=Go.Lib.fresh_isBuilder _ _ w0
 have e0:Ext w0 (w0.alloc (.cells #[.pointer none,.slice none 0 0] 159)):=(Ext.refl w0).alloc _
 generalize (w0.alloc (.cells #[.pointer none,.slice none 0 0] 159))=V at hB0 e0 ⊢
 refine ZQ (λ i w=>∃ k:Nat,i = .int .i64 k∧k≤l.length∧Ext w0 w∧GN w0.heap.size w0.heap.size (zO (l.take k)) w) (λ i _=>l.length - (intOf i).toNat) ⟨0,rfl,by omega,e0,hB0⟩ ?_
 rintro _ w ⟨k,rfl,hk,e,hB⟩
 unfold Ty
 rcases ZY hk with ⟨x,hx,_,Yq,Z5⟩ | ⟨hk,_,Z5⟩
 · obtain ⟨b,o,cs,rfl,_,hA,rfl⟩:=YV k x hx
   have h256:x.toNat < 256:=x.toNat_lt
   have q1:=P8 ⟨x.toNat,h256⟩
   have q2:=RG ⟨x.toNat,h256⟩
   simp only at q1 q2
   have w1:∀ n:Nat,n < 16→IntKind.u64.wrap (n:Int)=(n:Int):=λ n hn=>by
    have:∀ n:Fin 16,IntKind.u64.wrap (n.1:Int)=(n.1:Int):=by decide
    exact this ⟨n,hn⟩
   simp (disch:=try exact DI) only [↓PR,QR,simprocAttr,Z5]
   unfold Tx
   simp (disch:=try exact DI) only [↓PR,QR,simprocAttr,hA.c1 e]
   rw [I4 _ _ _ _ 4 (by decide),q1]
   simp (disch:=try exact DI) only [↓PR,QR,simprocAttr]
   rw [w1 _ (by omega)]
   refine zcr (Kd w (hE.ext e) (x.toNat / 16) (by omega)) λ w2 e2=>?_
   unfold Tw
   simp (disch:=try exact DI) only [↓PR,QR,simprocAttr,Dk]
   rw [q2,w1 _ (by omega)]
   refine zcr (Kd w2 (hE.ext (e.trans e2)) (x.toNat % 16) (by omega)) λ w3 e3=>?_
   unfold Tv
   simp (disch:=try exact DI) only [↓PR,QR,simprocAttr]
   have E3:=e.trans (e2.trans e3)
   refine Zl (qb (hB.ext (e2.trans e3)) _ ?_ E3.size) ?_
   · have h1:(zO (l.take k)).length≤2*l.length:=by rw [Ef,List.length_take];omega
     rw [size_append]
     show _+(1+1)≤_
     omega
   rintro _ w4 ⟨hB4,h4⟩
   simp (disch:=try exact DI) only [↓PR,QR,simprocAttr]
   refine ⟨⟨k+1,rfl,Yq,Rv E3 h4,?_⟩,Yf (kd := .i64) Yq⟩
   rw [X7 hx,LM]
   exact hB4
 · subst hk
   rw [List.take_length] at hB
   simp (disch:=try exact DI) only [↓PR,QR,simprocAttr,Z5]
   refine Zl (AT hB e.size) ?_
   rintro _ w2 ⟨rfl,h2⟩
   exact ⟨_,rfl,by unfold QS;rw [if_neg hl];rfl,Rv e h2⟩
def Up:List UInt8:=[109,97,112,112,105,110,103]
def LS:List UInt8:=[109,97,112]
def LR:List UInt8:=[101,110,100]
def xB (n:BAr):List UInt8:=Up++32::n.data.toList
def zw (r:MrD):List UInt8:=LS++32::(r.fr.data.toList++32::r.to.data.toList)
def QC (r:MrD):List (List UInt8):=zw r::(r.fields.map Xu++[LR])
def XH (m:YG):List (List UInt8):=xB m.name::m.rules.flatMap QC
def Za6 (m:YG):List UInt8:=Go.Lib.join (XH m) [10]++[10]
def Ro (m:YG):BAr:=mkB (Za6 m)
def UY (r:MrD):Bool:=Yj r.fr&&(Yj r.to&&r.fields.all YF)
def D3 (m:YG):Bool:=Yj m.name&&m.rules.all UY
structure PsD where
 name:BAr
 done:List MrD
 cur:Option MrD
def Bw:List (List UInt8)→Option BAr
 | [a,b]=>if a=Up∧Yj (mkB b)=true then some (mkB b) else none
 | _=>none
def BZ:List (List UInt8)→Option (BAr×BAr)
 | [a,b,c]=>if a=LS∧(Yj (mkB b)=true∧Yj (mkB c)=true) then some (mkB b,mkB c) else none
 | _=>none
noncomputable def Wi (s:PsD) (i:Nat) (l:List UInt8):Option PsD:=
 if i=0 then (Bw (Yv 32 l)).map λ n=>{ s with name:=n }
 else match s.cur with
  | some r=>if l=LR then some ⟨s.name,s.done++[r],none⟩ else (Qt l).map λ x=>⟨s.name,s.done,some ⟨r.fr,r.to,r.fields++[x]⟩⟩
  | none=>(BZ (Yv 32 l)).map λ q=>⟨s.name,s.done,some ⟨q.1,q.2,[]⟩⟩
noncomputable def goQ (s:PsD) (i:Nat):List (List UInt8)→Option YG×Nat
 | []=>(none,i+1)
 | [l]=>if l=[]∧(0 < i∧s.cur=none) then (some ⟨s.name,s.done⟩,0) else (none,i+1)
 | l::x::L=>match Wi s i l with
  | some s'=>goQ s' (i+1) (x::L)
  | none=>(none,i+1)
def Cg:PsD:=⟨ByteArray.empty,[],none⟩
noncomputable def yX (s:BAr):Option YG×Nat:=goQ Cg 0 (Yv 10 s.data.toList)
theorem D7 {s s':PsD} {i:Nat} {l:List UInt8} {L:List (List UInt8)} (hL:L≠[]) (h:Wi s i l=some s'):goQ s i (l::L)=goQ s' (i+1) L:=by
 cases L with
 | nil=>exact absurd rfl hL
 | cons x L=>rw [goQ,h]
theorem Nr {s:PsD} {i:Nat} {l:List UInt8} {L:List (List UInt8)} (hL:L≠[]) (h:Wi s i l=none):goQ s i (l::L)=(none,i+1):=by
 cases L with
 | nil=>exact absurd rfl hL
 | cons x L=>rw [goQ,h]
theorem WH (l:List UInt8):(mkB l).data.toList=l:=by unfold mkB;exact MG l
def Xs (c:UInt8):List (List UInt8)→List (List UInt8)
 | []=>[]
 | [x]=>[x]
 | x::y::r=>(x++[c])::Xs c (y::r)
theorem MB (sep:List UInt8) (sv k:Nat) (s:List UInt8):Go.Lib.splitK sep sv k s≠[]:=by
 cases k with
 | zero=>simp [Go.Lib.splitK]
 | succ k=>unfold Go.Lib.splitK;split<;>simp
theorem DK (c:UInt8) (x:List UInt8) {l:List (List UInt8)} (h:l≠[]):Xs c (x::l)=(x++[c])::Xs c l:=by
 cases l with
 | nil=>exact absurd rfl h
 | cons y r=>rfl
theorem FJ {c:UInt8} {L:List (List UInt8)} {x:List UInt8} (h:Xs c L=[x]) (hL:L≠[]):L=[x]:=by
 cases L with
 | nil=>exact absurd rfl hL
 | cons a l=>
  cases l with
  | nil=>exact h
  | cons b r=>
   cases r<;>simp [Xs] at h
theorem zz (c:UInt8):∀ s:List UInt8,Go.Lib.splitK [c] 1 (Go.Lib.count s [c]) s=Xs c (Yv c s)
 | []=>by rw [Go.Lib.count_one];rfl
 | b::l=>by
  have ih:=zz c l
  by_cases h:b=c
  · subst h
    rw [Go.Lib.count_cons_eq,Nat.add_comm,Go.Lib.splitK,Ei,if_neg (by decide),W7,DK _ _ (VL _ _),← ih]
    rfl
  · rw [Go.Lib.count_cons_ne b c l h]
    cases hk:Go.Lib.count l [c] with
    | zero=>
     rw [hk] at ih
     have h1:=FJ ih.symm (VL _ _)
     rw [XY h h1]
     rfl
    | succ k=>
     rw [hk] at ih
     have hge:=Go.Lib.index_ge l [c]
     have hm:Go.Lib.index l [c] ≠ -1:=λ e=>by rw [Go.Lib.count_miss e] at hk;cases hk
     obtain ⟨i,hi⟩:∃ i:Nat,Go.Lib.index l [c]=i:=⟨(Go.Lib.index l [c]).toNat,by omega⟩
     have n1:¬ (((i:Int) == -1)=true):=λ e=>by have:=beq_iff_eq.1 e;omega
     have n2:¬ ((((i:Int)+1) == -1)=true):=λ e=>by have:=beq_iff_eq.1 e;omega
     have t2:((i:Int)+1).toNat=i+1:=by omega
     rw [Go.Lib.splitK,hi,if_neg n1] at ih
     rw [Go.Lib.splitK,Ej l h,hi,if_neg n1,if_neg n2,t2]
     cases hL:Yv c l with
     | nil=>exact absurd hL (VL _ _)
     | cons x r=>
      cases r with
      | nil=>
       rw [hL] at ih
       injection ih with _ h2
       exact absurd h2 (MB _ _ _ _)
      | cons y r=>
       rw [hL] at ih
       rw [XY h hL]
       injection ih with h1 h2
       show _=((b::x)++[c])::Xs c (y::r)
       rw [← h2,List.cons_append,← h1]
       simp only [Int.toNat_natCast,List.length_singleton,List.take_succ_cons,List.drop_succ_cons]
theorem Fv (c:UInt8) (s:BAr):Go.Lib.splitB ⟨#[c]⟩ 1 (Go.Lib.countB s ⟨#[c]⟩) s=(Xs c (Yv c s.data.toList)).map mkB:=by
 have h:=Go.Lib.splitB_data ⟨#[c]⟩ 1 (Go.Lib.countB s ⟨#[c]⟩) s
 have hs:Go.Lib.splitK [c] 1 (Go.Lib.countB s ⟨#[c]⟩) s.data.toList=Xs c (Yv c s.data.toList):=zz c s.data.toList
 have h:(Go.Lib.splitB ⟨#[c]⟩ 1 (Go.Lib.countB s ⟨#[c]⟩) s).map (·.data.toList)=Xs c (Yv c s.data.toList):=h.trans hs
 rw [← h,List.map_map]
 have:(mkB ∘ λ x:BAr=>x.data.toList)=id:=by funext x;rfl
 rw [this,List.map_id]
theorem Gi (c:UInt8):∀ L:List (List UInt8),(Xs c L).length=L.length
 | []=>rfl
 | [_]=>rfl
 | x::y::r=>by
  have:=Gi c (y::r)
  show (Xs c (y::r)).length+1=_
  rw [this]
  rfl
theorem Bp {c:UInt8}:∀ {L:List (List UInt8)} {k:Nat} {x:List UInt8},L[k]?=some x→k+1 < L.length→(Xs c L)[k]?=some (x++[c])
 | [],_,_,h,_=>by cases h
 | [_],k,_,_,hk=>by simp at hk
 | a::b::r,0,x,h,_=>by
  injection h with h
  subst h
  rfl
 | a::b::r,k+1,x,h,hk=>Bp (L:=b::r) (k:=k) h (by simpa using hk)
theorem xk {c:UInt8}:∀ {L:List (List UInt8)} {k:Nat} {x:List UInt8},L[k]?=some x→k+1=L.length→(Xs c L)[k]?=some x
 | [],_,_,h,_=>by cases h
 | [_],0,_,h,_=>h
 | [_],k+1,_,_,hk=>by simp at hk
 | a::b::r,0,x,h,hk=>by simp at hk
 | a::b::r,k+1,x,h,hk=>xk (L:=b::r) (k:=k) h (by simpa using hk)
theorem G2 {c:UInt8}:∀ {l x:List UInt8},x∈Yv c l→c ∉ x
 | [],x,h=>by
  rw [show Yv c []=[[]] from rfl,List.mem_singleton] at h
  subst h
  simp
 | b::l,x,h=>by
  by_cases hb:b=c
  · subst hb
    rw [W7] at h
    rcases List.mem_cons.1 h with rfl | h
    · simp
    · exact G2 h
  · cases hL:Yv c l with
    | nil=>exact absurd hL (VL _ _)
    | cons y r=>
     rw [XY hb hL] at h
     rcases List.mem_cons.1 h with rfl | h
     · intro hm
       rcases List.mem_cons.1 hm with hm | hm
       · exact hb hm.symm
       · exact G2 (l:=l) (by rw [hL];exact List.mem_cons_self ..) hm
     · exact G2 (l:=l) (by rw [hL];exact List.mem_cons_of_mem _ h)
theorem G3 {c:UInt8}:∀ {l x:List UInt8},x∈Yv c l→x.length≤l.length
 | [],x,h=>by
  rw [show Yv c []=[[]] from rfl,List.mem_singleton] at h
  subst h
  exact Nat.le_refl _
 | b::l,x,h=>by
  by_cases hb:b=c
  · subst hb
    rw [W7] at h
    rcases List.mem_cons.1 h with rfl | h
    · simp
    · exact Nat.le_succ_of_le (G3 h)
  · cases hL:Yv c l with
    | nil=>exact absurd hL (VL _ _)
    | cons y r=>
     rw [XY hb hL] at h
     rcases List.mem_cons.1 h with rfl | h
     · rw [List.length_cons,List.length_cons]
       exact Nat.succ_le_succ (G3 (l:=l) (by rw [hL];exact List.mem_cons_self ..))
     · exact Nat.le_succ_of_le (G3 (l:=l) (by rw [hL];exact List.mem_cons_of_mem _ h))
theorem Ih (c:UInt8) (x:List UInt8):Go.Lib.hasSuffix (x++[c]) [c]=true∧Go.Lib.trimSuffix (x++[c]) [c]=x:=by
 have h:Go.Lib.hasSuffix (x++[c]) [c]=true:=by simp [Go.Lib.hasSuffix]
 refine ⟨h,?_⟩
 unfold Go.Lib.trimSuffix
 rw [h]
 simp
theorem ME {c:UInt8} {x:List UInt8} (hx:c ∉ x):Go.Lib.hasSuffix x [c]=false∧Go.Lib.trimSuffix x [c]=x:=by
 have h:Go.Lib.hasSuffix x [c]=false:=by
  cases hs:Go.Lib.hasSuffix x [c] with
  | false=>rfl
  | true=>
   exfalso
   simp [Go.Lib.hasSuffix] at hs
   exact hx (hs.mem (List.mem_singleton.2 rfl))
 refine ⟨h,?_⟩
 unfold Go.Lib.trimSuffix
 rw [h]
 simp
def jZ (b d e:Vl) (R:RT) (w:Wd):Prop:=
 Zq (λ (a:Vl) (w:Wd)=>
 ZD b a (.bool false) λ f=>
 R (.returned f) w) λ c=>
 Zp b true (
 ZD d (.bool true) e λ a=>
 c a w) (
 c undef w)
def BL (d e b:Vl) (R:RT) (w:Wd):Prop:=
 Zq (λ (a:Vl) (w:Wd)=>
 jZ e b a R w) λ c=>
 Zp b false (
 opV Pg (fieldAt 43 d 2) (Zb R) w λ f w=>
 opV Pg (loadAt 9 f) (Zb R) w λ g w=>
 opV Pg (buildSlice 94 1 #[(0,g)]) (Zb R) w λ h w=>
 Zg Pg 52 #[h] (Zb R) w λ a w=>
 c a w) (
 c undef w)
def BM (c d e f:Vl) (R:RT) (w:Wd):Prop:=
 ZD e f (.bool false) λ a=>
 Zq (λ (g:Vl) (w:Wd)=>
 BL c a g R w) λ b=>
 Zp a true (
 opV Pg (fieldAt 105 d 0) (Zb R) w λ h w=>
 opV Pg (loadAt 4 h) (Zb R) w λ i w=>
 opV Pg (Op.unary .not i) (Zb R) w λ j w=>
 b j w) (
 b undef w)
def IQ (b e f g:Vl) (R:RT) (w:Wd):Prop:=
 ZD f g (.bool false) λ c=>
 Zq (λ (a:Vl) (w:Wd)=>
 BM b e c a R w) λ d=>
 Zp c true (
 opV Pg (fieldAt 43 b 0) (Zb R) w λ h w=>
 opV Pg (loadAt 9 h) (Zb R) w λ i w=>
 opV Pg (Zh .neq 9 true i (.string { data := #[101,110,100] })) (Zb R) w λ a w=>
 d a w) (
 d undef w)
def Oy (b e f g:Vl) (R:RT) (w:Wd):Prop:=
 ZD f g (.bool false) λ c=>
 Zq (λ (a:Vl) (w:Wd)=>
 IQ b e c a R w) λ d=>
 Zp c true (
 opV Pg (fieldAt 43 b 0) (Zb R) w λ h w=>
 opV Pg (loadAt 9 h) (Zb R) w λ i w=>
 opV Pg (buildSlice 94 1 #[(0,i)]) (Zb R) w λ j w=>
 Zg Pg 52 #[j] (Zb R) w λ a w=>
 d a w) (
 d undef w)
def Oz (b c d:Vl) (R:RT) (w:Wd):Prop:=
 Zq (λ (a:Vl) (w:Wd)=>
 Oy b c d a R w) λ e=>
 Zp d true (
 opV Pg (loadAt 43 b) (Zb R) w λ f w=>
 opV Pg (loadAt 105 c) (Zb R) w λ g w=>
 Zg Pg 97 #[f,g] (Zb R) w λ a w=>
 e a w) (
 e undef w)
def TH (d e:Vl) (a:WPr) (f:KW) (R:RT) (w:Wd):Prop:=
 qV Pg a (Instr.lookup 106 d e true) λ b=>
 qV Pg a (Instr.extract b 0) λ g=>
 qV Pg a (Instr.extract b 1) λ h=>
 opV Pg (Instr.alloc 105 true (.tuple #[])) (Zb R) w λ c w=>
 a w∧(
 opU Pg (storeAt 105 c g) (Zb R) w λ w=>
 a w∧(
 f c h w))
def TI (b d e:Vl) (a:WPr) (f:KW) (R:RT) (w:Wd):Prop:=
 qV Pg a (Instr.lookup 106 d e true) λ c=>
 qV Pg a (Instr.extract c 0) λ g=>
 qV Pg a (Instr.extract c 1) λ h=>
 opU Pg (storeAt 105 b g) (Zb R) w λ w=>
 a w∧(
 f b h w)
def TJ (d:Vl) (a:WPr) (R:RT) (w:Wd):Prop:=
 qV Pg a (fieldAt 43 d 1) λ g=>
 qV Pg a (loadAt 39 g) λ e=>
 Zq (λ (b:Vl) (h:Vl) (w:Wd)=>
 Oz d b h R w) λ f=>
 (
 Zg Pg 57 #[] (Zb R) w λ c w=>
 X4 a w λ i w=>
 TH c e i f R w)∧(
 opV Pg (Instr.alloc 105 true (.tuple #[])) (Zb R) w λ b w=>
 a w∧(
 Zg Pg 57 #[] (Zb R) w λ c w=>
 X4 a w λ j w=>
 TI b c e j f R w))
def n42 (a:Vl) (R:RT) (w:Wd):Prop:=
 opV Pg (Instr.box 43 a) (Zb R) w λ b w=>
 Ye w λ c w=>
 TJ b c R w
theorem Zg8 {t0:Vl} {R:RT} {w:Wd} (h:n42 t0 R w):Calls Pg 58 #[t0] w R:=by
 refine yD func58 ?_
 refine zs<|zr<|yv h λ _ w h=>zm<|zn<|zk<|zs<|yh [3,4,5,6,7,8,9,10,11] h λ C hC h=>ye 1 hC h λ _ h=>?_
 refine ye 2 hC h λ _ h=>?_
 refine Qr h (λ K2 hK h=>?_)
 refine Q5 [3,4,5,6,9,10,11] (λ ρ w=>K2 (ρ 3) (ρ 4) w) (λ T hT=>?_) (λ σ w h=>?_)
 · obtain ⟨h0,h1⟩:=h
   refine Y7 0 7 rfl rfl (by kernel_rfl) (λ _ _=>rfl) (λ _ _=>rfl) ?_ ?_
   · have h:=h0
     refine yc h c57 λ _ w h=>zn ?_
     obtain ⟨C9,hs,hC,h⟩:=h
     refine ⟨C9,hs,hC,?_⟩
     refine ye 3 hC h λ _ h=>?_
     refine yw 4 hC ?_
     refine ye 5 hC h λ _ h=>?_
     refine ye 6 hC h λ _ h=>?_
     refine yo 7 ?_
     refine yv h λ _ w h=>zn ?_
     obtain ⟨hC,h⟩:=h
     refine ⟨hC,?_⟩
     refine yo 8 ?_
     refine yu h λ w h=>zn ?_
     obtain ⟨hC,h⟩:=h
     refine ⟨hC,?_⟩
     refine yw 9 hC ?_
     refine yz ?_
     exact zt hT h
   have h:=h1
   refine yv h λ _ w h=>zn ?_
   obtain ⟨hC,h⟩:=h
   refine ⟨_,λ _ h=>h,hC,?_⟩
   refine yr 0 ?_
   refine yc h c57 λ _ w h=>zn ?_
   obtain ⟨C10,hs,hC,h⟩:=h
   refine ⟨C10,hs,hC,?_⟩
   refine ye 3 hC h λ _ h=>?_
   refine yw 4 hC ?_
   refine ye 5 hC h λ _ h=>?_
   refine ye 6 hC h λ _ h=>?_
   refine yo 8 ?_
   refine yu h λ w h=>zn ?_
   obtain ⟨hC,h⟩:=h
   refine ⟨hC,?_⟩
   refine yw 9 hC ?_
   refine yz ?_
   exact zt hT h
 subst hK
 refine zk<|zs<|Zr<|yG 2<|zm<|zm<|zn<|yg1 3 1 true [14,15,16] 16 h (λ _ T hT h=>?_) λ σ w h=>?_
 · refine yv h λ _ w h=>yv h λ _ w h=>yc h c97 λ _ w h=>zn ?_
   exact zt hT h
 refine yG 2<|yp h λ _ h=>zm<|zn<|yg1 4 6 true [19,20,21,22] 22 h (λ _ T hT h=>?_) λ σ w h=>?_
 · refine yv h λ _ w h=>yv h λ _ w h=>yS h λ _ w h=>yc h c52 λ _ w h=>zn ?_
   exact zt hT h
 refine yG 2<|yp h λ _ h=>zm<|zn<|yg1 3 12 true [25,26,27] 27 h (λ _ T hT h=>?_) λ σ w h=>?_
 · refine yv h λ _ w h=>yv h λ _ w h=>yb h λ _ w h=>zn ?_
   exact zt hT h
 refine yG 2<|yp h λ _ h=>zm<|zn<|yg1 4 17 true [30,31,32,33] 33 h (λ _ T hT h=>?_) λ σ w h=>?_
 · refine yv h λ _ w h=>yv h λ _ w h=>yv h λ _ w h=>zm<|zn ?_
   exact zt hT h
 refine yg1 4 21 false [34,35,36,37] 37 h (λ _ T hT h=>?_) λ σ w h=>?_
 · refine yv h λ _ w h=>yv h λ _ w h=>yS h λ _ w h=>yc h c52 λ _ w h=>zn ?_
   exact zt hT h
 refine yg1 1 17 true [38] 38 h (λ _ T hT h=>?_) λ σ w h=>?_
 · refine yp h λ _ h=>zn ?_
   exact zt hT h
 exact yG 2<|yp h λ _ h=>zm<|zn<|ZK<|zk<|Zi<|Zk rfl rfl h
def TK (b:Vl) (a:WPr) (R:RT) (w:Wd):Prop:=
 qV Pg a (fieldAt 43 b 0) λ c=>
 qV Pg a (loadAt 9 c) λ d=>
 qV Pg a (fieldAt 43 b 2) λ e=>
 qV Pg a (loadAt 9 e) λ f=>
 qV Pg a (fieldAt 43 b 3) λ g=>
 qV Pg a (loadAt 3 g) λ h=>
 Zg Pg 101 #[h] (Zb R) w λ i w=>
 a w∧(
 opV Pg (buildSlice 94 4 #[(0,d),(1,(.string { data := #[97,100,100] })),(2,f),(3,i)]) (Zb R) w λ j w=>
 a w∧(
 R (.returned j) w))
def TL (b:Vl) (a:WPr) (R:RT) (w:Wd):Prop:=
 qV Pg a (fieldAt 43 b 0) λ c=>
 qV Pg a (loadAt 9 c) λ d=>
 qV Pg a (fieldAt 43 b 4) λ e=>
 qV Pg a (loadAt 3 e) λ f=>
 Zg Pg 101 #[f] (Zb R) w λ g w=>
 a w∧(
 opV Pg (buildSlice 94 3 #[(0,d),(1,(.string { data := #[118,97,108,117,101] })),(2,g)]) (Zb R) w λ h w=>
 a w∧(
 R (.returned h) w))
def TM (b:Vl) (a:WPr) (R:RT) (w:Wd):Prop:=
 qV Pg a (fieldAt 43 b 0) λ c=>
 qV Pg a (loadAt 9 c) λ d=>
 qV Pg a (fieldAt 43 b 5) λ e=>
 qV Pg a (loadAt 40 e) λ f=>
 Zg Pg 102 #[f] (Zb R) w λ g w=>
 a w∧(
 opV Pg (buildSlice 94 3 #[(0,d),(1,(.string { data := #[98,121,116,101,115] })),(2,g)]) (Zb R) w λ h w=>
 a w∧(
 R (.returned h) w))
def TN (b c d e:Vl) (a:WPr) (QL:KW) (R:RT) (w:Wd):Prop:=
 qV Pg a (Zh .add 9 false d e) λ f=>
 opV Pg (buildSlice 94 1 #[(0,f)]) (Zb R) w λ g w=>
 a w∧(
 opV Pg (Builtin.append_ #[94,94] 94 #[b,g]) (Zb R) w λ h w=>
 a w∧(
 opV Pg (Zh .add 3 true c (.int .i64 1)) (Zb R) w λ i w=>
 QL h i w))
def TO (b c d e f:Vl) (a:WPr) (QL:KW) (R:RT) (w:Wd):Prop:=
 qV Pg a (Zh .add 9 false d e) λ g=>
 qV Pg a (Zh .add 9 true g (.string { data := #[58] })) λ h=>
 Zg Pg 101 #[f] (Zb R) w λ i w=>
 a w∧(
 TN b c h i a QL R w)
def TP (b c d e f:Vl) (a:WPr) (QL:KW) (R:RT) (w:Wd):Prop:=
 qV Pg a (Zh .add 9 true d (.string { data := #[45] })) λ g=>
 Zg Pg 101 #[e] (Zb R) w λ h w=>
 a w∧(
 TO b c g h f a QL R w)
def TQ (c b d:Vl) (a:WPr) (QL:KW) (R:RT) (w:Wd):Prop:=
 qV Pg a (fieldAt 78 b 0) λ e=>
 qV Pg a (loadAt 3 e) λ f=>
 qV Pg a (fieldAt 78 b 1) λ g=>
 qV Pg a (loadAt 3 g) λ h=>
 qV Pg a (fieldAt 78 b 2) λ i=>
 qV Pg a (loadAt 3 i) λ j=>
 Zg Pg 101 #[f] (Zb R) w λ k w=>
 a w∧(
 TP c d k h j a QL R w)
def TR (c d a:Vl) (QL:KW) (R:RT) (w:Wd):Prop:=
 opV Pg (indexAt 41 d a) (Zb R) w λ e w=>
 opV Pg (loadAt 78 e) (Zb R) w λ f w=>
 opV Pg (Instr.alloc 78 true (.tuple #[])) (Zb R) w λ b w=>
 opU Pg (storeAt 78 b f) (Zb R) w λ w=>
 Ye w λ g w=>
 TQ c b a g QL R w
def TS (a:Vl) (R:RT) (w:Wd):Prop:=
 opV Pg (fieldAt 43 a 0) (Zb R) w λ b w=>
 opV Pg (loadAt 9 b) (Zb R) w λ c w=>
 opV Pg (buildSlice 94 2 #[(0,c),(1,(.string { data := #[102,105,116] }))]) (Zb R) w λ d w=>
 R (.returned d) w
def OA (a:Vl) (R:RT) (w:Wd):Prop:=
 opV Pg (fieldAt 43 a 0) (Zb R) w λ e w=>
 opV Pg (loadAt 9 e) (Zb R) w λ f w=>
 opV Pg (fieldAt 43 a 2) (Zb R) w λ g w=>
 opV Pg (loadAt 9 g) (Zb R) w λ h w=>
 opV Pg (buildSlice 94 3 #[(0,f),(1,(.string { data := #[116,97,98,108,101] })),(2,h)]) (Zb R) w λ i w=>
 opV Pg (fieldAt 43 a 6) (Zb R) w λ j w=>
 opV Pg (loadAt 41 j) (Zb R) w λ b w=>
 opV Pg (Builtin.len_ #[41] 3 #[b]) (Zb R) w λ k w=>
 U0 (λ c d w QL=>
 opV Pg (Zh .lss 3 false d k) (Zb R) w λ l w=>
 Zu l (
 TR c b d QL R w) (
 R (.returned c) w)) i (.int .i64 0) w
def OB (a:Vl) (R:RT) (w:Wd):Prop:=
 opV Pg (fieldAt 43 a 0) (Zb R) w λ b w=>
 opV Pg (loadAt 9 b) (Zb R) w λ c w=>
 opV Pg (fieldAt 43 a 2) (Zb R) w λ d w=>
 opV Pg (loadAt 9 d) (Zb R) w λ e w=>
 opV Pg (buildSlice 94 3 #[(0,c),(1,(.string { data := #[110,101,115,116,101,100] })),(2,e)]) (Zb R) w λ f w=>
 R (.returned f) w
def CZ (a b:Vl) (R:RT) (w:Wd):Prop:=
 opV Pg (Zh .eql 39 true b (.int .i64 6)) (Zb R) w λ c w=>
 Zu c (
 OB a R w) (
 opV Pg (Zh .eql 39 true b (.int .i64 7)) (Zb R) w λ d w=>
 Zu d (
 TS a R w) (
 OA a R w))
def yM (a b:Vl) (R:RT) (w:Wd):Prop:=
 opV Pg (Zh .eql 39 true b (.int .i64 3)) (Zb R) w λ c w=>
 Zu c (
 Ye w λ d w=>
 TL a d R w) (
 opV Pg (Zh .eql 39 true b (.int .i64 4)) (Zb R) w λ e w=>
 Zu e (
 Ye w λ f w=>
 TM a f R w) (
 CZ a b R w))
def OC (a:Vl) (R:RT) (w:Wd):Prop:=
 opV Pg (fieldAt 43 a 0) (Zb R) w λ b w=>
 opV Pg (loadAt 9 b) (Zb R) w λ c w=>
 opV Pg (fieldAt 43 a 2) (Zb R) w λ d w=>
 opV Pg (loadAt 9 d) (Zb R) w λ e w=>
 opV Pg (buildSlice 94 3 #[(0,c),(1,(.string { data := #[99,111,112,121] })),(2,e)]) (Zb R) w λ f w=>
 R (.returned f) w
def n43 (c:Vl) (R:RT) (w:Wd):Prop:=
 opV Pg (Instr.box 43 c) (Zb R) w λ a w=>
 opV Pg (fieldAt 43 a 1) (Zb R) w λ d w=>
 opV Pg (loadAt 39 d) (Zb R) w λ b w=>
 opV Pg (Zh .eql 39 true b (.int .i64 1)) (Zb R) w λ e w=>
 Zu e (
 OC a R w) (
 opV Pg (Zh .eql 39 true b (.int .i64 2)) (Zb R) w λ f w=>
 Zu f (
 Ye w λ g w=>
 TK a g R w) (
 yM a b R w))
set_option maxHeartbeats 40000000 in
theorem Zg9 {t0:Vl} {R:RT} {w:Wd} (h:n43 t0 R w):Calls Pg 60 #[t0] w R:=by
 refine yD func60 ?_
 refine zs<|zr<|yv h λ _ w h=>zm<|zn<|zk<|zs<|zs<|zr<|yv h λ _ w h=>yv h λ _ w h=>zn<|zk<|Zn<|zs ?_
 refine zr<|yb h λ _ w h=>zm<|zn<|zk<|yC h (λ h=>zs<|zr<|yv h λ _ w h=>yv h λ _ w h=>yv h λ _ w h=>yv h λ _ w h=>yS h λ _ w h=>zm<|zn<|zk<|Zi<|Zj<|Zc<|Zk rfl rfl h) λ h=>zs<|zr<|yb h λ _ w h=>zm<|zn<|zk<|yC h (λ h=>?_) λ h=>?_
 · refine zs<|yh [2,17,18,19,20,21,22,23,24] h λ C hC h=>ye 0 hC h λ _ h=>?_
   refine ye 1 hC h λ _ h=>?_
   refine ye 2 hC h λ _ h=>?_
   refine ye 3 hC h λ _ h=>?_
   refine ye 4 hC h λ _ h=>?_
   refine ye 5 hC h λ _ h=>?_
   refine yo 6 ?_
   refine yc h M4 λ _ w h=>zn ?_
   obtain ⟨hC,h⟩:=h
   refine ⟨hC,?_⟩
   refine yo 7 ?_
   refine yS h λ _ w h=>zn ?_
   obtain ⟨hC,h⟩:=h
   refine ⟨hC,?_⟩
   refine yw 8 hC ?_
   exact yz<|zk<|Zi<|Zj<|Zc<|Zk rfl rfl h
 refine zs<|zr<|yb h λ _ w h=>zm<|zn<|zk<|yC h (λ h=>?_) λ h=>?_
 · refine zs<|yh [2,27,28,29,30,31,32] h λ C hC h=>ye 0 hC h λ _ h=>?_
   refine ye 1 hC h λ _ h=>?_
   refine ye 2 hC h λ _ h=>?_
   refine ye 3 hC h λ _ h=>?_
   refine yo 4 ?_
   refine yc h M4 λ _ w h=>zn ?_
   obtain ⟨hC,h⟩:=h
   refine ⟨hC,?_⟩
   refine yo 5 ?_
   refine yS h λ _ w h=>zn ?_
   obtain ⟨hC,h⟩:=h
   refine ⟨hC,?_⟩
   refine yw 6 hC ?_
   exact yz<|zk<|Zi<|Zj<|Zc<|Zk rfl rfl h
 refine zs<|zr<|yb h λ _ w h=>zm<|zn<|zk<|yC h (λ h=>?_) λ h=>?_
 · refine zs<|yh [2,35,36,37,38,39,40] h λ C hC h=>ye 0 hC h λ _ h=>?_
   refine ye 1 hC h λ _ h=>?_
   refine ye 2 hC h λ _ h=>?_
   refine ye 3 hC h λ _ h=>?_
   refine yo 4 ?_
   refine yc h Zfu λ _ w h=>zn ?_
   obtain ⟨hC,h⟩:=h
   refine ⟨hC,?_⟩
   refine yo 5 ?_
   refine yS h λ _ w h=>zn ?_
   obtain ⟨hC,h⟩:=h
   refine ⟨hC,?_⟩
   refine yw 6 hC ?_
   exact yz<|zk<|Zi<|Zj<|Zc<|Zk rfl rfl h
 refine zs<|zr<|yb h λ _ w h=>zm<|zn<|zk<|yC h (λ h=>zs<|zr<|yv h λ _ w h=>yv h λ _ w h=>yv h λ _ w h=>yv h λ _ w h=>yS h λ _ w h=>zm<|zn<|zk<|Zi<|Zj<|Zc<|Zk rfl rfl h) λ h=>zs<|zr<|yb h λ _ w h=>zm<|zn<|zk<|yC h (λ h=>zs<|zr<|yv h λ _ w h=>yv h λ _ w h=>yS h λ _ w h=>zm<|zn<|zk<|Zi<|Zj<|Zc<|Zk rfl rfl h) λ h=>?_
 refine Zo<|Zf<|zk<|zs<|zr<|yv h λ _ w h=>yv h λ _ w h=>yv h λ _ w h=>yv h λ _ w h=>yS h λ _ w h=>zm<|zn<|zk<|zs<|zs ?_
 refine zr<|yv h λ _ w h=>yv h λ _ w h=>yx h λ _ w h=>zm<|zn<|zk<|Zn<|yl2 [3,5,61,62,63,64,65,66,67,68,69,70,71,72,73,74,75,76,77,78,79,80,81] 3 61 h λ σ w next h=>zs<|zr<|yb h λ _ w h=>zn<|zk<|zs ?_
 refine yC h (λ h=>?_) λ h=>?_
 · refine Zo<|zk<|zs<|Zn<|zs<|zr<|yv h λ _ w h=>yv h λ _ w h=>yv h λ _ w h=>yu h λ w h=>zn<|zk<|yh [3,65,66,67,68,69,70,71,72,73,74,75,76,77,78,79,80] h λ C hC h=>yw 0 hC ?_
   refine ye 1 hC h λ _ h=>?_
   refine ye 2 hC h λ _ h=>?_
   refine ye 5 hC h λ _ h=>?_
   refine ye 6 hC h λ _ h=>?_
   refine ye 10 hC h λ _ h=>?_
   refine ye 11 hC h λ _ h=>?_
   refine yo 3 ?_
   refine yc h M4 λ _ w h=>zn ?_
   obtain ⟨hC,h⟩:=h
   refine ⟨hC,?_⟩
   refine ye 4 hC h λ _ h=>?_
   refine yo 7 ?_
   refine yc h M4 λ _ w h=>zn ?_
   obtain ⟨hC,h⟩:=h
   refine ⟨hC,?_⟩
   refine ye 8 hC h λ _ h=>?_
   refine ye 9 hC h λ _ h=>?_
   refine yo 12 ?_
   refine yc h M4 λ _ w h=>zn ?_
   obtain ⟨hC,h⟩:=h
   refine ⟨hC,?_⟩
   refine ye 13 hC h λ _ h=>?_
   refine yo 14 ?_
   refine yS h λ _ w h=>zn ?_
   obtain ⟨hC,h⟩:=h
   refine ⟨hC,?_⟩
   refine yo 15 ?_
   refine yx h λ _ w h=>zn ?_
   obtain ⟨hC,h⟩:=h
   refine ⟨hC,?_⟩
   refine yw 16 hC ?_
   exact yz<|Zf<|zk<|zr<|yb h λ _ w h=>zm<|zn<|zk<|⟨rfl,h⟩
 exact ZR<|Ze<|Ze<|Zx<|zk<|zs<|zr<|zm<|zm<|zn<|zk<|Zi<|Zk rfl rfl h
theorem EL (w:Wd) (s:BAr):Ret Pg 91 #[.string s] w λ r w'=>r = .bool (!Yj s)∧Ext w w':=by
 refine Zg7 (R:=ZJ _) ?_;unfold n41
 refine zcr (Ud w s) λ w1 e1=>?_
 simp (disch:=try exact DI) only [↓PR,QR,simprocAttr]
 exact ⟨by trivial,e1⟩
theorem yQ (w0:Wd) (v:Vl) (l:List BAr) (hs:Uf w0 v l):Ret Pg 52 #[v] w0 λ r w'=>r = .bool (l.all Yj)∧Ext w0 w':=by
 refine Zg6 (R:=ZJ _) ?_;unfold n40
 refine zcr (Ub w0 v l _ _ (λ s=>!Yj s) hs c91 λ w' v y _ e' hv=>by subst hv;exact EL w' y) λ w1 e1=>?_
 simp (disch:=try exact DI) only [↓PR,QR,simprocAttr]
 refine ⟨?_,e1⟩
 congr 1
 rw [List.all_eq_not_any_not]
theorem Uw {base:Nat} (w:Wd) (l:List BAr) (hl:l.length≤1000) (hb:base≤w.heap.size):Ue (w.alloc (.cells (l.map Value.string).toArray 9)) base (.slice (some ⟨w.heap.size,0,none⟩) l.length l.length) l:=by
 have:=(ZT.new w 9 1 Xi l (λ _=>rfl) (by omega)).base hb
 have hf:l.flatMap Xi=l.map Value.string:=by
  clear this hl
  induction l with
  | nil=>rfl
  | cons x l ih=>rw [List.flatMap_cons,ih];rfl
 rw [hf] at this
 exact this
theorem zx {w:Wd} {base:Nat} {v:Vl} {l:List BAr} (h:Ue w base v l):Uf w v l:=h.slice (λ _=>rfl) (λ _ _=>rfl)
theorem UM (w0:Wd) (s:BAr):Ret Pg 52 #[.slice (some ⟨w0.heap.size,0,none⟩) 1 1] (w0.alloc (.cells #[.string s] 9)) λ r w'=>r = .bool (Yj s)∧Ext w0 w':=by
 have h:=zx (Uw w0 [s] (by simp) (Nat.le_refl _))
 refine (yQ _ _ [s] h).mono ?_
 rintro _ w' ⟨rfl,e⟩
 exact ⟨by simp,((Ext.refl w0).alloc _).trans e⟩
theorem HF (w0:Wd) (s t:BAr):Ret Pg 52 #[.slice (some ⟨w0.heap.size,0,none⟩) 2 2] (w0.alloc (.cells #[.string s,.string t] 9)) λ r w'=>r = .bool (Yj s&&Yj t)∧Ext w0 w':=by
 have h:=zx (Uw w0 [s,t] (by simp) (Nat.le_refl _))
 refine (yQ _ _ [s,t] h).mono ?_
 rintro _ w' ⟨rfl,e⟩
 exact ⟨by simp,((Ext.refl w0).alloc _).trans e⟩
theorem PV {D:Wd} {m c:Nat} {L:List (Int×Vl×Nat)} {k:Vl→Prop} (hM:Xj D m Xn L c) (s:Int):qV Pg (EC D) (Instr.lookup 106 (.map (some m)) (.int .i64 s) true) k=k (.tuple #[(Sw.look L s).getD (Bj ⟨false,false,false,false,false⟩),.bool (Sw.look L s).isSome]):=Jf λ w' e=>Qd λ QP k=>yT (enc:=Xn) underlying106 (Ql.int underlying39) UB (hM.ext e) s
theorem J5 (w0:Wd) (v:Vl) (r:FrD) (hr:QH w0 v r):Ret Pg 58 #[v] w0 λ q w'=>q = .bool (YF r)∧Ext w0 w':=by
 obtain ⟨bv,tv,rfl,hB,hT,b1,b2⟩:=hr.op
 refine Zg8 (R:=ZJ _) ?_;unfold n42
 rw [YS]
 have q1:=Zz w0 (ZB r bv tv).toArray 43
 have e1:Ext w0 (w0.alloc (.cells (ZB r bv tv).toArray 43)):=(Ext.refl w0).alloc _
 generalize (w0.alloc (.cells (ZB r bv tv).toArray 43))=W at q1 e1 ⊢
 obtain ⟨p1,hp1⟩:∃ p1,w0.heap.size=p1:=⟨_,rfl⟩
 rw [hp1] at q1 ⊢
 refine ZG ?_
 have eD:Ext W (Sw.drew W):=(Ext.refl W).drew
 generalize (Sw.drew W)=D at eD ⊢
 replace q1:=eD.obj q1
 have E1:=e1.trans eD
 have c1:=(Za q1).1
 unfold TJ
 simp (disch:=try exact DI) only [↓PR,QR,simprocAttr,c1]
 have main:∀ (p3:Nat) (u:AX) (ok:Bool) (w:Wd),Ext w0 w→Ext D w→w.heap[p3]?=some (.cells #[.bool u.fr,.bool u.add,.bool u.value,.bool u.bytes,.bool u.table] 105 (0,0))→ok=(XK r.kind).isSome→(ok=true→XK r.kind=some u) →
  Oz (.pointer (some ⟨p1,0,none⟩)) (.pointer (some ⟨p3,0,none⟩)) (.bool ok) (ZJ λ q w'=>q = .bool (YF r)∧Ext w0 w') w:=by
  intro p3 u ok w e0 eD hu hok hus
  have k1:=(Za (eD.obj q1)).1
  have k3:=(Za hu).1
  unfold Oz
  cases ok with
  | false=>
   have hp:YF r=false:=by
    unfold YF
    cases hk:XK r.kind with
    | none=>rfl
    | some u=>rw [hk] at hok;cases hok
   simp (disch:=try exact DI) only [↓PR,QR,simprocAttr,Oy,IQ,BM,BL,jZ]
   exact ⟨by rw [hp],e0⟩
  | true=>
   have hp:YF r=(V3 r u&&(Yj r.to&&(decide (r.to≠Zbm)&&(!u.fr||Yj r.fr)))):=by unfold YF;rw [hus rfl]
   simp (disch:=try exact DI) only [↓PR,QR,simprocAttr,k1,k3]
   refine zcr (Bq w _ r ⟨_,_,rfl,hB.ext e0,hT.ext e0⟩ u) λ w2 e2=>?_
   have E2:=e0.trans e2
   unfold Oy
   cases hc:V3 r u with
   | false=>
    simp (disch:=try exact DI) only [↓PR,QR,simprocAttr,IQ,BM,BL,jZ]
    exact ⟨by rw [hp,hc];rfl,E2⟩
   | true=>
   have k1:=(Za (((eD.trans e2)).obj q1)).1
   simp (disch:=try exact DI) only [↓PR,QR,simprocAttr,k1]
   refine Zl (UM w2 r.to) ?_
   rintro _ w3 ⟨rfl,e3⟩
   have E3:=E2.trans e3
   unfold IQ
   cases hn:Yj r.to with
   | false=>
    simp (disch:=try exact DI) only [↓PR,QR,simprocAttr,BM,BL,jZ]
    exact ⟨by rw [hp,hc,hn];rfl,E3⟩
   | true=>
   have k1:=(Za ((eD.trans (e2.trans e3)).obj q1)).1
   have k3:=(Za ((e2.trans e3).obj hu)).1
   by_cases he:r.to=Zbm
   · have d1:decide (r.to=⟨#[101,110,100]⟩)=true:=decide_eq_true he
     simp (disch:=try exact DI) only [↓PR,QR,simprocAttr,k1,d1,BM,BL,jZ]
     exact ⟨by rw [hp,hc,hn];simp [he],E3⟩
   · have d1:decide (r.to=⟨#[101,110,100]⟩)=false:=decide_eq_false he
     simp (disch:=try exact DI) only [↓PR,QR,simprocAttr,k1,d1,BM]
     unfold BL
     cases hf:u.fr with
     | false=>
      simp (disch:=try exact DI) only [↓PR,QR,simprocAttr,k3,hf,jZ]
      exact ⟨by rw [hp,hc,hn,hf];simp [he,d1],E3⟩
     | true=>
      simp (disch:=try exact DI) only [↓PR,QR,simprocAttr,k3,hf,k1]
      refine Zl (UM w3 r.fr) ?_
      rintro _ w4 ⟨rfl,e4⟩
      simp (disch:=try exact DI) only [↓PR,QR,simprocAttr,jZ]
      exact ⟨by rw [hp,hc,hn,hf];simp [he,d1],E3.trans e4⟩
 have lk:∀ (L:List (Int×Vl×Nat)),MV L→∃ u:AX,(Sw.look L r.kind).getD (Bj ⟨false,false,false,false,false⟩)=Bj u∧(Sw.look L r.kind).isSome=(XK r.kind).isSome∧((XK r.kind).isSome=true→XK r.kind=some u):=by
  intro L hL
  rw [hL]
  cases XK r.kind with
  | none=>exact ⟨_,rfl,rfl,λ h=>by cases h⟩
  | some u=>exact ⟨u,rfl,rfl,λ _=>rfl⟩
 have lD:=(Array.getElem?_eq_some_iff.1 q1).1
 refine ⟨?_,(Ext.refl D).alloc _,?_⟩
 · refine Zl (UI D) ?_
   rintro _ w1 ⟨m,L,c,rfl,hm,hM,hL,e2⟩
   refine HG e2 ?_
   obtain ⟨u,h1,h2,h3⟩:=lk L hL
   unfold TH
   rw [PV hM,h1,h2]
   unfold Bj
   simp (disch:=try exact DI) only [↓PR,QR,simprocAttr]
   refine ⟨(Ext.refl w1).alloc _,(Ext.refl w1).alloc _,main _ u _ _ ((E1.trans e2).alloc _) (e2.alloc _) (Zz _ _ _) rfl h3⟩
 · have eV:Ext D (D.alloc (.cells #[.bool false,.bool false,.bool false,.bool false,.bool false] 105)):=(Ext.refl D).alloc _
   have oV:=Zz D #[.bool false,.bool false,.bool false,.bool false,.bool false] 105
   generalize (D.alloc (.cells #[.bool false,.bool false,.bool false,.bool false,.bool false] 105))=V at eV oV ⊢
   obtain ⟨p3,hp3⟩:∃ p3,D.heap.size=p3:=⟨_,rfl⟩
   rw [hp3] at oV ⊢
   refine Zl (UI V) ?_
   rintro _ w1 ⟨m,L,c,rfl,hm,hM,hL,e2⟩
   have eVw:=eV.trans e2
   refine Vn eVw hM ?_
   obtain ⟨u,h1,h2,h3⟩:=lk L hL
   have o3:=e2.obj oV
   have o3c:=Za o3
   have YW:∃ x,KM D m Xn L c x:=⟨w1,eVw,hM⟩
   haveI:Yn (KM D m Xn L c):=⟨YW⟩
   have l3:D.heap.size≤p3:=by omega
   unfold TI
   rw [WM (enc:=Xn) underlying106 (Ql.int underlying39) UB YW r.kind]
   rw [show ((Sw.look L r.kind).getD (Value.agg #[.bool false,.bool false,.bool false,.bool false,.bool false]))=Bj u from h1,h2]
   unfold Bj
   simp (disch:=try exact DI) only [↓PR,QR,simprocAttr,o3c.1,o3c.2]
   have eZ:Ext D (((((w1.setCell ⟨p3,0,none⟩ (.bool u.fr)).setCell ⟨p3,1,none⟩ (.bool u.add)).setCell ⟨p3,2,none⟩ (.bool u.value)).setCell ⟨p3,3,none⟩ (.bool u.bytes)).setCell ⟨p3,4,none⟩ (.bool u.table)):=((((eVw.setCell l3 _).setCell l3 _).setCell l3 _).setCell l3 _).setCell l3 _
   have oZ:=Zw (o:=4) (Zw (o:=3) (Zw (o:=2) (Zw (o:=1) (Zw (o:=0) o3 (.bool u.fr)) (.bool u.add)) (.bool u.value)) (.bool u.bytes)) (.bool u.table)
   have hM':=((((hM.setCell ⟨p3,0,none⟩ (.bool u.fr)).setCell ⟨p3,1,none⟩ (.bool u.add)).setCell ⟨p3,2,none⟩ (.bool u.value)).setCell ⟨p3,3,none⟩ (.bool u.bytes)).setCell ⟨p3,4,none⟩ (.bool u.table)
   exact ⟨⟨eZ,hM'⟩,main p3 u _ _ (E1.trans eZ) eZ (by simpa using oZ) rfl h3⟩
section
variable {P:Program} {QP:PEn} {w:Wd} {k:KV}
theorem Ut (t:TypeId) (c:Bool) (a b:BAr) (h:a.size+b.size≤9223372036854775807):opV P (Zh .add t c (.string a) (.string b)) QP w k=k (.string (a++b)) w:=ZS (by
 have h1:¬ (((a.size+b.size:Nat):Int) > IntKind.i64.max):=by
  have:IntKind.i64.max=9223372036854775807:=rfl
  omega
 simp [Zh,binOp,Op.stringOp,h1]
 omega)
theorem qq {C:WPr} [Yn C] {k:Vl→Prop} (t:TypeId) (c:Bool) (a b:BAr) (h:a.size+b.size≤9223372036854775807):qV P C (Zh .add t c (.string a) (.string b)) k=k (.string (a++b)):=Ym λ _ _ _=>Ut t c a b h
end
def Xy (r:FrD):List BAr:=(Xc r).map mkB
theorem zc (a b:List UInt8):mkB (a++b)=mkB a++mkB b:=by
 apply Jz
 show (a++b).toArray.toList=(mkB a++mkB b).data.toList
 simp [mkB]
def U4 (x:Qm):BAr:=mkB (Vz x)
theorem P4 (x:Qm):CG x.low++⟨#[45]⟩++CG x.high++⟨#[58]⟩++CG x.to=U4 x:=by
 unfold U4 Vz
 rw [show Go.Lib.itoa x.low++45::(Go.Lib.itoa x.high++58::Go.Lib.itoa x.to)=Go.Lib.itoa x.low++([45]++(Go.Lib.itoa x.high++([58]++Go.Lib.itoa x.to))) from rfl]
 rw [zc,zc,zc,zc]
 apply Jz
 simp [mkB,CG]
theorem Vy {n:Int} (h:X6 n=true) : -9223372036854775808≤n∧n≤9223372036854775807:=by
 unfold X6 at h
 simpa only [Bool.and_eq_true,decide_eq_true_eq] using h
theorem Zbp {x:FrD} (h:inF x=true):(-9223372036854775808≤x.add∧x.add≤9223372036854775807)∧(-9223372036854775808≤x.value∧x.value≤9223372036854775807)∧∀ y∈x.table,(-9223372036854775808≤y.low∧y.low≤9223372036854775807)∧(-9223372036854775808≤y.high∧y.high≤9223372036854775807) ∧ -9223372036854775808≤y.to∧y.to≤9223372036854775807:=by
 unfold inF at h
 simp only [Bool.and_eq_true,List.all_eq_true] at h
 refine ⟨Vy h.1,Vy h.2.1,λ y hy=>?_⟩
 have:=h.2.2 y hy
 unfold WW at this
 simp only [Bool.and_eq_true] at this
 exact ⟨Vy this.1,Vy this.2.1,Vy this.2.2⟩
theorem xW (w0:Wd) (hE:VE w0) (v:Vl) (x:FrD) (hx:QH w0 v x) (hin:inF x=true) (hb:x.bytes.length≤1000000000) (ht:x.table.length≤1000000):Ret Pg 60 #[v] w0 λ r w'=>Ue w' w0.heap.size r (Xy x)∧Ext w0 w':=by
 obtain ⟨bv,tv,rfl,hB,hT,b1,b2⟩:=hx.op
 obtain ⟨i1,i2,i3⟩:=Zbp hin
 refine Zg9 (R:=ZJ _) ?_;unfold n43
 rw [YS]
 have q1:=Zz w0 (ZB x bv tv).toArray 43
 have e1:Ext w0 (w0.alloc (.cells (ZB x bv tv).toArray 43)):=(Ext.refl w0).alloc _
 generalize (w0.alloc (.cells (ZB x bv tv).toArray 43))=W at q1 e1 ⊢
 obtain ⟨p1,hp1⟩:∃ p1,w0.heap.size=p1:=⟨_,rfl⟩
 rw [hp1] at q1 ⊢
 have c1:=(Za q1).1
 have fin:∀ (w:Wd) (l:List BAr),Ext w0 w→l.length≤1000→Xy x=l→(Ue (w.alloc (.cells (l.map Value.string).toArray 9)) p1 (.slice (some ⟨w.heap.size,0,none⟩) l.length l.length) (Xy x)∧Ext w0 (w.alloc (.cells (l.map Value.string).toArray 9))):=by
  intro w l e hl hw
  rw [hw]
  exact ⟨Uw w l hl (by have:=e.size;omega),e.alloc _⟩
 by_cases k1:x.kind=1
 · simp (disch:=try exact DI) only [↓PR,QR,simprocAttr,c1,k1,OC]
   exact fin W [x.to,⟨#[99,111,112,121]⟩,x.fr] e1 (by simp) (by unfold Xy Xc VD;rw [if_pos k1,k1];rfl)
 have d1:(x.kind == 1)=false:=by simpa using k1
 by_cases k2:x.kind=2
 · simp (disch:=try exact DI) only [↓PR,QR,simprocAttr,c1,k2]
   refine ZG ?_
   have eD:Ext W (Sw.drew W):=(Ext.refl W).drew
   generalize (Sw.drew W)=D at eD ⊢
   have c1:=(Za (eD.obj q1)).1
   unfold TK
   simp (disch:=try exact DI) only [↓PR,QR,simprocAttr,c1]
   have ED:=e1.trans eD
   refine zcr (Kf (hE.ext ED).env.tab x.add i1.1 i1.2) λ w1 e2=>?_
   simp (disch:=try exact DI) only [↓PR,QR,simprocAttr]
   refine ⟨e2,e2.alloc _,?_⟩
   exact fin w1 [x.to,⟨#[97,100,100]⟩,x.fr,CG x.add] (ED.trans e2) (by simp) (by unfold Xy Xc VD;rw [if_neg k1,if_pos k2,k2];rfl)
 have d2:(x.kind == 2)=false:=by simpa using k2
 by_cases k3:x.kind=3
 · simp (disch:=try exact DI) only [↓PR,QR,simprocAttr,c1,k3,yM]
   refine ZG ?_
   have eD:Ext W (Sw.drew W):=(Ext.refl W).drew
   generalize (Sw.drew W)=D at eD ⊢
   have c1:=(Za (eD.obj q1)).1
   unfold TL
   simp (disch:=try exact DI) only [↓PR,QR,simprocAttr,c1]
   have ED:=e1.trans eD
   refine zcr (Kf (hE.ext ED).env.tab x.value i2.1 i2.2) λ w1 e2=>?_
   simp (disch:=try exact DI) only [↓PR,QR,simprocAttr]
   refine ⟨e2,e2.alloc _,?_⟩
   exact fin w1 [x.to,⟨#[118,97,108,117,101]⟩,CG x.value] (ED.trans e2) (by simp) (by unfold Xy Xc VD;rw [if_neg k1,if_neg k2,if_pos k3,k3];rfl)
 have d3:(x.kind == 3)=false:=by simpa using k3
 by_cases k4:x.kind=4
 · simp (disch:=try exact DI) only [↓PR,QR,simprocAttr,c1,k4,yM]
   refine ZG ?_
   have eD:Ext W (Sw.drew W):=(Ext.refl W).drew
   generalize (Sw.drew W)=D at eD ⊢
   have c1:=(Za (eD.obj q1)).1
   unfold TM
   simp (disch:=try exact DI) only [↓PR,QR,simprocAttr,c1]
   have ED:=e1.trans eD
   refine zcr (FX D (hE.ext ED) _ x.bytes (hB.ext ED) hb) λ w1 e2=>?_
   simp (disch:=try exact DI) only [↓PR,QR,simprocAttr]
   refine ⟨e2,e2.alloc _,?_⟩
   exact fin w1 [x.to,⟨#[98,121,116,101,115]⟩,mkB (QS x.bytes)] (ED.trans e2) (by simp) (by unfold Xy Xc VD;rw [if_neg k1,if_neg k2,if_neg k3,if_pos k4,k4];rfl)
 have d4:(x.kind == 4)=false:=by simpa using k4
 by_cases k6:x.kind=6
 · simp (disch:=try exact DI) only [↓PR,QR,simprocAttr,c1,k6,yM,CZ,OB]
   exact fin W [x.to,⟨#[110,101,115,116,101,100]⟩,x.fr] e1 (by simp) (by unfold Xy Xc VD;rw [if_neg k1,if_neg k2,if_neg k3,if_neg k4,if_pos k6,k6];rfl)
 have d6:(x.kind == 6)=false:=by simpa using k6
 by_cases k7:x.kind=7
 · simp (disch:=try exact DI) only [↓PR,QR,simprocAttr,c1,k7,yM,CZ,TS]
   exact fin W [x.to,⟨#[102,105,116]⟩] e1 (by simp) (by unfold Xy Xc VD;rw [if_neg k1,if_neg k2,if_neg k3,if_neg k4,if_neg k6,if_pos k7,k7];rfl)
 have d7:(x.kind == 7)=false:=by simpa using k7
 obtain ⟨A,c,rfl,hlc,hcm,hlm,YV⟩:=Zd.open hT
 have hW:Xy x=[x.to,⟨#[116,97,98,108,101]⟩,x.fr]++x.table.map U4:=by
  have hk:kwW x.kind=[116,97,98,108,101]:=by unfold kwW;rw [if_neg k1,if_neg k2,if_neg k3,if_neg k4,if_neg k6,if_neg k7]
  unfold Xy Xc VD
  rw [if_neg k1,if_neg k2,if_neg k3,if_neg k4,if_neg k6,if_neg k7,hk,List.map_cons,List.map_cons,List.map_cons,List.map_map]
  rfl
 have lq:=(Array.getElem?_eq_some_iff.1 q1).1
 simp (disch:=try exact DI) only [↓PR,QR,simprocAttr,c1,d1,d2,d3,d4,d6,d7,yM,CZ,OA]
 have hO:=Uw W [x.to,⟨#[116,97,98,108,101]⟩,x.fr] (by simp) e1.size
 have eV:Ext W (W.alloc (.cells (([x.to,⟨#[116,97,98,108,101]⟩,x.fr]:List BAr).map Value.string).toArray 9)):=(Ext.refl W).alloc _
 change U0 _ _ _ (W.alloc (.cells (([x.to,⟨#[116,97,98,108,101]⟩,x.fr]:List BAr).map Value.string).toArray 9))
 generalize (W.alloc (.cells (([x.to,⟨#[116,97,98,108,101]⟩,x.fr]:List BAr).map Value.string).toArray 9))=V at hO eV ⊢
 have E1:=e1.trans eV
 rw [hp1] at hO
 have lp:p1≤w0.heap.size:=by omega
 refine Q0 (λ a i w=>∃ k:Nat,i = .int .i64 k∧k≤x.table.length∧Ext w0 w∧Ue w p1 a ([x.to,⟨#[116,97,98,108,101]⟩,x.fr]++(x.table.take k).map U4)) (λ _ i _=>x.table.length - (intOf i).toNat) ⟨0,rfl,by omega,E1,by simpa using hO⟩ ?_
 rintro a _ w ⟨k,rfl,hk,e,hO⟩
 rcases ZY hk with ⟨y,hy,_,Yq,Z5⟩ | ⟨hk,_,Z5⟩
 · obtain ⟨b,o,cs,rfl,_,hA,rfl⟩:=YV k y hy
   obtain ⟨g,cap,rfl,hg1,hg2,_⟩:=ZT.row hO (λ _=>rfl) (by simp)
   generalize hll:([x.to,⟨#[116,97,98,108,101]⟩,x.fr]++(x.table.take k).map U4).length=n at hO ⊢
   obtain ⟨j1,j2,j3⟩:=i3 y (List.mem_of_getElem? hy)
   have XA:([x.to,⟨#[116,97,98,108,101]⟩,x.fr]++(x.table.take k).map U4).length≤1048576:=by
    rw [List.length_append,List.length_map,List.length_take]
    simp only [List.length_cons,List.length_nil]
    omega
   simp (disch:=try exact DI) only [↓PR,QR,simprocAttr,Z5]
   unfold TR
   simp (disch:=try exact DI) only [↓PR,QR,simprocAttr,hA.c3 e]
   have oV:=Zz w (Z6 y).toArray 78
   have eV:Ext w (w.alloc (.cells (Z6 y).toArray 78)):=(Ext.refl w).alloc _
   have sV:(w.alloc (.cells (Z6 y).toArray 78)).heap.size=w.heap.size+1:=World.size_alloc ..
   generalize (w.alloc (.cells (Z6 y).toArray 78))=V1 at oV eV sV ⊢
   have n5:w.heap.size≠g:=by omega
   obtain ⟨p5,hp5⟩:∃ p5,w.heap.size=p5:=⟨_,rfl⟩
   rw [hp5] at oV n5 ⊢
   refine Xl g g (w1:=V1) (λ _ _ _ _=>rfl) ?_
   haveI:Yn (KB V1 g g):=⟨⟨V1,λ _ _ _ _=>rfl⟩⟩
   have hKD:KB V1 g g (Sw.drew V1):=λ _ _ _ _=>rfl
   have eD:Ext V1 (Sw.drew V1):=(Ext.refl V1).drew
   generalize (Sw.drew V1)=D at hKD eD ⊢
   have cV:=(Za oV).1
   have z1:=zM j1.1 j1.2
   have z2:=zM j2.1 j2.2
   have z3:=zM j3.1 j3.2
   have g45:(⟨#[45]⟩:BAr).size=1:=rfl
   have g58:(⟨#[58]⟩:BAr).size=1:=rfl
   unfold TQ
   simp (disch:=try exact DI) only [↓PR,QR,simprocAttr,cV]
   have ED:=e.trans (eV.trans eD)
   refine zcr (Kf (hE.ext ED).env.tab y.low j1.1 j1.2) λ w1 f1=>?_
   have K1:KB V1 g g w1:=λ b hb h1 h2=>(f1.block b (by have:=eD.size;omega)).trans (hKD b hb h1 h2)
   refine ⟨K1,?_⟩
   unfold TP
   rw [qq _ _ _ _ (by rw [g45];omega)]
   have E1:=ED.trans f1
   refine zcr (Kf (hE.ext E1).env.tab y.high j2.1 j2.2) λ w2 f2=>?_
   have K2:KB V1 g g w2:=λ b hb h1 h2=>(f2.block b (by have:=eD.size;have:=f1.size;omega)).trans (K1 b hb h1 h2)
   refine ⟨K2,?_⟩
   unfold TO
   rw [qq _ _ _ _ (by rw [size_append,g45];omega),qq _ _ _ _ (by rw [size_append,size_append,g45,g58];omega)]
   have E2:=E1.trans f2
   refine zcr (Kf (hE.ext E2).env.tab y.to j3.1 j3.2) λ w3 f3=>?_
   have K3:KB V1 g g w3:=λ b hb h1 h2=>(f3.block b (by have:=eD.size;have:=f1.size;have:=f2.size;omega)).trans (K2 b hb h1 h2)
   refine ⟨K3,?_⟩
   unfold TN
   rw [qq _ _ _ _ (by rw [size_append,size_append,size_append,g45,g58];omega)]
   have E3:=E2.trans f3
   have f03:=(eV.trans eD).trans ((f1.trans f2).trans f3)
   simp (disch:=try exact DI) only [↓PR,QR,simprocAttr]
   rw [P4]
   have K4:KB V1 g g (w3.alloc (.cells #[.string (U4 y)] 9)):=λ b hb h1 h2=>(((Ext.refl w3).alloc _).block b (by have:=eD.size;have:=f1.size;have:=f2.size;have:=f3.size;omega)).trans (K3 b hb h1 h2)
   have oY:(w3.alloc (.cells #[.string (U4 y)] 9)).cell? ⟨w3.heap.size,0,none⟩=some (.string (U4 y)):=by rw [Qp];rfl
   have eY:Ext w3 (w3.alloc (.cells #[.string (U4 y)] 9)):=(Ext.refl w3).alloc _
   refine ⟨K4,?_⟩
   generalize (w3.alloc (.cells #[.string (U4 y)] 9))=Y at K4 oY eY ⊢
   have fY:=f03.trans eY
   refine Vb (U4 y) (hO.ext fY) oY (by have:=(E3.trans eY).size;omega) XA ?_
   intro v' w' hO' hg
   have hlo:∀ b,(Value.slice (some ⟨g,0,none⟩) n cap).ownBlock=some b→p1≤b:=λ b hb=>(World.ownsRow.lt hO b hb).1
   refine ⟨λ b hb h1 h2=>(hg.block b (by have:=(eD.trans ((f1.trans f2).trans (f3.trans eY))).size;omega) (λ e=>by injection e with e;exact h1 e)).trans (K4 b hb h1 h2),?_⟩
   simp (disch:=try exact DI) only [↓PR,QR,simprocAttr]
   refine ⟨⟨k+1,rfl,Yq,(E3.trans eY).grown hg λ b hb=>by have:=hlo b hb;omega,?_⟩,Yf (kd := .i64) Yq⟩
   rw [X7 hy,List.map_append,← List.append_assoc]
   exact hO'
 · subst hk
   rw [List.take_length] at hO
   simp (disch:=try exact DI) only [↓PR,QR,simprocAttr,Z5]
   exact ⟨by rw [hW];exact hO,e⟩
def Tk (a b c d:Vl) (Vo:Vl→Vl→Vl→Wd→Prop) (R:RT) (w:Wd):Prop:=
 opV Pg (buildSlice 94 1 #[(0,c)]) (Zb R) w λ e w=>
 opV Pg (Builtin.append_ #[94,94] 94 #[d,e]) (Zb R) w λ f w=>
 opV Pg (Zh .add 3 true a (.int .i64 1)) (Zb R) w λ g w=>
 Vo b f g w
def Od (a b c d e:Vl) (Vo:Vl→Vl→Vl→Wd→Prop) (R:RT) (w:Wd):Prop:=
 ZD d c (.bool false) λ f=>
 opV Pg (loadAt 43 a) (Zb R) w λ g w=>
 Zg Pg 60 #[g] (Zb R) w λ h w=>
 Zg Pg 59 #[h,(.string { data := #[32] })] (Zb R) w λ i w=>
 Tk b f i e Vo R w
def Oe (a b c:Vl) (ZA:Vl→Vl→Vl→Wd→Prop) (R:RT) (w:Wd):Prop:=
 opV Pg (buildSlice 94 1 #[(0,(.string { data := #[101,110,100] }))]) (Zb R) w λ d w=>
 opV Pg (Builtin.append_ #[94,94] 94 #[c,d]) (Zb R) w λ e w=>
 opV Pg (Zh .add 3 true a (.int .i64 1)) (Zb R) w λ f w=>
 ZA b e f w
def Of (f c d g:Vl) (Vo:Vl→Vl→Vl→Wd→Prop) (R:RT) (w:Wd):Prop:=
 opV Pg (indexAt 58 f c) (Zb R) w λ h w=>
 opV Pg (loadAt 43 h) (Zb R) w λ i w=>
 opV Pg (Instr.alloc 43 true (.tuple #[])) (Zb R) w λ a w=>
 opU Pg (storeAt 43 a i) (Zb R) w λ w=>
 Zq (λ (b:Vl) (w:Wd)=>
 Od a c b d g Vo R w) λ e=>
 Zp d true (
 opV Pg (loadAt 43 a) (Zb R) w λ j w=>
 Zg Pg 58 #[j] (Zb R) w λ b w=>
 e b w) (
 e undef w)
def IM (f g a h i:Vl) (ZA:Vl→Vl→Vl→Wd→Prop) (R:RT) (w:Wd):Prop:=
 ZD f i (.bool false) λ j=>
 opV Pg (fieldAt 60 a 0) (Zb R) w λ k w=>
 opV Pg (loadAt 9 k) (Zb R) w λ l w=>
 opV Pg (Zh .add 9 true (.string { data := #[109,97,112,32] }) l) (Zb R) w λ m w=>
 opV Pg (Zh .add 9 true m (.string { data := #[32] })) (Zb R) w λ n w=>
 opV Pg (fieldAt 60 a 1) (Zb R) w λ o w=>
 opV Pg (loadAt 9 o) (Zb R) w λ p w=>
 opV Pg (Zh .add 9 false n p) (Zb R) w λ q w=>
 opV Pg (buildSlice 94 1 #[(0,q)]) (Zb R) w λ r w=>
 opV Pg (Builtin.append_ #[94,94] 94 #[g,r]) (Zb R) w λ s w=>
 opV Pg (fieldAt 60 a 2) (Zb R) w λ t w=>
 opV Pg (loadAt 58 t) (Zb R) w λ b w=>
 opV Pg (Builtin.len_ #[58] 3 #[b]) (Zb R) w λ u w=>
 Kv (λ c d e w Vo=>
 opV Pg (Zh .lss 3 false e u) (Zb R) w λ v w=>
 Zu v (
 Of b e c d Vo R w) (
 Oe h c d ZA R w)) j s (.int .i64 0) w
def Tl (a:Vl) (R:RT) (w:Wd):Prop:=
 Zg Pg 59 #[a,(.string { data := #[10] })] (Zb R) w λ b w=>
 opV Pg (Zh .add 9 true b (.string { data := #[10] })) (Zb R) w λ c w=>
 R (.returned (.tuple #[c,(.int .i64 0)])) w
def Tm (c f g d:Vl) (ZA:Vl→Vl→Vl→Wd→Prop) (R:RT) (w:Wd):Prop:=
 opV Pg (indexAt 22 g d) (Zb R) w λ h w=>
 opV Pg (loadAt 60 h) (Zb R) w λ i w=>
 opV Pg (Instr.alloc 60 true (.tuple #[])) (Zb R) w λ a w=>
 opU Pg (storeAt 60 a i) (Zb R) w λ w=>
 Zq (λ (b:Vl) (w:Wd)=>
 IM c f a d b ZA R w) λ e=>
 Zp c true (
 opV Pg (fieldAt 60 a 0) (Zb R) w λ j w=>
 opV Pg (loadAt 9 j) (Zb R) w λ k w=>
 opV Pg (fieldAt 60 a 1) (Zb R) w λ l w=>
 opV Pg (loadAt 9 l) (Zb R) w λ m w=>
 opV Pg (buildSlice 94 2 #[(0,k),(1,m)]) (Zb R) w λ n w=>
 Zg Pg 52 #[n] (Zb R) w λ b w=>
 e b w) (
 e undef w)
def Tn (a b d e c:Vl) (ZA:Vl→Vl→Vl→Wd→Prop) (R:RT) (w:Wd):Prop:=
 opV Pg (Zh .lss 3 false c e) (Zb R) w λ f w=>
 Zu f (
 Tm a b d c ZA R w) (
 opV Pg (Op.unary .not a) (Zb R) w λ g w=>
 Zu g (
 R (.returned (.tuple #[(.string { data := #[] }),(.int .i64 2)])) w) (
 Tl b R w))
def To (a c:Vl) (R:RT) (w:Wd):Prop:=
 opV Pg (fieldAt 24 a 0) (Zb R) w λ d w=>
 opV Pg (loadAt 9 d) (Zb R) w λ e w=>
 opV Pg (Zh .add 9 true (.string { data := #[109,97,112,112,105,110,103,32] }) e) (Zb R) w λ f w=>
 opV Pg (buildSlice 94 1 #[(0,f)]) (Zb R) w λ g w=>
 opV Pg (fieldAt 24 a 1) (Zb R) w λ h w=>
 opV Pg (loadAt 22 h) (Zb R) w λ b w=>
 opV Pg (Builtin.len_ #[22] 3 #[b]) (Zb R) w λ i w=>
 Kv (λ j k l w ZA=>
 Tn j k b i l ZA R w) c g (.int .i64 0) w
def n20 (b:Vl) (R:RT) (w:Wd):Prop:=
 opV Pg (Instr.box 24 b) (Zb R) w λ a w=>
 opV Pg (fieldAt 24 a 0) (Zb R) w λ c w=>
 opV Pg (loadAt 9 c) (Zb R) w λ d w=>
 opV Pg (buildSlice 94 1 #[(0,d)]) (Zb R) w λ e w=>
 Zg Pg 52 #[e] (Zb R) w λ f w=>
 To a f R w
set_option maxHeartbeats 40000000 in
theorem ZgN {t0:Vl} {R:RT} {w:Wd} (h:n20 t0 R w):Calls Pg 25 #[t0] w R:=by
 refine yD func25 ?_
 refine zs<|zr<|yv h λ _ w h=>zm<|zm<|zn<|zk<|zs<|zr<|yv h λ _ w h=>yv h λ _ w h=>yS h λ _ w h=>yc h c52 λ _ w h=>zm<|zn ?_
 refine zk<|zs<|zr<|yv h λ _ w h=>yv h λ _ w h=>yb h λ _ w h=>yS h λ _ w h=>zm<|zn<|zk<|zs<|zs<|zr<|yv h λ _ w h=>yv h λ _ w h=>?_
 refine yx h λ _ w h=>zm<|zn<|zk<|Zn<|yl3 [4,5,7,9,21,22,23,24,25,26,27,28,29,30,31,32,33,34,35,36,37,38,39,40,41,42,43,44,45,46,47,48,49,50,51,52,53,54,55,56,57,58,59,60,61,62,63,64,65,66] 4 5 21 h λ σ w next h=>zs<|zr<|yb h λ _ w h=>zn<|zk<|zs<|yC h (λ h=>?_) λ h=>?_
 · refine Zo<|zk<|zs<|Zn<|zs<|zr<|yv h λ _ w h=>yv h λ _ w h=>yv h λ _ w h=>yu h λ w h=>zn<|zk<|zs<|Zr<|yG 2 ?_
   refine zm<|zm<|zn<|yg1 6 1 true [27,28,29,30,31,32] 32 h (λ _ T hT h=>?_) λ σ w h=>?_
   · refine yv h λ _ w h=>yv h λ _ w h=>yv h λ _ w h=>yv h λ _ w h=>yS h λ _ w h=>yc h c52 λ _ w h=>zn ?_
     exact zt hT h
   refine yG 2<|yp h λ _ h=>zm<|zn<|ZK<|zk<|zs<|zr<|zm<|yv h λ _ w h=>yv h λ _ w h=>yb h λ _ w h=>yb h λ _ w h=>yv h λ _ w h=>yv h λ _ w h=>?_
   refine yb h λ _ w h=>yS h λ _ w h=>yx h λ _ w h=>zm<|zn<|zk<|zs<|zs<|zr<|yv h λ _ w h=>yv h λ _ w h=>yx h λ _ w h=>zm<|zn<|zk ?_
   refine Zn<|yl3 [4,5,9,47,48,49,50,51,52,53,54,55,56,57,58,59,60,61,62] 4 5 47 h λ σ w next h=>zs<|zr<|yb h λ _ w h=>zn<|zk<|zs<|yC h (λ h=>?_) λ h=>?_
   · refine Zo<|zk<|zs<|Zn<|zs<|zr<|yv h λ _ w h=>yv h λ _ w h=>yv h λ _ w h=>yu h λ w h=>zn<|zk<|zs<|Zr<|yG 2 ?_
     refine zm<|zm<|zn<|yg1 2 1 true [53,54] 54 h (λ _ T hT h=>?_) λ σ w h=>?_
     · refine yv h λ _ w h=>yc h c58 λ _ w h=>zn ?_
       exact zt hT h
     refine yG 2<|yp h λ _ h=>zm<|zn<|ZK<|zk<|zr<|zm<|yv h λ _ w h=>yc h c60 λ _ w h=>yc h c59 λ _ w h=>yS h λ _ w h=>yx h λ _ w h=>zm<|zn ?_
     exact Zf<|zk<|zr<|yb h λ _ w h=>zm<|zn<|zk<|⟨rfl,h⟩
   refine ZR<|Ze<|Ze<|Zx<|zk<|zr<|zm<|yS h λ _ w h=>yx h λ _ w h=>zm<|zn<|Zf<|zk<|zr<|yb h λ _ w h=>?_
   exact zm<|zn<|zk<|⟨rfl,h⟩
 refine ZR<|Ze<|Ze<|Zx<|zk<|zs<|zs<|zr<|zm<|yv h λ _ w h=>zn<|zk<|yC h (λ h=>zs<|zr<|zm<|zm<|zn<|zk<|Zi<|Zc<|Z9 rfl rfl rfl h) λ h=>Zo ?_
 exact zk<|zs<|zr<|zm<|yc h c59 λ _ w h=>yb h λ _ w h=>zm<|zm<|zn<|zk<|Zi<|Z9 rfl rfl rfl h
theorem ji (sep:UInt8) (xs:List (List UInt8)):UZ ⟨#[sep]⟩ (xs.map mkB)=mkB (Go.Lib.join xs [sep]):=by
 unfold UZ mkB
 rw [List.map_map]
 have:((λ x:BAr=>x.data.toList) ∘ λ l:List UInt8=>(⟨l.toArray⟩:BAr))=id:=by funext x;rfl
 rw [this,List.map_id]
theorem Xa (l:List UInt8):(mkB l).size=l.length:=by unfold mkB ByteArray.size;simp
theorem B0 (r:MrD):⟨#[109,97,112,32]⟩++r.fr++⟨#[32]⟩++r.to=mkB (zw r):=by
 apply Jz
 simp [zw,LS,mkB]
theorem Bx (n:BAr):⟨#[109,97,112,112,105,110,103,32]⟩++n=mkB (xB n):=by
 apply Jz
 simp [xB,Up,mkB]
theorem DN {w w0:Wd} {QP:PEn} {k:KV} {base:Nat} {v:Vl} {l:List BAr} (s:BAr) (hO:Ue w base v l) (hb:base≤w.heap.size) (hl:l.length≤1000000) (e:Ext w0 w) (h0:w0.heap.size≤base)
 (hk:∀ v' w',Ue w' base v' (l++[s])→Ext w0 w'→base≤w'.heap.size→k v' w') :
 opV Pg (buildSlice 94 1 #[(0,.string s)]) QP w λ t w=>opV Pg (Builtin.append_ #[94,94] 94 #[v,t]) QP w k:=by
 simp (disch:=try exact DI) only [↓PR,QR,simprocAttr]
 generalize hY:World.alloc w _=Y
 have eY:Ext w Y:=by rw [← hY];exact (Ext.refl w).alloc _
 have oY:Y.cell? ⟨w.heap.size,0,none⟩=some (.string s):=by rw [← hY,(Za (Zz _ _ _)).1];rfl
 clear hY
 have sY:=eY.size
 refine Vb s (hO.ext eY) oY (by omega) (by omega) ?_
 intro v' w' hO' hg
 have hlo:∀ b,v.ownBlock=some b→base≤b:=λ b hb=>(World.ownsRow.lt hO b hb).1
 exact hk v' w' hO' ((e.trans eY).grown hg λ b hb=>Nat.le_trans h0 (hlo b hb)) (by have:=hg.size;omega)
def SmM (m:YG):Prop:=(XH m).length≤10000∧(∀ l∈XH m,l.length≤10000)∧∀ r∈m.rules,∀ x∈r.fields,x.bytes.length≤10000∧x.table.length≤10000
section
variable {a0 w:Wd} {base:Nat} {lv:Vl} {ls:List BAr} {R:RT}
theorem LQ (hE:VE a0) (e:Ext a0 w) {v:Vl} {x:FrD} (hO:Ue w base v (Xy x)) (h1:x.table.length≤10000) (h2:(Xu x).length≤10000):Ret Pg 59 #[v,.string ⟨#[32]⟩] w λ r w'=>r = .string (mkB (Xu x))∧Ext w w':=by
 have hj:UZ ⟨#[32]⟩ (Xy x)=mkB (Xu x):=by unfold Xy;rw [ji];rfl
 have hl:(Xy x).length≤10004:=by
  unfold Xy Xc VD
  rw [List.length_map]
  repeat' split
  all_goals simp only [List.length_cons,List.length_nil,List.length_map]
  all_goals omega
 have:=qB hO ⟨#[32]⟩ (by unfold Xy Xc;simp) (by omega) (by rw [hj,Xa];omega)
 rwa [hj] at this
theorem Np (hE:VE a0) (i:Nat) (hi:i≤1000000) (r:MrD) (A:Option Addr) (c:Nat) (hF:WB a0 (.slice A r.fields.length c) r.fields) (hin:∀ x∈r.fields,inF x=true) (hsm:∀ x∈r.fields,x.bytes.length≤10000∧x.table.length≤10000) (hln:∀ x∈r.fields,(Xu x).length≤10000)
 (e:Ext a0 w) (hO:Ue w base lv ls) (hb:base≤w.heap.size) (h0:a0.heap.size≤base) (hl:ls.length+r.fields.length≤100000) (bf:Bool) {ZA:Vl→Vl→Vl→Wd→Prop}
 (hK:∀ lv' w',Ext a0 w'→Ue w' base lv' (ls++(r.fields.map Xu++[LR]).map mkB)→base≤w'.heap.size→ZA (.bool (bf&&r.fields.all YF)) lv' (.int .i64 ((i+1:Nat):Int)) w') :
 Kv (λ t1004 t1005 t47 w Vo=>opV Pg (Zh .lss 3 false t47 (.int .i64 r.fields.length)) (Zb R) w λ t48 w=>Zu t48 (Of (.slice A r.fields.length c) t47 t1004 t1005 Vo R w) (Oe (.int .i64 i) t1004 t1005 ZA R w)) (.bool bf) lv (.int .i64 0) w:=by
 obtain ⟨A',c',hv,hlc,hcm,hlm,YV⟩:=Zd.open hF
 injection hv with hv1 _ hv2
 subst hv1 hv2
 refine WF (λ x y z w'=>∃ k:Nat,x = .bool (bf&&(r.fields.take k).all YF)∧z = .int .i64 k∧k≤r.fields.length∧Ext a0 w'∧Ue w' base y (ls++((r.fields.take k).map Xu).map mkB)∧base≤w'.heap.size) (λ _ _ z _=>r.fields.length - (intOf z).toNat) ⟨0,by simp,rfl,by omega,e,by simpa using hO,hb⟩ ?_
 rintro _ y _ w1 ⟨k,rfl,rfl,hk,e1,hO1,hb1⟩
 have XA:(ls++((r.fields.take k).map Xu).map mkB).length≤1000000:=by
  rw [List.length_append,List.length_map,List.length_map,List.length_take]
  omega
 rcases ZY hk with ⟨x,hx,_,Yq,Z5⟩ | ⟨hk,_,Z5⟩
 · have hxm:=List.mem_of_getElem? hx
   obtain ⟨b,o,cs,rfl,_,hA,hEx⟩:=YV k x hx
   obtain ⟨bv,tv,rfl,hB,hT,o1,o2⟩:=hEx.op
   simp (disch:=try exact DI) only [↓PR,QR,simprocAttr,Z5]
   unfold Of
   simp (disch:=try exact DI) only [↓PR,QR,simprocAttr,hA.c7 e1]
   have oV:=Zz w1 (ZB x bv tv).toArray 43
   have eV:Ext w1 (w1.alloc (.cells (ZB x bv tv).toArray 43)):=(Ext.refl w1).alloc _
   generalize (w1.alloc (.cells (ZB x bv tv).toArray 43))=V at oV eV ⊢
   obtain ⟨p9,hp9⟩:∃ p9,w1.heap.size=p9:=⟨_,rfl⟩
   rw [hp9] at oV ⊢
   have EV:=e1.trans eV
   have fin:∀ (t54:Vl) (w2:Wd),Ext V w2→(∀ kk,ZD (.bool (bf&&(r.fields.take k).all YF)) t54 (.bool false) kk=kk (.bool (bf&&(r.fields.take (k+1)).all YF))) →
    Od (.pointer (some ⟨p9,0,none⟩)) (.int .i64 k) t54 (.bool (bf&&(r.fields.take k).all YF)) y (λ x y z w'=>(∃ k:Nat,x = .bool (bf&&(r.fields.take k).all YF)∧z = .int .i64 k∧k≤r.fields.length∧Ext a0 w'∧Ue w' base y (ls++((r.fields.take k).map Xu).map mkB)∧base≤w'.heap.size)∧r.fields.length - (intOf z).toNat < r.fields.length - (intOf (Value.int IntKind.i64 k)).toNat) R w2:=by
    intro t54 w2 e2 hp
    have E2:=EV.trans e2
    unfold Od
    rw [hp]
    simp (disch:=try exact DI) only [↓PR,QR,simprocAttr,(Za (e2.obj oV)).1]
    obtain ⟨s1,s2⟩:=hsm x hxm
    refine Zl (xW w2 (hE.ext E2) _ x ⟨_,_,rfl,hB.ext E2,hT.ext E2⟩ (hin x hxm) (by omega) (by omega)) ?_
    rintro u w3 ⟨hu,e3⟩
    have E3:=E2.trans e3
    refine zcr (LQ hE E3 hu s2 (hln x hxm)) λ w4 e4=>?_
    have E4:=E3.trans e4
    unfold Tk
    have e14:=eV.trans (e2.trans (e3.trans e4))
    refine DN (w0:=a0) (mkB (Xu x)) (hO1.ext e14) (by have:=e14.size;omega) XA E4 h0 λ v' w5 hO5 e5 hb5=>?_
    simp (disch:=try exact DI) only [↓PR,QR,simprocAttr]
    refine ⟨⟨k+1,rfl,rfl,Yq,e5,?_,hb5⟩,Yf (kd := .i64) Yq⟩
    rw [X7 hx,List.map_append,List.map_append,← List.append_assoc]
    exact hO5
   have ZcA:(r.fields.take (k+1)).all YF=((r.fields.take k).all YF&&YF x):=by rw [X7 hx,List.all_append];simp
   generalize hfb:(bf&&(r.fields.take k).all YF)=fb at fin ⊢
   have hfx:(bf&&(r.fields.take (k+1)).all YF)=(fb&&YF x):=by rw [ZcA,← hfb,Bool.and_assoc]
   cases fb with
   | false=>
    simp (disch:=try exact DI) only [↓PR,QR,simprocAttr]
    exact fin _ V (Ext.refl _) λ kk=>by rw [hfx];rfl
   | true=>
    simp (disch:=try exact DI) only [↓PR,QR,simprocAttr,(Za oV).1]
    refine zcr (J5 V _ x ⟨_,_,rfl,hB.ext EV,hT.ext EV⟩) λ w2 e2=>?_
    exact fin _ w2 e2 λ kk=>by rw [hfx];rfl
 · subst hk
   rw [List.take_length] at hO1
   rw [List.take_length] at XA
   have hw:IntKind.i64.wrap ((i:Int)+1)=((i+1:Nat):Int):=by rw [Xf (by omega) (by omega)];omega
   simp (disch:=try exact DI) only [↓PR,QR,simprocAttr,Z5]
   unfold Oe
   refine DN (w0:=a0) ⟨#[101,110,100]⟩ hO1 hb1 XA e1 h0 λ v' w5 hO5 e5 hb5=>?_
   simp (disch:=try exact DI) only [↓PR,QR,simprocAttr,hw]
   rw [List.take_length]
   refine hK v' w5 e5 ?_ hb5
   rw [List.map_append,← List.append_assoc]
   exact hO5
theorem Zb0 (hE:VE a0) (i:Nat) (hi:i≤1000000) (r:MrD) (fv:Vl) (hF:WB a0 fv r.fields) (hin:∀ x∈r.fields,inF x=true) (hsm:∀ x∈r.fields,x.bytes.length≤10000∧x.table.length≤10000) (hln:∀ x∈r.fields,(Xu x).length≤10000) (hop:(zw r).length≤10000)
 (e:Ext a0 w) (hO:Ue w base lv ls) (hb:base≤w.heap.size) (h0:a0.heap.size≤base) (hl:ls.length+r.fields.length≤50000) (bf:Bool) (t4 t32:Vl) (hp:∀ kk,ZD t4 t32 (.bool false) kk=kk (.bool bf)) (p7:Nat) (o7:w.heap[p7]?=some (.cells (YY r fv).toArray 60 (0,0))) {ZA:Vl→Vl→Vl→Wd→Prop}
 (hK:∀ lv' w',Ext a0 w'→Ue w' base lv' (ls++(QC r).map mkB)→base≤w'.heap.size→ZA (.bool (bf&&r.fields.all YF)) lv' (.int .i64 ((i+1:Nat):Int)) w') :
 IM t4 lv (.pointer (some ⟨p7,0,none⟩)) (.int .i64 i) t32 ZA R w:=by
 have ht:=congrArg ByteArray.size (B0 r)
 rw [Xa] at ht
 simp only [size_append] at ht
 have g4:(⟨#[109,97,112,32]⟩:BAr).size=4:=rfl
 have g1:(⟨#[32]⟩:BAr).size=1:=rfl
 rw [g4,g1] at ht
 have lo7:∀ b,lv.ownBlock=some b→b≠p7:=by
  rintro b hb rfl
  obtain ⟨cs,T,f,hc⟩:=ZT.cellsAt hO _ hb
  rcases hO.2 with ⟨rfl,_⟩ | ⟨g',cap,cur,rfl,_,hg',_⟩
  · cases hb
  · have:g'=b:=by simpa [Value.ownBlock] using hb
    subst this
    rw [o7] at hg'
    cases hg'
 have c7:=(Za o7).1
 obtain ⟨A,c,hv,_⟩:=Zd.open hF
 unfold IM
 rw [hp]
 simp (disch:=try exact DI) only [↓PR,QR,simprocAttr,c7]
 rw [Ut _ _ _ _ (by omega),Ut _ _ _ _ (by rw [size_append];omega)]
 simp (disch:=try exact DI) only [↓PR,QR,simprocAttr,c7]
 rw [Ut _ _ _ _ (by rw [size_append,size_append];omega),B0]
 simp (disch:=try exact DI) only [↓PR,QR,simprocAttr]
 have oY:(w.alloc (.cells #[.string (mkB (zw r))] 9)).cell? ⟨w.heap.size,0,none⟩=some (.string (mkB (zw r))):=by rw [Qp];rfl
 have eY:Ext w (w.alloc (.cells #[.string (mkB (zw r))] 9)):=(Ext.refl w).alloc _
 generalize (w.alloc (.cells #[.string (mkB (zw r))] 9))=Y at oY eY ⊢
 have sY:=eY.size
 refine Vb (mkB (zw r)) (hO.ext eY) oY (by omega) (by omega) ?_
 intro v' w' hO' hg
 have hlo:∀ b,lv.ownBlock=some b→base≤b:=λ b hb=>(World.ownsRow.lt hO b hb).1
 have e':Ext a0 w':=(e.trans eY).grown hg λ b hb=>Nat.le_trans h0 (hlo b hb)
 have l7:=(Array.getElem?_eq_some_iff.1 o7).1
 have o7':=(hg.block p7 (by omega) λ e=>lo7 p7 e.symm rfl).trans (eY.obj o7)
 simp (disch:=try exact DI) only [↓PR,QR,simprocAttr,(Za o7').1]
 rw [hv] at hF ⊢
 simp (disch:=try exact DI) only [↓PR,QR,simprocAttr]
 refine Np hE i hi r A c hF hin hsm hln e' hO' (by have:=hg.size;omega) h0 (by rw [List.length_append];simp only [List.length_cons,List.length_nil];omega) bf λ lv2 w2 e2 hO2 hb2=>?_
 refine hK lv2 w2 e2 ?_ hb2
 unfold QC
 rw [List.map_cons]
 rw [List.append_assoc] at hO2
 exact hO2
end
theorem Mq {m:YG} {r:MrD} (h:r∈m.rules):r.fields.length≤(XH m).length∧∀ x∈QC r,x∈XH m:=by
 unfold XH
 obtain ⟨l1,l2,hl⟩:=List.append_of_mem h
 constructor
 · rw [hl,List.flatMap_append,List.flatMap_cons]
   simp only [List.length_cons,List.length_append]
   have:(QC r).length=r.fields.length+2:=by unfold QC;simp
   omega
 · intro x hx
   exact List.mem_cons_of_mem _ (List.mem_flatMap.2 ⟨r,h,hx⟩)
theorem P5 (m:YG):m.rules.length≤(XH m).length:=by
 unfold XH
 rw [List.length_cons]
 have:∀ l:List MrD,l.length≤(l.flatMap QC).length:=by
  intro l
  induction l with
  | nil=>exact Nat.le_refl _
  | cons r l ih=>
   rw [List.flatMap_cons,List.length_append,List.length_cons]
   have:1≤(QC r).length:=by unfold QC;simp
   omega
 have:=this m.rules
 omega
theorem PN (m:YG) (k:Nat):(XH ⟨m.name,m.rules.take k⟩).length≤(XH m).length:=by
 unfold XH
 rw [List.length_cons,List.length_cons]
 have:m.rules=m.rules.take k++m.rules.drop k:=(List.take_append_drop k m.rules).symm
 conv=>rhs;rw [this]
 rw [List.flatMap_append,List.length_append]
 show (List.flatMap QC (m.rules.take k)).length+1≤_
 omega
theorem F8 {B:Nat} {l:List (List UInt8)} (h:∀ x∈l,x.length≤B):(UZ ⟨#[10]⟩ (l.map mkB)).size≤l.length*(B+1):=by
 have:=F4 (sep:=⟨#[10]⟩) (B:=B) (xs:=l.map mkB) λ x hx=>by
  obtain ⟨y,hy,rfl⟩:=List.mem_map.1 hx
  rw [Xa]
  exact h y hy
 rwa [List.length_map] at this
def yZ (m:YG):Vl := .tuple #[.string (if D3 m=true then Ro m else ⟨#[]⟩),.int .i64 (if D3 m=true then 0 else 2)]
theorem Ha (w0:Wd) (hE:VE w0) (v:Vl) (m:YG) (hm:Y3 w0 v m) (hin:∀ r∈m.rules,∀ x∈r.fields,inF x=true) (hsm:SmM m):Ret Pg 25 #[v] w0 λ r w'=>r=yZ m∧Ext w0 w':=by
 obtain ⟨rv,rfl,hR,t1⟩:=hm.op
 obtain ⟨z1,z2,z3⟩:=hsm
 obtain ⟨A,c,rfl,hlc,hcm,hlm,YV⟩:=Zd.open hR
 have hrl:=P5 m
 have hhd:(xB m.name).length≤10000:=z2 _ (by unfold XH;exact List.mem_cons_self ..)
 refine ZgN (R:=ZJ _) ?_;unfold n20
 rw [YS]
 have q1:=Zz w0 (Yb m (.slice A m.rules.length c)).toArray 24
 have e1:Ext w0 (w0.alloc (.cells (Yb m (.slice A m.rules.length c)).toArray 24)):=(Ext.refl w0).alloc _
 generalize (w0.alloc (.cells (Yb m (.slice A m.rules.length c)).toArray 24))=W at q1 e1 ⊢
 obtain ⟨p1,hp1⟩:∃ p1,w0.heap.size=p1:=⟨_,rfl⟩
 rw [hp1] at q1 ⊢
 simp (disch:=try exact DI) only [↓PR,QR,simprocAttr,(Za q1).1]
 refine Zl (UM W m.name) ?_
 rintro _ w1 ⟨rfl,e2⟩
 have E2:=e1.trans e2
 have q2:=e2.obj q1
 have lq:=(Array.getElem?_eq_some_iff.1 q2).1
 have ht:=congrArg ByteArray.size (Bx m.name)
 rw [Xa] at ht
 simp only [size_append] at ht
 unfold To
 simp (disch:=try exact DI) only [↓PR,QR,simprocAttr,(Za q2).1]
 rw [Ut _ _ _ _ (by omega),Bx]
 simp (disch:=try exact DI) only [↓PR,QR,simprocAttr,(Za q2).1]
 have hO:=Uw w1 [mkB (xB m.name)] (by simp) E2.size
 have eV:Ext w1 (w1.alloc (.cells (([mkB (xB m.name)]:List BAr).map Value.string).toArray 9)):=(Ext.refl w1).alloc _
 change Kv _ _ _ _ (w1.alloc (.cells (([mkB (xB m.name)]:List BAr).map Value.string).toArray 9))
 generalize (w1.alloc (.cells (([mkB (xB m.name)]:List BAr).map Value.string).toArray 9))=V at hO eV ⊢
 have EV:=E2.trans eV
 refine WF (λ x y z w'=>∃ k:Nat,x = .bool (Yj m.name&&(m.rules.take k).all UY)∧z = .int .i64 k∧k≤m.rules.length∧Ext w0 w'∧Ue w' w0.heap.size y ((XH ⟨m.name,m.rules.take k⟩).map mkB)) (λ _ _ z _=>m.rules.length - (intOf z).toNat) ⟨0,by simp,rfl,by omega,EV,by unfold XH;simpa using hO⟩ ?_
 rintro _ y _ w3 ⟨k,rfl,rfl,hk,e3,hO3⟩
 unfold Tn
 rcases ZY hk with ⟨r,hr,_,Yq,Z5⟩ | ⟨hk,_,Z5⟩
 · have hrm:=List.mem_of_getElem? hr
   obtain ⟨b,o,cs,rfl,_,hA,hEr⟩:=YV k r hr
   obtain ⟨fv,rfl,hF,o1⟩:=hEr.op
   obtain ⟨hfl,hlr⟩:=Mq hrm
   simp (disch:=try exact DI) only [↓PR,QR,simprocAttr,Z5]
   unfold Tm
   simp (disch:=try exact DI) only [↓PR,QR,simprocAttr,hA.c3 e3]
   have oV:=Zz w3 (YY r fv).toArray 60
   have eX:Ext w3 (w3.alloc (.cells (YY r fv).toArray 60)):=(Ext.refl w3).alloc _
   have sX:(w3.alloc (.cells (YY r fv).toArray 60)).heap.size=w3.heap.size+1:=World.size_alloc ..
   rw [← sX]
   generalize (w3.alloc (.cells (YY r fv).toArray 60))=X at oV eX ⊢
   obtain ⟨p7,hp7⟩:∃ p7,w3.heap.size=p7:=⟨_,rfl⟩
   rw [hp7] at oV ⊢
   have EX:=e3.trans eX
   have hll:=PN m k
   have hnxt:XH ⟨m.name,m.rules.take (k+1)⟩=XH ⟨m.name,m.rules.take k⟩++QC r:=by
    unfold XH
    rw [X7 hr,List.flatMap_append,List.flatMap_cons,List.flatMap_nil,List.append_nil]
    rfl
   have hal:(m.rules.take (k+1)).all UY=((m.rules.take k).all UY&&UY r):=by rw [X7 hr,List.all_append];simp
   have fin:∀ (t32:Vl) (bf:Bool) (w4:Wd),Ext X w4→(∀ kk,ZD (.bool (Yj m.name&&(m.rules.take k).all UY)) t32 (.bool false) kk=kk (.bool bf))→bf=((Yj m.name&&(m.rules.take k).all UY)&&(Yj r.fr&&Yj r.to)) →
    IM (.bool (Yj m.name&&(m.rules.take k).all UY)) y (.pointer (some ⟨p7,0,none⟩)) (.int .i64 k) t32 (λ x y z w'=>(∃ k:Nat,x = .bool (Yj m.name&&(m.rules.take k).all UY)∧z = .int .i64 k∧k≤m.rules.length∧Ext w0 w'∧Ue w' w0.heap.size y ((XH ⟨m.name,m.rules.take k⟩).map mkB))∧m.rules.length - (intOf z).toNat < m.rules.length - (intOf (Value.int IntKind.i64 k)).toNat) (ZJ λ r w'=>r=yZ m∧Ext w0 w') w4:=by
    intro t32 bf w4 e4 hp hbf
    have E4:=EX.trans e4
    refine Zb0 hE k (by omega) r fv (hF.ext (Ext.refl _)) (hin r hrm) (z3 r hrm) (λ x hx=>z2 _ (hlr _ (by unfold QC;exact List.mem_cons_of_mem _ (List.mem_append_left _ (List.mem_map.2 ⟨x,hx,rfl⟩))))) (z2 _ (hlr _ (by unfold QC;exact List.mem_cons_self ..))) E4 (hO3.ext (eX.trans e4)) E4.size (Nat.le_refl _) (by rw [List.length_map];omega) bf _ t32 hp p7 (e4.obj oV) λ lv' w' e' hO' hb'=>?_
    refine ⟨⟨k+1,?_,rfl,Yq,e',?_⟩,Yf (kd := .i64) Yq⟩
    · rw [hal,hbf]
      unfold UY
      simp only [Bool.and_assoc]
    · rw [hnxt,List.map_append]
      exact hO'
   generalize hfb:(Yj m.name&&(m.rules.take k).all UY)=fb at fin ⊢
   cases fb with
   | false=>
    simp (disch:=try exact DI) only [↓PR,QR,simprocAttr]
    exact fin undef false X (Ext.refl _) (λ kk=>rfl) rfl
   | true=>
    simp (disch:=try exact DI) only [↓PR,QR,simprocAttr,(Za oV).1]
    refine Zl (HF X r.fr r.to) ?_
    rintro _ w4 ⟨rfl,e4⟩
    exact fin _ _ w4 e4 (λ kk=>rfl) rfl
 · subst hk
   rw [List.take_length] at hO3
   have hfm:(Yj m.name&&m.rules.all UY)=D3 m:=rfl
   have hmm:(⟨m.name,m.rules⟩:YG)=m:=rfl
   rw [List.take_length,hfm]
   rw [hmm] at hO3
   cases hfin:D3 m with
   | false=>
    simp (disch:=try exact DI) only [↓PR,QR,simprocAttr,Z5]
    exact ⟨by unfold yZ;rw [hfin];rfl,e3⟩
   | true=>
    simp (disch:=try exact DI) only [↓PR,QR,simprocAttr,Z5]
    unfold Tl
    have JA:=F8 z2
    have hmul:(XH m).length*(10000+1)≤10000*(10000+1):=Nat.mul_le_mul_right _ z1
    have YW:0 < ((XH m).map mkB).length:=by unfold XH;simp
    refine zcr (qB hO3 ⟨#[10]⟩ YW (by rw [List.length_map];omega) (by omega)) λ w4 e4=>?_
    have g10:(⟨#[10]⟩:BAr).size=1:=rfl
    rw [Ut _ _ _ _ (by omega)]
    simp (disch:=try exact DI) only [↓PR,QR,simprocAttr]
    refine ⟨?_,e3.trans e4⟩
    unfold yZ
    rw [hfin,if_pos rfl,if_pos rfl,ji]
    unfold Ro Za6
    rw [zc]
    rfl
section
variable {P:Program} {QP:PEn} {w:Wd} {k:KV}
theorem SC {t:TypeId} (hu:P.underlying t=some .string) (l:List UInt8) (a:Nat) (h1:a≤l.length):opV P (Instr.sliceAt t (.string ⟨l.toArray⟩) (some (.int .i64 (a:Int))) none none) QP w k=k (.string ⟨(l.drop a).toArray⟩) w:=by
 have g2:(a:Int)≤((⟨l.toArray⟩:BAr).size:Int):=by simp [ByteArray.size];omega
 have g3:(⟨l.toArray⟩:BAr).extract a (⟨l.toArray⟩:BAr).size=⟨(l.drop a).toArray⟩:=by
  apply ByteArray.ext
  simp [ByteArray.size,List.take_drop]
  rw [List.take_of_length_le (by omega)]
 refine ZS ?_
 simp [Instr.sliceAt,run_underlying hu,Instr.slice,Instr.sliceBounds,run_sliceBound,g2,g3]
theorem SD {t:TypeId} (hu:P.underlying t=some .string) (l:List UInt8) (b:Nat) (h2:b≤l.length):opV P (Instr.sliceAt t (.string ⟨l.toArray⟩) none (some (.int .i64 (b:Int))) none) QP w k=k (.string ⟨(l.take b).toArray⟩) w:=by
 have g2:(b:Int)≤((⟨l.toArray⟩:BAr).size:Int):=by simp [ByteArray.size];omega
 have g3:(⟨l.toArray⟩:BAr).extract 0 b=⟨(l.take b).toArray⟩:=by
  apply ByteArray.ext
  simp [List.take_drop]
 refine ZS ?_
 simp [Instr.sliceAt,run_underlying hu,Instr.slice,Instr.sliceBounds,run_sliceBound,g2,g3]
theorem Zj0 (l:List UInt8) (a:Nat) (h:a≤l.length):opV Pg (Instr.sliceAt 9 (.string (mkB l)) (some (.int .i64 (a:Int))) none none) QP w k=k (.string (mkB (l.drop a))) w:=SC underlying9 l a h
theorem Rm (l:List UInt8) (a:Nat) (h:a≤l.length):opV Pg (Instr.sliceAt 9 (.string (mkB l)) none (some (.int .i64 (a:Int))) none) QP w k=k (.string (mkB (l.take a))) w:=SD underlying9 l a h
theorem A9 {t:TypeId} {m:Array (String×TypeId)} (hu:P.underlying t=some (.interface m)) (d:TypeId) (v:Vl):opV P (Zh .eql t true (.iface d v) .nilIface) QP w k=k (.bool false) w:=ZS (qr (IA 9999 hu d v))
theorem A8 {t:TypeId} {m:Array (String×TypeId)} (hu:P.underlying t=some (.interface m)):opV P (Zh .eql t true .nilIface .nilIface) QP w k=k (.bool true) w:=ZS (qr (IB 9999 hu))
end
def XB (l:List UInt8):Int:=match Go.Lib.atoiAll l with
 | .ok v=>v
 | Go.Lib.NumEnd.syntax=>0
 | .range=>Go.Lib.atoiSat l
theorem FM {l:List UInt8} {v:Int} (h:Go.Lib.atoiAll l = .ok v) : -9223372036854775808≤v∧v≤9223372036854775807:=by
 have key:∀ (o:Go.Lib.NumEnd Nat),(Go.Lib.signless o = .ok v∨Go.Lib.signed o = .ok v) → -9223372036854775808≤v∧v≤9223372036854775807:=by
  intro o ho
  match o,ho with
  | Go.Lib.NumEnd.syntax,ho=>rcases ho with h | h<;>cases h
  | .range,ho=>rcases ho with h | h<;>cases h
  | .ok u,ho=>
   rcases ho with h | h
   · unfold Go.Lib.signless at h
     simp only at h
     split at h
     · cases h
     · injection h with h;omega
   · unfold Go.Lib.signed at h
     simp only at h
     split at h
     · cases h
     · injection h with h;omega
 cases l with
 | nil=>cases h
 | cons c r=>
  by_cases h45:c=45
  · subst h45
    rw [Go.Lib.atoiAll_minus] at h
    exact key _ (.inr h)
  by_cases h43:c=43
  · subst h43
    rw [Go.Lib.atoiAll_plus] at h
    exact key _ (.inl h)
  rw [Go.Lib.atoiAll_plain c r (λ e=>h43 (UInt8.toNat.inj (by rw [e];rfl))) (λ e=>h45 (UInt8.toNat.inj (by rw [e];rfl)))] at h
  exact key _ (.inl h)
theorem Ki (l:List UInt8):X6 (XB l)=true:=by
 unfold X6 XB
 simp only [Bool.and_eq_true,decide_eq_true_eq]
 split
 · rename_i h;exact FM h
 · omega
 · exact Go.Lib.atoiSat_bounds l
theorem UE {l:List UInt8} {v:Int} (h:Ui l=some v):XB l=v:=by
 unfold Ui at h
 unfold XB
 match ho:Go.Lib.atoiAll l with
 | Go.Lib.NumEnd.syntax=>rw [ho] at h;cases h
 | .range=>rw [ho] at h;cases h
 | .ok u=>rw [ho] at h;injection h
theorem Lg {w:Wd} (hE:Uc w) (s:BAr) (hs:s.size≤100000):Ret Pg 125 #[.string s] w λ r w'=>Ext w w'∧∃ e,r = .tuple #[.int .i64 (XB s.data.toList),e]∧(((Ui s.data.toList).isSome=true∧e = .nilIface)∨((Ui s.data.toList).isSome=false∧∃ t x,e = .iface t x)):=by
 unfold XB Ui
 match h:Go.Lib.atoiAll s.data.toList with
 | .ok v=>
  refine Calls.mono (GK s (by omega) v h w) ?_
  rintro e w' ⟨rfl,rfl | ⟨t,rfl⟩⟩
  · exact ⟨_,rfl,Ext.refl _,_,rfl,.inl ⟨rfl,rfl⟩⟩
  · exact ⟨_,rfl,Ext.of_below (Go.Lib.bytesWorld_below w 5 t),_,rfl,.inl ⟨rfl,rfl⟩⟩
 | Go.Lib.NumEnd.syntax=>
  obtain ⟨ev,h1,h2⟩:=hE.syn
  refine Calls.mono (UV s (by omega) h ev w h1 h2) ?_
  rintro e w' ⟨N,rfl,_,_,hb⟩
  exact ⟨_,rfl,Ext.of_below hb,_,rfl,.inr ⟨rfl,_,_,rfl⟩⟩
 | Go.Lib.NumEnd.range=>
  obtain ⟨ev,h1,h2⟩:=hE.rng
  refine Calls.mono (Kb s (by omega) h ev w h1 h2) ?_
  rintro e w' ⟨N,rfl,_,_,hb⟩
  exact ⟨_,rfl,Ext.of_below hb,_,rfl,.inr ⟨rfl,_,_,rfl⟩⟩
theorem Dx {α:Type} (p:α→Bool):∀ (l:List α) (k:Nat),k≤(l.takeWhile p).length→(k < (l.takeWhile p).length∧∃ c,l[k]?=some c∧p c=true)∨(k=(l.takeWhile p).length∧(l[k]?=none∨∃ c,l[k]?=some c∧p c=false))
 | [],k,h=>by
  have:k=0:=by simpa using h
  subst this
  exact .inr ⟨rfl,.inl rfl⟩
 | a::l,k,h=>by
  cases hp:p a with
  | false=>
   rw [List.takeWhile_cons,hp] at h ⊢
   have:k=0:=by simpa using h
   subst this
   exact .inr ⟨rfl,.inr ⟨a,rfl,hp⟩⟩
  | true=>
   rw [List.takeWhile_cons,hp] at h ⊢
   simp only [if_true,List.length_cons] at h ⊢
   cases k with
   | zero=>exact .inl ⟨by omega,a,rfl,hp⟩
   | succ k=>
    rcases Dx p l k (by omega) with ⟨h1,h2⟩ | ⟨h1,h2⟩
    · exact .inl ⟨by omega,h2⟩
    · exact .inr ⟨by omega,h2⟩
theorem Dy {α:Type} (p:α→Bool):∀ (l:List α),l.take (l.takeWhile p).length=l.takeWhile p
 | []=>rfl
 | a::l=>by
  cases hp:p a with
  | false=>rw [List.takeWhile_cons,hp];rfl
  | true=>
   rw [List.takeWhile_cons,hp]
   simp only [if_true,List.length_cons,List.take_succ_cons,Dy p l]
theorem B3 {l:List UInt8} (h:l.head?≠some 45):Z8 l=l.takeWhile Wn:=by
 unfold Z8
 split
 · exact absurd rfl h
 · rfl
theorem PT (l:List UInt8) (k:Nat) (hk:k≤(Z8 l).length):(k < (Z8 l).length∧∃ c,l[k]?=some c∧(Wn c=true∨(Wn c=false∧k=0∧c=45)))∨(k=(Z8 l).length∧(l[k]?=none∨∃ c,l[k]?=some c∧Wn c=false∧¬ (k=0∧c=45))):=by
 by_cases h:l.head?=some 45
 · obtain ⟨r,rfl⟩:∃ r,l=45::r:=by
    cases l with
    | nil=>cases h
    | cons a r=>injection h with h;subst h;exact ⟨r,rfl⟩
   have hp:Z8 (45::r)=45::r.takeWhile Wn:=rfl
   rw [hp,List.length_cons] at hk ⊢
   cases k with
   | zero=>exact .inl ⟨by omega,45,rfl,.inr ⟨by decide,rfl,rfl⟩⟩
   | succ k=>
    rcases Dx Wn r k (by omega) with ⟨h1,c,h2,h3⟩ | ⟨h1,h2⟩
    · exact .inl ⟨by omega,c,h2,.inl h3⟩
    · refine .inr ⟨by omega,?_⟩
      rcases h2 with h2 | ⟨c,h2,h3⟩
      · exact .inl h2
      · exact .inr ⟨c,h2,h3,by omega⟩
 · rw [B3 h] at hk ⊢
   rcases Dx Wn l k hk with ⟨h1,c,h2,h3⟩ | ⟨h1,h2⟩
   · exact .inl ⟨h1,c,h2,.inl h3⟩
   · refine .inr ⟨h1,?_⟩
     rcases h2 with h2 | ⟨c,h2,h3⟩
     · exact .inl h2
     · refine .inr ⟨c,h2,h3,?_⟩
       rintro ⟨rfl,rfl⟩
       apply h
       cases l with
       | nil=>cases h2
       | cons a r=>exact h2
theorem EZ (l:List UInt8):l.take (Z8 l).length=Z8 l:=by
 by_cases h:l.head?=some 45
 · obtain ⟨r,rfl⟩:∃ r,l=45::r:=by
    cases l with
    | nil=>cases h
    | cons a r=>injection h with h;subst h;exact ⟨r,rfl⟩
   show (45::r).take ((r.takeWhile Wn).length+1)=45::r.takeWhile Wn
   rw [List.take_succ_cons,Dy]
 · rw [B3 h];exact Dy _ _
theorem ZbR (l:List UInt8):(Z8 l).length≤l.length:=by
 have:=congrArg List.length (EZ l)
 rw [List.length_take] at this
 omega
def A6 (l:List UInt8):Vl := .tuple #[.int .i64 (XB (Z8 l)),.string (mkB (l.drop (Z8 l).length)),.bool (Ui (Z8 l)).isSome]
theorem WE (w0:Wd) (hE:Uc w0) (l:List UInt8) (hl:l.length≤100000):Ret Pg 87 #[.string (mkB l)] w0 λ r w'=>r=A6 l∧Ext w0 w':=by
 refine Zg3 (R:=ZJ _) ?_;unfold n37
 refine ZQ (λ i w=>∃ k:Nat,i = .int .i64 k∧k≤(Z8 l).length∧w=w0) (λ i _=>(Z8 l).length - (intOf i).toNat) ⟨0,rfl,by omega,rfl⟩ ?_
 rintro _ W ⟨k,rfl,hk,hW⟩
 rw [hW]
 clear hW
 have hpl:=ZbR l
 have JA:=Xa l
 have hkl':k≤l.length:=by omega
 have fin:k=(Z8 l).length→Zg Pg 125 #[.string (mkB (l.take k))] (Zb (ZJ λ r w'=>r=A6 l∧Ext w0 w')) w0 λ t39 w=>Ox (.string (mkB l)) (.int .i64 (k:Int)) t39 (ZJ λ r w'=>r=A6 l∧Ext w0 w') w:=by
  intro hke
  have hz:(mkB (l.take k)).size≤100000:=by rw [Xa,List.length_take];omega
  refine Zl (Lg hE (mkB (l.take k)) hz) ?_
  rintro _ w1 ⟨e1,ev,rfl,hev⟩
  have hp:(mkB (l.take k)).data.toList=Z8 l:=by rw [WH,hke,EZ]
  rw [hp] at hev ⊢
  unfold Ox
  simp (disch:=try exact DI) only [↓PR,QR,simprocAttr]
  refine ZG ?_
  rw [Ym λ QP w' k'=>Zj0 (k:=k') l k hkl']
  have hV:∀ b,b=(Ui (Z8 l)).isSome→Value.tuple #[.int .i64 (XB (Z8 l)),.string (mkB (l.drop k)),.bool b]=A6 l:=by
   rintro b rfl
   unfold A6
   rw [hke]
  rcases hev with ⟨h1,rfl⟩ | ⟨h1,t,x,rfl⟩
  · rw [Ym λ QP w' k'=>A8 (k:=k') underlying162]
    exact ⟨_,rfl,hV _ h1.symm,e1.drew⟩
  · rw [Ym λ QP w' k'=>A9 (k:=k') underlying162 t x]
    exact ⟨_,rfl,hV _ h1.symm,e1.drew⟩
 unfold TD
 rcases PT l k hk with ⟨Yq,c,hc,hd⟩ | ⟨hke,hno⟩
 · have hkl:k < l.length:=(List.getElem?_eq_some_iff.1 hc).1
   have hix:(mkB l).data.toList[k]?=some c:=by rw [WH];exact hc
   have d0:decide ((k:Int) < ((mkB l).size:Int))=true:=by rw [JA];simpa using hkl
   rcases hd with hd | ⟨hd,hk0,rfl⟩
   · have hd':=hd
     rw [Vg] at hd'
     have d1:decide ((c.toNat:Int)≥48)=true:=by simp;omega
     have d2:decide ((c.toNat:Int)≤57)=true:=by simp;omega
     simp (disch:=try exact DI) only [↓PR,QR,simprocAttr,d0,d1,d2,Q2 underlying9 (mkB l) .i64 k hix,xL,xK,xJ,xI,xH]
     exact ⟨⟨k+1,rfl,Yq,by trivial⟩,Yf (kd := .i64) Yq⟩
   · have d1:decide (((45:UInt8).toNat:Int)≥48)=false:=by decide
     have e45:((((45:UInt8).toNat:Nat):Int) == 45)=true:=by decide
     have e0:((k:Int) == 0)=true:=by rw [hk0];rfl
     have hix0:(mkB l).data.toList[0]?=some 45:=by rw [← hk0];exact hix
     simp (disch:=try exact DI) only [↓PR,QR,simprocAttr,d0,d1,e45,e0,Q2 underlying9 (mkB l) .i64 k hix,UP underlying9 (mkB l) .i64 hix0,xL,xK,xJ,xI,xH]
     exact ⟨⟨k+1,rfl,Yq,by trivial⟩,Yf (kd := .i64) Yq⟩
 · have fin:=fin hke
   rcases hno with hno | ⟨c,hc,hd,hn⟩
   · have hkl:l.length≤k:=List.getElem?_eq_none_iff.1 hno
     have d0:decide ((k:Int) < ((mkB l).size:Int))=false:=by rw [JA];simpa using hkl
     simp (disch:=try exact DI) only [↓PR,QR,simprocAttr,d0,xL,xK,xJ,xI,xH,Rm l k hkl']
     exact fin
   · have hkl:k < l.length:=(List.getElem?_eq_some_iff.1 hc).1
     have hix:(mkB l).data.toList[k]?=some c:=by rw [WH];exact hc
     have d0:decide ((k:Int) < ((mkB l).size:Int))=true:=by rw [JA];simpa using hkl
     have hd':¬ (48≤c.toNat∧c.toNat≤57):=λ h=>by rw [Vg.2 h] at hd;cases hd
     by_cases hk0:k=0
     · have hc45:¬ c=45:=λ h=>hn ⟨hk0,h⟩
       have e0:((k:Int) == 0)=true:=by rw [hk0];rfl
       have hix0:(mkB l).data.toList[0]?=some c:=by rw [← hk0];exact hix
       have e45:((c.toNat:Int) == 45)=false:=by
        rw [beq_eq_false_iff_ne]
        intro h
        exact hc45 (UInt8.toNat.inj (by rw [show (45:UInt8).toNat=45 from rfl];omega))
       by_cases h1:48≤c.toNat
       · have d1:decide ((c.toNat:Int)≥48)=true:=by simp;omega
         have d2:decide ((c.toNat:Int)≤57)=false:=by simp;omega
         simp (disch:=try exact DI) only [↓PR,QR,simprocAttr,d0,d1,d2,e0,e45,Q2 underlying9 (mkB l) .i64 k hix,UP underlying9 (mkB l) .i64 hix0,xL,xK,xJ,xI,xH,Rm l k hkl']
         exact fin
       · have d1:decide ((c.toNat:Int)≥48)=false:=by simp;omega
         simp (disch:=try exact DI) only [↓PR,QR,simprocAttr,d0,d1,e0,e45,Q2 underlying9 (mkB l) .i64 k hix,UP underlying9 (mkB l) .i64 hix0,xL,xK,xJ,xI,xH,Rm l k hkl']
         exact fin
     · have e0:((k:Int) == 0)=false:=by rw [beq_eq_false_iff_ne];omega
       by_cases h1:48≤c.toNat
       · have d1:decide ((c.toNat:Int)≥48)=true:=by simp;omega
         have d2:decide ((c.toNat:Int)≤57)=false:=by simp;omega
         simp (disch:=try exact DI) only [↓PR,QR,simprocAttr,d0,d1,d2,e0,Q2 underlying9 (mkB l) .i64 k hix,xL,xK,xJ,xI,xH,Rm l k hkl']
         exact fin
       · have d1:decide ((c.toNat:Int)≥48)=false:=by simp;omega
         simp (disch:=try exact DI) only [↓PR,QR,simprocAttr,d0,d1,e0,Q2 underlying9 (mkB l) .i64 k hix,xL,xK,xJ,xI,xH,Rm l k hkl']
         exact fin
theorem JW (w:Wd) (l:List UInt8) (c:UInt8):Ret Pg 128 #[.string (mkB l),.string ⟨#[c]⟩] w λ r w'=>r = .tuple #[.string (mkB (Go.Lib.trimPrefix l [c])),.bool (Go.Lib.hasPrefix l [c])]∧w'=w:=by
 refine Calls.mono (Jq (mkB l) ⟨#[c]⟩ w) ?_
 rintro e w' ⟨rfl,h⟩
 exact ⟨_,rfl,rfl,h⟩
theorem AV (w:Wd) (l:List UInt8) (c:UInt8) (hl:l.length≤1000000000):Ret Pg 49 #[.string (mkB l),.string ⟨#[c]⟩] w λ r w'=>r = .tuple #[.string (mkB (Go.Lib.trimSuffix l [c])),.bool (Go.Lib.hasSuffix l [c])]∧w'=w:=by
 refine Calls.mono (Jr (mkB l) ⟨#[c]⟩ w (by rw [Xa];omega)) ?_
 rintro e w' ⟨rfl,h⟩
 exact ⟨_,rfl,rfl,h⟩
def l1R (l:List UInt8):List UInt8:=l.drop (Z8 l).length
def l2R (l:List UInt8):List UInt8:=Go.Lib.trimPrefix (l1R l) [45]
def l3R (l:List UInt8):List UInt8:=Go.Lib.trimPrefix (l1R (l2R l)) [58]
def Au (l:List UInt8):Qm×Bool:=(⟨XB (Z8 l),XB (Z8 (l2R l)),XB (Z8 (l3R l))⟩,
 (((((Ui (Z8 l)).isSome&&Go.Lib.hasPrefix (l1R l) [45])&&(Ui (Z8 (l2R l))).isSome)&&Go.Lib.hasPrefix (l1R (l2R l)) [58])&&(Ui (Z8 (l3R l))).isSome)&&decide (l1R (l3R l)=[]))
theorem SJ (l:List UInt8):WW (Au l).1=true:=by
 unfold WW Au
 simp only [Ki,Bool.and_self]
theorem CP {n:Int} {rest:List UInt8} (hr:qF rest):l1R (Go.Lib.itoa n++rest)=rest:=by
 unfold l1R
 rw [Uy n hr,List.drop_left]
theorem US (c:UInt8) (l:List UInt8):Go.Lib.hasPrefix (c::l) [c]=true∧Go.Lib.trimPrefix (c::l) [c]=l:=by
 have h:Go.Lib.hasPrefix (c::l) [c]=true:=by simp [Go.Lib.hasPrefix]
 refine ⟨h,?_⟩
 unfold Go.Lib.trimPrefix
 rw [h]
 rfl
theorem SK {x:Qm} (h:WW x=true):Au (Vz x)=(x,true):=by
 unfold WW at h
 simp only [Bool.and_eq_true] at h
 have d1:qF (45::(Go.Lib.itoa x.high++58::Go.Lib.itoa x.to)) := .inr ⟨45,_,rfl,by decide⟩
 have d2:qF (58::Go.Lib.itoa x.to) := .inr ⟨58,_,rfl,by decide⟩
 have d3:qF ([]:List UInt8) := .inl rfl
 have e1:l1R (Vz x)=45::(Go.Lib.itoa x.high++58::Go.Lib.itoa x.to):=CP d1
 have e2:l2R (Vz x)=Go.Lib.itoa x.high++58::Go.Lib.itoa x.to:=by unfold l2R;rw [e1,(US _ _).2]
 have e3:l1R (l2R (Vz x))=58::Go.Lib.itoa x.to:=by rw [e2];exact CP d2
 have e4:l3R (Vz x)=Go.Lib.itoa x.to:=by unfold l3R;rw [e3,(US _ _).2]
 have e5:l1R (l3R (Vz x))=[]:=by rw [e4];have:=CP (n:=x.to) d3;rwa [List.append_nil] at this
 have p1:Z8 (Vz x)=Go.Lib.itoa x.low:=Uy _ d1
 have p2:Z8 (l2R (Vz x))=Go.Lib.itoa x.high:=by rw [e2];exact Uy _ d2
 have p3:Z8 (l3R (Vz x))=Go.Lib.itoa x.to:=by rw [e4];have:=Uy x.to d3;rwa [List.append_nil] at this
 have a1:=Vc h.1
 have a2:=Vc h.2.1
 have a3:=Vc h.2.2
 unfold Au
 rw [e5,e3,e1,p1,p2,p3,a1,a2,a3,UE a1,UE a2,UE a3,(US _ _).1,(US _ _).1]
 rfl
theorem Cd (l p:List UInt8):(Go.Lib.trimPrefix l p).length≤l.length:=by
 unfold Go.Lib.trimPrefix
 split
 · rw [List.length_drop];omega
 · omega
theorem NH (l:List UInt8):(l1R l).length≤l.length:=by unfold l1R;rw [List.length_drop];omega
theorem IK (l:List UInt8):decide (mkB l=⟨#[]⟩)=decide (l=[]):=by
 rw [decide_eq_decide]
 constructor
 · intro h
   have:=congrArg (λ b:BAr=>b.data.toList) h
   simpa [mkB] using this
 · rintro rfl;rfl
theorem SL (w0:Wd) (hE:Uc w0) (l:List UInt8) (hl:l.length≤100000):Ret Pg 89 #[.string (mkB l)] w0 λ r w'=>r = .tuple #[.agg (Z6 (Au l).1).toArray,.bool (Au l).2]∧Ext w0 w':=by
 have z1:=NH l
 have z2:=Cd (l1R l) [45]
 have z3:=NH (l2R l)
 have z4:=Cd (l1R (l2R l)) [58]
 change (l2R l).length≤_ at z2
 change (l3R l).length≤_ at z4
 refine Zhb (R:=ZJ _) ?_;unfold n45
 simp (disch:=try exact DI) only [↓PR,QR,simprocAttr]
 have oV:=Zz w0 #[.int .i64 0,.int .i64 0,.int .i64 0] 78
 have eV:Ext w0 (w0.alloc (.cells #[.int .i64 0,.int .i64 0,.int .i64 0] 78)):=(Ext.refl w0).alloc _
 generalize (w0.alloc (.cells #[.int .i64 0,.int .i64 0,.int .i64 0] 78))=V at oV eV ⊢
 obtain ⟨p,hp⟩:∃ p,w0.heap.size=p:=⟨_,rfl⟩
 rw [hp] at oV ⊢
 have lp:w0.heap.size≤p:=by omega
 refine zcr (WE V (hE.ext eV) l hl) λ w1 e1=>?_
 have E1:=eV.trans e1
 have o1:=e1.obj oV
 unfold A6 TZ
 change _ at *
 simp (disch:=try exact DI) only [↓PR,QR,simprocAttr,(Za o1).1,(Za o1).2]
 have o2:=Zw (o:=0) o1 (.int .i64 (XB (Z8 l)))
 have E2:=E1.setCell (p:=⟨p,0,none⟩) lp (.int .i64 (XB (Z8 l)))
 generalize (w1.setCell ⟨p,0,none⟩ (.int .i64 (XB (Z8 l))))=w2 at o2 E2 ⊢
 refine Zl (JW w2 (l1R l) 45) ?_
 rintro _ W ⟨rfl,hW⟩
 rw [hW]
 clear hW
 unfold TY
 simp (disch:=try exact DI) only [↓PR,QR,simprocAttr]
 refine zcr (WE w2 (hE.ext E2) (l2R l) (by omega)) λ w3 e3=>?_
 have E3:=E2.trans e3
 have o3:=e3.obj o2
 unfold A6 TX TW
 simp (disch:=try exact DI) only [↓PR,QR,simprocAttr,(Za o3).1,(Za o3).2]
 have o4:=Zw (o:=1) o3 (.int .i64 (XB (Z8 (l2R l))))
 have E4:=E3.setCell (p:=⟨p,1,none⟩) lp (.int .i64 (XB (Z8 (l2R l))))
 generalize (w3.setCell ⟨p,1,none⟩ (.int .i64 (XB (Z8 (l2R l)))))=w4 at o4 E4 ⊢
 refine Zl (JW w4 (l1R (l2R l)) 58) ?_
 rintro _ W ⟨rfl,hW⟩
 rw [hW]
 clear hW
 unfold TV
 simp (disch:=try exact DI) only [↓PR,QR,simprocAttr]
 refine zcr (WE w4 (hE.ext E4) (l3R l) (by omega)) λ w5 e5=>?_
 have E5:=E4.trans e5
 have o5:=e5.obj o4
 have o6:=Zw (o:=2) o5 (.int .i64 (XB (Z8 (l3R l))))
 have E6:=E5.setCell (p:=⟨p,2,none⟩) lp (.int .i64 (XB (Z8 (l3R l))))
 unfold A6 TU TT
 simp only [List.setIfInBounds_toArray,List.set_cons_zero,List.set_cons_succ] at o6
 simp (disch:=try exact DI) only [↓PR,QR,simprocAttr,(Za o5).1,(Za o5).2,(Za o6).1,(Za o6).2]
 refine ⟨?_,(((E6.setCell (p:=⟨p,0,none⟩) lp _).setCell (p:=⟨p,1,none⟩) lp _).setCell (p:=⟨p,2,none⟩) lp _)⟩
 rw [IK]
 rfl
section
variable {P:Program} {QP:PEn} {w:Wd} {k:KV}
theorem Mg (t:TypeId) (c:Bool) (kd:IntKind) (a b:Int):opV P (Zh .or t c (.int kd a) (.int kd b)) QP w k=k (.int kd (kd.wrap ((BitVec.ofInt kd.bits a ||| BitVec.ofInt kd.bits b).toNat:Nat))) w:=ZS (by rw [Y2 _ _ _ _ _ _ rfl];rfl)
theorem SB (t:TypeId) (c:Bool) (kd:IntKind) (x y:Int) (h0:0≤y):opV P (Zh .shl t c (.int kd x) (.int .u64 y)) QP w k=k (.int kd (kd.wrap (x*2 ^ min y.toNat kd.bits))) w:=ZS (by
 have h0:¬ (y < 0):=by omega
 simp [Zh,go_sem,Op.shift,h0])
end
def lwC (c:UInt8):Int:=IntKind.u8.wrap ((BitVec.ofInt IntKind.u8.bits (c.toNat:Int) ||| BitVec.ofInt IntKind.u8.bits 32).toNat:Nat)
theorem zT (w0:Wd) (c:UInt8):Ret Pg 188 #[.int .u8 c.toNat] w0 λ r w'=>r = .int .u8 (lwC c)∧w'=w0:=by
 refine ZgI (R:=ZJ _) ?_;unfold n13
 simp (disch:=try exact DI) only [↓PR,QR,simprocAttr,Mg]
 exact ⟨by trivial,by trivial⟩
theorem NB:∀ n:Fin 256,(Vi (UInt8.ofNat n.1)=if 48≤n.1∧n.1≤57 then some (n.1 - 48) else if 97≤lwC (UInt8.ofNat n.1)∧lwC (UInt8.ofNat n.1)≤102 then some ((lwC (UInt8.ofNat n.1)).toNat - 87) else none):=by decide +kernel
theorem R9 (c:UInt8):Vi c=if 48≤c.toNat∧c.toNat≤57 then some (c.toNat - 48) else if 97≤lwC c∧lwC c≤102 then some ((lwC c).toNat - 87) else none:=by
 have:=NB ⟨c.toNat,c.toNat_lt⟩
 simpa only [UInt8.ofNat_toNat] using this
theorem Sa {c:UInt8} {d:Nat} (h:Vi c=some d):d < 16:=by
 unfold Vi at h
 split at h
 · injection h with h;omega
 · split at h
   · injection h with h;omega
   · split at h
     · injection h with h;omega
     · cases h
def DJ (o:Option Nat) (c:UInt8):Option Nat:=o.bind λ m=>(Vi c).map λ d=>16*m+d
def Qg (l:List UInt8):Option Nat:=l.foldl DJ (some 0)
theorem Eh (l:List UInt8) (c:UInt8):Qg (l++[c])=DJ (Qg l) c:=by unfold Qg;simp
theorem Eg (l r:List UInt8) (h:Qg l=none):Qg (l++r)=none:=by
 unfold Qg at h ⊢
 rw [List.foldl_append,h]
 clear h
 induction r with
 | nil=>rfl
 | cons c r ih=>exact ih
def Ch (w0:Wd) (t:List UInt8) (r:Vl) (w':Wd):Prop:=Ext w0 w'∧((∃ m,Qg t=some m∧m < 256∧r = .tuple #[.int .u64 m,.nilIface])∨(Qg t=none∧r = .tuple #[.int .u64 0,.iface 239 (.int .i64 2)]))
theorem jf (w0:Wd) (t:List UInt8) (h1:1≤t.length) (h2:t.length≤2):Ret Pg 155 #[.string (mkB t),.int .i64 16,.int .i64 8] w0 (Ch w0 t):=by
 have YW:decide (mkB t=⟨#[]⟩)=false:=by rw [IK];simp;rintro rfl;simp at h1
 refine n8s (R:=ZJ _) ?_;unfold n8
 simp (disch:=try exact DI) only [↓PR,QR,simprocAttr,YW,ZaX,ZaW,ZaV,ZaU,ZaT,ZaS]
 rw [SB _ _ _ _ _ (by decide),show IntKind.u64.wrap (1*2 ^ min (IntKind.u64.wrap 8).toNat IntKind.u64.bits)=256 by decide,Dl,show IntKind.u64.wrap (256 - 1)=255 by decide]
 refine Ad underlying9 underlying40 underlying5 (mkB t) (by rw [Xa];omega) ?_
 rintro _ V eV ⟨A,c,rfl,_,_,b,rfl,YV⟩
 rw [WH] at YV
 rw [Xa]
 simp (disch:=try exact DI) only [↓PR,QR,simprocAttr]
 refine WF (λ x y z w'=>∃ k m:Nat,x = .bool false∧y = .int .u64 m∧z = .int .i64 k∧k≤t.length∧w'=V∧Qg (t.take k)=some m∧m < 16 ^ k) (λ _ _ z _=>t.length - (intOf z).toNat) ⟨0,0,rfl,rfl,rfl,by omega,rfl,rfl,by decide⟩ ?_
 rintro _ _ _ W ⟨k,m,rfl,rfl,rfl,hk,hW,hm,hmk⟩
 rw [hW]
 clear hW
 rcases ZY hk with ⟨x,hx,_,Yq,Z5⟩ | ⟨hk,_,Z5⟩
 · have hc:=YV k x hx
   have hk1:k≤1:=by omega
   have hm16:m < 16:=by
    have:(16:Nat) ^ k≤16 ^ 1:=Nat.pow_le_pow_right (by decide) hk1
    omega
   have hx256:x.toNat < 256:=x.toNat_lt
   have hsn:Qg (t.take (k+1))=DJ (some m) x:=by rw [X7 hx,Eh,hm]
   have bad:Vi x=none→∀ w',Ext V w'→Ch w0 t (.tuple #[.int .u64 0,.iface 239 (.int .i64 2)]) w':=by
    intro hn w' e'
    refine ⟨eV.trans e',.inr ⟨?_,rfl⟩⟩
    have h0:Qg (t.take (k+1))=none:=by rw [hsn];unfold DJ;rw [hn];rfl
    have:=Eg _ (t.drop (k+1)) h0
    rwa [List.take_append_drop] at this
   have good:∀ (K6:KW),(∀ d,Vi x=some d→d < 16→K6 (.bool false) (.int .u64 ((16*m+d:Nat):Int)) V)→∀ (d:Nat),Vi x=some d→HE (.int .u64 1152921504606846976) (.bool false) (.int .u64 m) (.int .u8 d) (.int .u64 255) (.int .i64 16) K6 (ZJ (Ch w0 t)) V:=by
    intro K6 hK6 d hd
    have hd16:=Sa hd
    have u1:IntKind.u8.wrap 16=16:=by decide
    have u2:IntKind.u64.wrap 16=16:=by decide
    have wr:∀ n:Nat,n < 65536→IntKind.u64.wrap (n:Int)=(n:Int):=λ n hn=>IntWalk.u64_in _ ⟨by omega,by omega⟩
    have f1:decide ((d:Int)≥16)=false:=by simp;omega
    have f2:decide ((m:Int)≥1152921504606846976)=false:=by simp;omega
    unfold HE
    simp (disch:=try exact DI) only [↓PR,QR,simprocAttr,u1,f1,f2,Zer,Zen]
    have e1:IntKind.u64.wrap (IntKind.u64.wrap ((m:Int)*IntKind.u64.wrap 16)+IntKind.u64.wrap (d:Int))=((16*m+d:Nat):Int):=by
     rw [u2,wr d (by omega),show (m:Int)*16=((16*m:Nat):Int) by omega,wr (16*m) (by omega),show ((16*m:Nat):Int)+(d:Int)=((16*m+d:Nat):Int) by omega,wr _ (by omega)]
    have e2:IntKind.u64.wrap ((m:Int)*IntKind.u64.wrap 16)=((16*m:Nat):Int):=by
     rw [u2,show (m:Int)*16=((16*m:Nat):Int) by omega,wr (16*m) (by omega)]
    rw [e1,e2]
    have g1:decide (((16*m+d:Nat):Int) < ((16*m:Nat):Int))=false:=by simp only [decide_eq_false_iff_not];omega
    have g2:decide ((255:Int) < ((16*m+d:Nat):Int))=false:=by simp only [decide_eq_false_iff_not];omega
    rw [g1,g2]
    simp (disch:=try exact DI) only [↓PR,QR,simprocAttr]
    exact hK6 d hd hd16
   have next:∀ d,Vi x=some d→d < 16→(∃ k' m':Nat,Value.bool false = .bool false∧Value.int .u64 ((16*m+d:Nat):Int) = .int .u64 m'∧Value.int .i64 ((k+1:Nat):Int) = .int .i64 k'∧k'≤t.length∧V=V∧Qg (t.take k')=some m'∧m' < 16 ^ k')∧t.length - (intOf (Value.int .i64 ((k+1:Nat):Int))).toNat < t.length - (intOf (Value.int IntKind.i64 k)).toNat:=by
    intro d hd hd16
    refine ⟨⟨k+1,16*m+d,rfl,rfl,rfl,Yq,rfl,by rw [hsn];unfold DJ;rw [hd];rfl,?_⟩,Yf (kd := .i64) Yq⟩
    rw [Nat.pow_succ]
    omega
   have worse:∀ (d:Nat),16≤d→d < 256→Vi x=none→∀ K6,HE (.int .u64 1152921504606846976) (.bool false) (.int .u64 m) (.int .u8 d) (.int .u64 255) (.int .i64 16) K6 (ZJ (Ch w0 t)) V:=by
    intro d hd hd2 hn K6
    have u1:IntKind.u8.wrap 16=16:=by decide
    have f1:decide ((d:Int)≥16)=true:=by simp;omega
    unfold HE
    simp (disch:=try exact DI) only [↓PR,QR,simprocAttr,u1,f1]
    exact bad hn V (Ext.refl _)
   have hc':V.cell? ⟨b,k*1,none⟩=some (.int .u8 x.toNat):=by rw [Nat.mul_one];exact hc
   have rest:∀ K6,(∀ d,Vi x=some d→HE (.int .u64 1152921504606846976) (.bool false) (.int .u64 m) (.int .u8 d) (.int .u64 255) (.int .i64 16) K6 (ZJ (Ch w0 t)) V)→ZbK (.int .u64 1152921504606846976) (.bool false) (.int .u64 m) (.int .u64 255) (.int .u8 x.toNat) (.int .i64 16) K6 (ZJ (Ch w0 t)) V:=by
    intro K6 good
    have hv:=R9 x
    have lwr:0≤lwC x∧lwC x < 256:=by
     have:∀ n:Fin 256,0≤lwC (UInt8.ofNat n.1)∧lwC (UInt8.ofNat n.1) < 256:=by decide +kernel
     have:=this ⟨x.toNat,hx256⟩
     simpa only [UInt8.ofNat_toNat] using this
    unfold ZbK
    have not_digit:¬ (48≤x.toNat∧x.toNat≤57)→Zg Pg 188 #[.int .u8 x.toNat] (Zb (ZJ (Ch w0 t))) V λ t123 w=>ZbJ (.int .u8 x.toNat) t123 (λ t16 w=>HE (.int .u64 1152921504606846976) (.bool false) (.int .u64 m) t16 (.int .u64 255) (.int .i64 16) K6 (ZJ (Ch w0 t)) w) (ZJ (Ch w0 t)) w:=by
     intro hn
     rw [if_neg hn] at hv
     refine Zl (zT V x) ?_
     rintro _ W ⟨rfl,hW⟩
     rw [hW]
     clear hW
     unfold ZbJ
     by_cases l1:97≤lwC x
     · have g1:decide (97≤lwC x)=true:=by simpa using l1
       simp (disch:=try exact DI) only [↓PR,QR,simprocAttr,g1]
       refine Zl (zT V x) ?_
       rintro _ W ⟨rfl,hW⟩
       rw [hW]
       clear hW
       by_cases l2:lwC x≤122
       · have g2:decide (lwC x≤122)=true:=by simpa using l2
         simp (disch:=try exact DI) only [↓PR,QR,simprocAttr,g1,g2,Sp,Zey]
         refine Zl (zT V x) ?_
         rintro _ W ⟨rfl,hW⟩
         rw [hW]
         clear hW
         simp (disch:=try exact DI) only [↓PR,QR,simprocAttr]
         have hd:IntKind.u8.wrap (IntKind.u8.wrap (lwC x - 97)+10)=(((lwC x).toNat - 87:Nat):Int):=by
          rw [IntWalk.u8_in (lwC x - 97) ⟨by omega,by omega⟩,IntWalk.u8_in _ ⟨by omega,by omega⟩]
          omega
         rw [hd]
         by_cases l3:lwC x≤102
         · rw [if_pos ⟨l1,l3⟩] at hv
           exact good _ hv
         · rw [if_neg (by omega)] at hv
           exact worse _ (by omega) (by omega) hv _
       · have g2:decide (lwC x≤122)=false:=by simpa using l2
         rw [if_neg (by omega)] at hv
         simp (disch:=try exact DI) only [↓PR,QR,simprocAttr,g1,g2,Sp]
         exact bad hv V (Ext.refl _)
     · have g1:decide (97≤lwC x)=false:=by simpa using l1
       rw [if_neg (by omega)] at hv
       simp (disch:=try exact DI) only [↓PR,QR,simprocAttr,g1,Sp]
       exact bad hv V (Ext.refl _)
    by_cases a1:48≤x.toNat
    · have d1:decide (48≤(x.toNat:Int))=true:=by simp;omega
      by_cases a2:x.toNat≤57
      · have d2:decide ((x.toNat:Int)≤57)=true:=by simp;omega
        rw [if_pos ⟨a1,a2⟩] at hv
        have hd:IntKind.u8.wrap ((x.toNat:Int) - 48)=((x.toNat - 48:Nat):Int):=by rw [IntWalk.u8_in _ ⟨by omega,by omega⟩];omega
        simp (disch:=try exact DI) only [↓PR,QR,simprocAttr,d1,d2,Sq,hd]
        exact good _ hv
      · have d2:decide ((x.toNat:Int)≤57)=false:=by simp;omega
        simp (disch:=try exact DI) only [↓PR,QR,simprocAttr,d1,d2,Sq]
        exact not_digit (by omega)
    · have d1:decide (48≤(x.toNat:Int))=false:=by simp;omega
      simp (disch:=try exact DI) only [↓PR,QR,simprocAttr,d1,Sq]
      exact not_digit (by omega)
   unfold Po
   simp (disch:=try exact DI) only [↓PR,QR,simprocAttr,Z5]
   unfold ZaR
   by_cases h95:((x.toNat:Int) == 95)=true
   · simp (disch:=try exact DI) only [↓PR,QR,simprocAttr,hc',h95]
     exact rest _ (good _ next)
   · have h95:((x.toNat:Int) == 95)=false:=by simpa using h95
     simp (disch:=try exact DI) only [↓PR,QR,simprocAttr,hc',h95]
     exact rest _ (good _ next)
 · subst hk
   rw [List.take_length] at hm
   simp (disch:=try exact DI) only [↓PR,QR,simprocAttr,Z5]
   unfold Po
   simp (disch:=try exact DI) only [↓PR,QR,simprocAttr,Z5,ZaQ,Zez]
   have:(16:Nat) ^ t.length≤16 ^ 2:=Nat.pow_le_pow_right (by decide) h2
   exact ⟨eV,.inl ⟨m,hm,by omega,rfl⟩⟩
theorem AW (w0:Wd) (hE:Uc w0) (t:List UInt8) (h1:1≤t.length) (h2:t.length≤2):Ret Pg 127 #[.string (mkB t),.int .i64 16,.int .i64 8] w0 λ r w'=>Ext w0 w'∧((∃ m,Qg t=some m∧m < 256∧r = .tuple #[.int .u64 m,.nilIface])∨(Qg t=none∧∃ n tt x,r = .tuple #[.int .u64 n,.iface tt x])):=by
 refine Zef (R:=ZJ _) ?_;unfold Zee
 refine Zl (jf w0 t h1 h2) ?_
 rintro _ w1 ⟨e1,⟨m,hm,Yq,rfl⟩ | ⟨hn,rfl⟩⟩
 · unfold Hi
   simp (disch:=try exact DI) only [↓PR,QR,simprocAttr]
   exact ⟨e1,.inl ⟨m,hm,Yq,rfl⟩⟩
 · unfold Hi
   simp (disch:=try exact DI) only [↓PR,QR,simprocAttr]
   obtain ⟨ev,g1,g2⟩:=(hE.ext e1).syn
   refine Calls.mono (Any.strconv_toError_syntax (P:=Pg) (ρ:=U5) { VV with } ⟨#[80,97,114,115,101,85,105,110,116]⟩ (mkB t) 16 8 ev w1 (by rw [Xa];omega) g1 g2) ?_
   rintro e w' ⟨N,rfl,_,_,hb⟩
   exact ⟨_,rfl,e1.trans (Ext.of_below hb),.inr ⟨hn,_,_,_,rfl⟩⟩
section
variable {P:Program} {QP:PEn} {w:Wd} {k:KV}
theorem Je {t e:TypeId} {agg:Bool} {n m:Nat} {z:Vl} (hu:P.underlying t=some (.slice e)) (ht:ZF P e agg n m z) (b o len cap:Nat) (l:Nat) (hl:l≤len) (hc:len≤cap) :
 opV P (Instr.sliceAt t (.slice (some ⟨b,o,none⟩) len cap) (some (.int .i64 (l:Int))) none none) QP w k=k (.slice (some ⟨b,if cap=l then o else o+l*n,none⟩) (len - l) (cap - l)) w:=by
 refine ZS ?_
 have h2:(l:Int)≤(len:Int):=by omega
 have h3:(0:Int)≤(l:Int):=by omega
 by_cases h:cap=l
 · simp [Instr.sliceAt,run_underlying hu,Instr.slice,Instr.sliceBounds,run_sliceBound,h2,h3,h,Sw.run_sizeOf ht,Addr.add_lit]
 · simp [Instr.sliceAt,run_underlying hu,Instr.slice,Instr.sliceBounds,run_sliceBound,h2,h3,h,Sw.run_sizeOf ht,Addr.add_lit]
theorem ET {t e:TypeId} {agg:Bool} {n m:Nat} {z:Vl} (hu:P.underlying t=some (.slice e)) (ht:ZF P e agg n m z) (b o len cap:Nat) (l h:Nat) (hl:l < h) (hh:h≤cap) :
 opV P (Instr.sliceAt t (.slice (some ⟨b,o,none⟩) len cap) (some (.int .i64 (l:Int))) (some (.int .i64 (h:Int))) (some (.int .i64 (h:Int)))) QP w k=k (.slice (some ⟨b,o+l*n,none⟩) (h - l) (h - l)) w:=by
 refine ZS ?_
 have h1:(l:Int)≤(h:Int):=by omega
 have h2:(h:Int)≤(cap:Int):=by omega
 have h3:(0:Int)≤(l:Int):=by omega
 have h4:(0:Int)≤(h:Int):=by omega
 have h5:h≠l:=by omega
 simp [Instr.sliceAt,run_underlying hu,Instr.slice,Instr.sliceBounds,run_sliceBound,h1,h2,h3,h4,h5,Sw.run_sizeOf ht,Addr.add_lit]
end
def Ah (b len:Nat) (k:Nat):Vl := .slice (some ⟨b,2*k,none⟩) (min 2 (len - 2*k)) (min 2 (len - 2*k))
def Cl (w:Wd) (p1 p2 b len cap:Nat):Prop:=w.heap[p1]?=some (.cells #[.slice (some ⟨b,0,none⟩) len cap] 40 (0,0))∧w.heap[p2]?=some (.cells #[.int .i64 2] 3 (0,0))
theorem Li (p1 p2 b len cap:Nat) (hc:len≤cap) (hl:len≤1000000000):Is Pg 154 #[.pointer (some ⟨p1,0,none⟩),.pointer (some ⟨p2,0,none⟩)] ((len+1) / 2) (Ah b len) (λ w=>Cl w p1 p2 b len cap):=by
 intro yv J Jx Jp w hFP hJe hJx XG h0
 refine Zdv (t0:=yv) (t1 := .pointer (some ⟨p1,0,none⟩)) (t2 := .pointer (some ⟨p2,0,none⟩)) ?_
 unfold Zdu
 refine ZQ (λ i w=>∃ k:Nat,i = .int .i64 ((2*k:Nat):Int)∧k≤(len+1) / 2∧J k w) (λ i _=>len+2 - (intOf i).toNat) ⟨0,rfl,by omega,h0⟩ ?_
 rintro i w' ⟨k,rfl,hk,hJ⟩
 obtain ⟨c1,c2⟩:=hFP k w' hJ
 have q1:=(Za c1).1
 have q2:=(Za c2).1
 unfold NU
 by_cases Yq:2*k < len
 · have d0:decide (((2*k:Nat):Int) < (len:Int))=true:=by simp only [decide_eq_true_eq];omega
   simp (disch:=try exact DI) only [↓PR,QR,simprocAttr,q1,d0]
   refine ZG ?_
   have eD:Ext w' (Sw.drew w'):=(Ext.refl w').drew
   have hJ2:=hJe k w' _ hJ eD
   generalize (Sw.drew w')=D at eD hJ2 ⊢
   have q1:=(Za (eD.obj c1)).1
   have q2:=(Za (eD.obj c2)).1
   unfold NT
   have hmin:(if ((len - 2*k:Nat):Int) < 2 then ((len - 2*k:Nat):Int) else 2)=((min 2 (len - 2*k):Nat):Int):=by split<;>omega
   have hadd:IntKind.i64.wrap (((2*k:Nat):Int)+((min 2 (len - 2*k):Nat):Int))=((2*k+min 2 (len - 2*k):Nat):Int):=by rw [Xf (by omega) (by omega)];omega
   have hv:Ah b len k = .slice (some ⟨b,0+2*k*1,none⟩) (2*k+min 2 (len - 2*k) - 2*k) (2*k+min 2 (len - 2*k) - 2*k):=by
    unfold Ah
    rw [show 2*k+min 2 (len - 2*k) - 2*k=min 2 (len - 2*k) by omega,show 0+2*k*1=2*k by omega]
   simp (disch:=try exact DI) only [↓PR,QR,simprocAttr,q1,q2]
   rw [Ym λ QP w k'=>Je (k:=k') underlying40 ty5 b 0 len cap (2*k) (by omega) hc]
   simp (disch:=try exact DI) only [↓PR,QR,simprocAttr,q1]
   rw [hmin]
   simp only [hadd]
   rw [ET underlying40 ty5 b 0 len cap (2*k) (2*k+min 2 (len - 2*k)) (by omega) (by omega),← hv]
   refine UF (XG k (by omega) D hJ2) (λ ch w h=>h) ?_
   rintro v w2 (⟨rfl,h2⟩ | ⟨rfl,h2⟩)
   · obtain ⟨_,c2'⟩:=hFP (k+1) w2 h2
     have hadd2:IntKind.i64.wrap (((2*k:Nat):Int)+2)=((2*(k+1):Nat):Int):=by rw [Xf (by omega) (by omega)];omega
     unfold Hf
     simp (disch:=try exact DI) only [↓PR,QR,simprocAttr,(Za c2').1]
     simp only [hadd2]
     refine ⟨⟨k+1,rfl,by omega,h2⟩,?_⟩
     show len+2 - (((2*(k+1):Nat):Int)).toNat < len+2 - (((2*k:Nat):Int)).toNat
     rw [Int.toNat_natCast,Int.toNat_natCast]
     omega
   · unfold Hf
     simp (disch:=try exact DI) only [↓PR,QR,simprocAttr]
     exact .inr h2
 · have d0:decide (((2*k:Nat):Int) < (len:Int))=false:=by simp only [decide_eq_false_iff_not];omega
   have hke:k=(len+1) / 2:=by omega
   simp (disch:=try exact DI) only [↓PR,QR,simprocAttr,q1,d0]
   subst hke
   exact .inl hJ
abbrev XF (c:UInt8):List Vl:=[.int .u8 c.toNat]
theorem DO {w:Wd} {QP:PEn} {k:KV} {base:Nat} {v:Vl} {l:List UInt8} (x:UInt8) {b:Nat} (je:ZT w base 5 1 XF v l) (hc:w.cell? ⟨b,0,none⟩=some (.int .u8 x.toNat)) (Ks:base≤w.heap.size) (hl:l.length≤1048576)
 (hk:∀ v' w',ZT w' base 5 1 XF v' (l++[x])→w.grownBy w' v.ownBlock→k v' w') :
 opV Pg (Builtin.append_ #[40,40] 40 #[v,.slice (some ⟨b,0,none⟩) 1 1]) QP w k:=by
 have hby:=by5
 refine Wv (l':=[x]) underlying40 ty5 rfl (by decide) (λ _=>rfl) (λ x _ u hu=>by simp at hu;subst hu;rfl) je (λ j x hx=>?_) Ks ?_ (by simp;omega) hk
 · cases j with
   | zero=>
    simp at hx;subst hx
    intro j v hv
    cases j with
    | zero=>simp at hv;subst hv;simpa using hc
    | succ j=>simp at hv
   | succ j=>simp at hx
 · simp only [List.length_cons,List.length_nil]
   exact Nat.le_trans (Nat.mul_le_mul (Nat.add_le_add_right hl 1) hby) (by decide)
theorem F7 {α:Type} {B base n:Nat} {T:TypeId} {enc:α→List Vl} {v:Vl} {l:List α}:ZM B (λ w=>ZT w base T n enc v l):=⟨λ _ _ h e=>h.ext e,λ w q r r' _ h hq=>by
 refine ⟨h.1,?_⟩
 rcases h.2 with h2 | ⟨g,cap,cur,h1,h2,h3,h4⟩
 · exact .inl h2
 · refine .inr ⟨g,cap,cur,h1,h2,(World.putObj_heap_other (by rintro rfl;rw [h3] at hq;cases hq)).trans h3,h4⟩⟩
theorem HU {α:Type} {w:Wd} {base n B:Nat} {T:TypeId} {enc:α→List Vl} {v:Vl} {l:List α} {o:Obj} (h:ZT w base T n enc v l) (hm:Z0 B w):ZT (w.putObj B o) base T n enc v l:=by
 refine ⟨h.1,?_⟩
 rcases h.2 with h2 | ⟨g,cap,cur,h1,h2,h3,h4⟩
 · exact .inl h2
 · refine .inr ⟨g,cap,cur,h1,h2,(World.putObj_heap_other (by rintro rfl;unfold Z0 at hm;rw [h3] at hm;cases hm)).trans h3,h4⟩
theorem AO {r:List UInt8} (h:r≠[]):(∃ m,Qg (r.take 2)=some m∧Xx r=(Xx (r.drop 2)).map (UInt8.ofNat m::·))∨(Qg (r.take 2)=none∧Xx r=none):=by
 match r,h with
 | [a],_=>
  have hv:Qg ([a].take 2)=(Vi a).map λ d=>16*0+d:=rfl
  rw [hv]
  unfold Xx
  cases Vi a with
  | none=>exact .inr ⟨rfl,rfl⟩
  | some d=>exact .inl ⟨_,rfl,by simp [Xx]⟩
 | a::b::l,_=>
  have hv:Qg ((a::b::l).take 2)=DJ (DJ (some 0) a) b:=rfl
  rw [hv]
  show (∃ m,_∧Xx (a::b::l)=(Xx l).map (UInt8.ofNat m::·))∨_
  rw [Xx]
  unfold DJ
  cases ha:Vi a with
  | none=>exact .inr ⟨rfl,rfl⟩
  | some x=>
   cases hb:Vi b with
   | none=>exact .inr ⟨rfl,rfl⟩
   | some y=>
    refine .inl ⟨16*x+y,by simp,?_⟩
    cases Xx l<;>rfl
theorem MK (w0:Wd) (hE:Uc w0) (s:List UInt8) (hl:s.length≤1000000):Ret Pg 88 #[.string (mkB s)] w0 λ r w'=>ZT w' w0.heap.size 5 1 XF r (Qy s)∧Ext w0 w':=by
 refine Zhd (R:=ZJ _) ?_;unfold n47
 simp (disch:=try exact DI) only [↓PR,QR,simprocAttr]
 have o2:=Zz w0 #[.slice none 0 0] 40
 have e1:Ext w0 (w0.alloc (.cells #[.slice none 0 0] 40)):=(Ext.refl w0).alloc _
 have s1:(w0.alloc (.cells #[.slice none 0 0] 40)).heap.size=w0.heap.size+1:=World.size_alloc ..
 generalize (w0.alloc (.cells #[.slice none 0 0] 40))=w1 at o2 e1 s1 ⊢
 obtain ⟨p2,hp2⟩:∃ p2,w0.heap.size=p2:=⟨_,rfl⟩
 rw [hp2] at o2 s1 ⊢
 have l2:w0.heap.size≤p2:=by omega
 refine Ad underlying9 underlying40 underlying5 (mkB s) (by rw [Xa];omega) ?_
 rintro _ w2 e2 ⟨A,c,rfl,hsc,hcm,b,rfl,YV⟩
 rw [WH] at YV
 rw [Xa] at hsc ⊢
 have chunk:Ret Pg 126 #[.slice (some ⟨b,0,none⟩) s.length c,.int .i64 2] w2 λ r w'=>Ext w2 w'∧∃ q1 q2,r = .func (.func 154) #[] #[.pointer (some ⟨q1,0,none⟩),.pointer (some ⟨q2,0,none⟩)]∧Cl w' q1 q2 b s.length c:=by
  refine Zdt (R:=ZJ _) ?_;unfold Zds
  simp (disch:=try exact DI) only [↓PR,QR,simprocAttr]
  refine ⟨ee,_,_,rfl,?_,By (World.size_alloc ..).symm _⟩
  rw [Bz (by rw [World.size_alloc];omega)]
  exact Zz _ _ _
 refine Zl chunk ?_
 rintro _ w3 ⟨e3,q1,q2,rfl,hP⟩
 have o2:=(e2.trans e3).obj o2
 have E3:=e1.trans (e2.trans e3)
 have hel3:∀ j x,s[j]?=some x→w3.cell? ⟨b,j,none⟩=some (.int .u8 x.toNat):=λ j x h=>e3.cell (YV j x h)
 have lp2:=(Array.getElem?_eq_some_iff.1 o2).1
 have lq1:=(Array.getElem?_eq_some_iff.1 hP.1).1
 have lq2:=(Array.getElem?_eq_some_iff.1 hP.2).1
 have nb:s≠[]→b≠p2∧b < w3.heap.size:=by
  intro hs
  cases s with
  | nil=>exact absurd rfl hs
  | cons x s=>
   have h0:=hel3 0 x rfl
   refine ⟨?_,World.block_lt_of_cell? _ _ h0⟩
   rintro rfl
   rw [(Za o2).1] at h0
   cases h0
 have nq1:q1≠p2:=by
  rintro rfl
  have h:=hP.1
  rw [o2] at h
  cases h
 have nq2:q2≠p2:=by
  rintro rfl
  have h:=hP.2
  rw [o2] at h
  cases h
 unfold T7
 let I:Nat→Wd→Prop:=λ j w=>Ext w0 w∧w3.heap.size≤w.heap.size∧Cl w q1 q2 b s.length c∧(∀ i x,s[i]?=some x→w.cell? ⟨b,i,none⟩=some (.int .u8 x.toNat))∧∃ (rv:Vl) (acc:List UInt8),w.heap[p2]?=some (.cells #[rv] 40 (0,0))∧ZT w w3.heap.size 5 1 XF rv acc∧acc.length≤j∧Xx s=(Xx (s.drop (2*j))).map (acc++·)
 let Ix:Nat→Wd→Prop:=λ x w=>x=0∧Ext w0 w∧w.heap[p2]?=some (.cells #[.slice none 0 0] 40 (0,0))∧Qy s=[]
 have lall:∀ {α β:Type} {Q:α→β→Prop} {F:α→β→Wd→Prop},(∀ x y,ZM w3.heap.size (F x y))→ZM w3.heap.size (λ w=>∀ x y,Q x y→F x y w):=λ h=>⟨λ w w' hw e x y q=>(h x y).ext _ _ (hw x y q) e,λ w l r r' hl hw hr x y q=>(h x y).loop _ _ _ _ hl (hw x y q) hr⟩
 have hLI:∀ k,ZM w3.heap.size (I k):=λ k=>ZM.and (ZM.from E3.size) (ZM.and ⟨λ _ _ h e=>Nat.le_trans h e.size,λ _ _ _ _ _ h _=>by rw [World.putObj_size];exact h⟩ (ZM.and (ZM.and (ZM.has _ (by simp)) (ZM.has _ (by simp))) (ZM.and (lall λ x y=>ZM.cell _) (ZM.ex λ rv=>ZM.ex λ acc=>ZM.and (ZM.has _ (by simp)) (ZM.and F7 (ZM.and (ZM.const _ _) (ZM.const _ _)))))))
 have hLX:∀ k,ZM w3.heap.size (Ix k):=λ k=>ZM.and (ZM.const _ _) (ZM.and (ZM.from E3.size) (ZM.and (ZM.has _ (by simp)) (ZM.const _ _)))
 refine ⟨_,_,(s.length+1) / 2,Ah b s.length,λ w=>Cl w q1 q2 b s.length c,I,Ix,λ _ _=>False,rfl,ZfL,Li q1 q2 b s.length c hsc (by omega),⟨E3,Nat.le_refl _,hP,hel3,_,[],o2,ZT.nil _ _ _ _ _,Nat.le_refl _,by rw [Nat.mul_zero,List.drop_zero];cases Xx s<;>rfl⟩,λ k w h=>h.2.2.1,hLI,hLX,?_,?_,?_,?_⟩
 · intro rec j w4 hj hI4 hrec hready
   refine ⟨hready,λ w5 hbz=>?_⟩
   have hrec5:=hrec.busied hbz
   have hI5:=(hLI j).busied hbz (Nat.le_succ _) hI4
   clear hI4 hrec hready hbz
   obtain ⟨e5,z5,hP5,hel5,rv,acc,o5,hO5,hal,hacc⟩:=hI5
   have LN:2*j < s.length:=by omega
   have YW:s.drop (2*j)≠[]:=by
    intro h
    rw [List.drop_eq_nil_iff] at h
    omega
   have hsn:s≠[]:=by rintro rfl;simp at LN
   obtain ⟨nb1,nb2⟩:=nb hsn
   have XA:((s.drop (2*j)).take 2).length=min 2 (s.length - 2*j):=by rw [List.length_take,List.length_drop]
   have hB:GO w5 (Ah b s.length j) ((s.drop (2*j)).take 2):=by
    refine ⟨_,_,by unfold Ah;rw [XA],by omega,by omega,λ _=>⟨b,2*j,rfl,λ i x hx=>⟨[.int .u8 x.toNat],rfl,λ q v hv=>?_,rfl⟩⟩⟩
    cases q with
    | zero=>
     simp only [List.getElem?_cons_zero,Option.some.injEq] at hv
     subst hv
     rw [List.getElem?_take] at hx
     split at hx
     · rw [List.getElem?_drop] at hx
       have:=hel5 (2*j+i) x hx
       rwa [Nat.mul_one,Nat.add_zero]
     · cases hx
    | succ q=>simp at hv
   show opV Pg (Go.convert 40 9 (Ah b s.length j)) _ w5 _
   rw [xS hB]
   refine Zl (AW w5 (hE.ext e5) ((s.drop (2*j)).take 2) (by omega) (by omega)) ?_
   rintro _ w6 ⟨e6,hR⟩
   have o6:=e6.obj o5
   have c6:=Za o6
   unfold T5
   rcases hR with ⟨m,hm,hm256,rfl⟩ | ⟨hn,n,tt,x,rfl⟩
   · have XG:=AO YW
     rw [hm] at XG
     rcases XG with ⟨m',hm',hu⟩ | ⟨hcon,_⟩
     case inr=>cases hcon
     injection hm' with hm'
     subst hm'
     have hnat:(UInt8.ofNat m).toNat=m:=by simp;omega
     have hwr:IntKind.u8.wrap (m:Int)=(((UInt8.ofNat m).toNat:Nat):Int):=by rw [hnat];exact IntWalk.u8_in _ ⟨by omega,by omega⟩
     simp (disch:=try exact DI) only [↓PR,QR,simprocAttr,c6.1]
     unfold T4
     simp (disch:=try exact DI) only [↓PR,QR,simprocAttr,c6.1]
     rw [hwr]
     have oY:(w6.alloc (.cells #[.int .u8 ((UInt8.ofNat m).toNat:Int)] 5)).cell? ⟨w6.heap.size,0,none⟩=some (.int .u8 ((UInt8.ofNat m).toNat:Int)):=by rw [Qp];rfl
     have eY:Ext w6 (w6.alloc (.cells #[.int .u8 ((UInt8.ofNat m).toNat:Int)] 5)):=(Ext.refl w6).alloc _
     generalize (w6.alloc (.cells #[.int .u8 ((UInt8.ofNat m).toNat:Int)] 5))=Y at oY eY ⊢
     have e56:=e6.trans eY
     have o7:=eY.obj o6
     refine DO (UInt8.ofNat m) (hO5.ext e56) oY (by have:=e56.size;omega) (by omega) ?_
     intro v' w7 hO7 hg
     have hlo:∀ b,rv.ownBlock=some b→w3.heap.size≤b:=λ b hb=>(World.ownsRow.lt hO5 b hb).1
     have JA:=e56.size
     have blk:∀ g o,g < w3.heap.size→w5.heap[g]?=some o→w7.heap[g]?=some o:=λ g o hg3 ho=>(hg.block g (by omega) λ e=>by have:=hlo g e.symm;omega).trans (e56.obj ho)
     have o8:=blk p2 _ lp2 o5
     have e8:Ext w0 w7:=(e5.trans e56).grown hg λ b hb=>by have:=hlo b hb;have:=E3.size;omega
     have v1:v'.oneCell'=true:=Zd.oneCell (hO7.slice (E:=λ _ cs c=>cs=XF c) (λ _=>rfl) (λ _ _=>rfl))
     simp (disch:=try exact DI) only [↓PR,QR,simprocAttr,(Za o8).1,(Za o8).2]
     have hrec7:Y0 rec w3.heap.size w7:=by
      have hr:=hrec5.ext e56
      obtain ⟨hmk,st,pd,hlp⟩:=hr
      have nrow:∀ g o,Y.heap[g]?=some o→(∀ cs T f,o ≠ .cells cs T f)→rv.ownBlock≠some g:=by
       intro g o ho hn hrv
       obtain ⟨cs,T,f,hc⟩:=ZT.cellsAt (hO5.ext e56) g hrv
       rw [ho] at hc
       injection hc with hc
       exact hn _ _ _ hc
      refine ⟨(hg.block _ (Array.getElem?_eq_some_iff.1 hmk).1 λ e=>nrow _ _ hmk (by simp) e.symm).trans hmk,st,pd,(hg.block _ (Array.getElem?_eq_some_iff.1 hlp).1 λ e=>nrow _ _ hlp (by simp) e.symm).trans hlp⟩
     refine ⟨hrec7.setCell _ _,e8.setCell (p:=⟨p2,0,none⟩) l2 _,?_,⟨?_,?_⟩,?_,v',acc++[UInt8.ofNat m],Zw (o:=0) o8 v',ZT.keep hO7 λ g hgo=>?_,?_,?_⟩
     · rw [World.size_setCell]
       have:=hg.size
       omega
     · exact (YH.setCell _ p2 _ _ q1 nq1).trans (blk q1 _ lq1 hP5.1)
     · exact (YH.setCell _ p2 _ _ q2 nq2).trans (blk q2 _ lq2 hP5.2)
     · intro i x hx
       rw [YX (.inl nb1)]
       have h5:=hel5 i x hx
       have lb:=World.block_lt_of_cell? _ _ h5
       have hb:w7.heap[b]?=w5.heap[b]?:=(hg.block b (by omega) λ e=>by have:=hlo b e.symm;omega).trans (e56.block b lb)
       rw [← h5]
       exact World.cell?_of_block hb
     · have:=(World.ownsRow.lt hO7 g hgo).1
       exact YH.setCell _ p2 _ _ g (by omega)
     · simp;omega
     · rw [hacc,hu,List.drop_drop,show 2*j+2=2*(j+1) by omega,Option.map_map]
       congr 1
       funext l
       simp
   · have XG:=AO YW
     rw [hn] at XG
     rcases XG with ⟨m',hm',_⟩ | ⟨_,hu⟩
     · cases hm'
     simp (disch:=try exact DI) only [↓PR,QR,simprocAttr,c6.1,c6.2]
     refine ⟨(hrec5.ext e6).setCell _ _,by trivial,(e5.trans e6).setCell (p:=⟨p2,0,none⟩) l2 _,Zw (o:=0) o6 _,?_⟩
     unfold Qy
     rw [hacc,hu]
     rfl
 · intro w4 hI4 hmk
   obtain ⟨e4,z4,hP4,hel4,rv,acc,o4,hO4,hal,hacc⟩:=hI4
   have c4:=Za o4
   have hn:s.drop (2*((s.length+1) / 2))=[]:=by rw [List.drop_eq_nil_iff];omega
   have hun:Qy s=acc:=by
    unfold Qy
    rw [hacc,hn]
    simp [Xx]
   have o5:=Zw (o:=0) o4 rv
   have rv1:rv.oneCell'=true:=Zd.oneCell (hO4.slice (E:=λ _ cs c=>cs=XF c) (λ _=>rfl) (λ _ _=>rfl))
   unfold T6
   simp (disch:=try exact DI) only [↓PR,QR,simprocAttr,c4.1,c4.2]
   have hmk5:Z0 w3.heap.size (w4.setCell ⟨p2,0,none⟩ rv):=hmk.setCell _ _
   have hO5:ZT (w4.setCell ⟨p2,0,none⟩ rv) w3.heap.size 5 1 XF rv acc:=ZT.keep hO4 λ g hgo=>YH.setCell _ p2 _ _ g (by have:=(World.ownsRow.lt hO4 g hgo).1;omega)
   have e5:Ext w0 (w4.setCell ⟨p2,0,none⟩ rv):=e4.setCell (p:=⟨p2,0,none⟩) l2 _
   generalize (w4.setCell ⟨p2,0,none⟩ rv)=w5 at o5 hmk5 hO5 e5 ⊢
   refine Q3 hmk5 ?_
   have o6:(w5.putObj w3.heap.size (.deferred none)).heap[p2]?=some (.cells #[rv] 40 (0,0)):=by
    rw [World.putObj_heap_other (by omega)]
    exact o5
   simp (disch:=try exact DI) only [↓PR,QR,simprocAttr,Wf,zy,XD,(Za o6).1]
   exact ⟨by rw [hun];exact (HU hO5 hmk5).base (by have:=E3.size;omega),e5.putObj E3.size _⟩
 · intro x w4 hX hmk
   obtain ⟨rfl,e4,o4,hun⟩:=hX
   show VH _ _ _ _ _
   refine Q3 hmk ?_
   have o6:(w4.putObj w3.heap.size (.deferred none)).heap[p2]?=some (.cells #[.slice none 0 0] 40 (0,0)):=by
    rw [World.putObj_heap_other (by omega)]
    exact o4
   simp (disch:=try exact DI) only [↓PR,QR,simprocAttr,Wf,zy,XD,(Za o6).1]
   exact ⟨by rw [hun];exact ZT.nil _ _ _ _ _,e4.putObj E3.size _⟩
 · exact λ _ _ h=>h.elim
def Qv:List (List UInt8)→Option (List Qm)
 | []=>some []
 | w::l=>if (Au w).2=true then (Qv l).map ((Au w).1::·) else none
theorem Fh:∀ {l:List Qm},l.all WW=true→Qv (l.map Vz)=some l
 | [],_=>rfl
 | x::l,h=>by
  rw [List.all_cons,Bool.and_eq_true] at h
  rw [List.map_cons,Qv,SK h.1,if_pos rfl,Fh h.2]
  rfl
theorem Fg:∀ {l:List (List UInt8)} {r:List Qm},Qv l=some r→r.all WW=true∧r.length=l.length
 | [],r,h=>by injection h with h;subst h;exact ⟨rfl,rfl⟩
 | w::l,r,h=>by
  rw [Qv] at h
  split at h
  · cases ho:Qv l with
    | none=>rw [ho] at h;cases h
    | some q=>
     rw [ho] at h
     injection h with h
     subst h
     obtain ⟨h1,h2⟩:=Fg ho
     exact ⟨by rw [List.all_cons,SJ,h1];rfl,by rw [List.length_cons,List.length_cons,h2]⟩
  · cases h
def RJ:List (List UInt8)→Option FrD
 | t::k::rest=>
  let a:=rest[0]?.getD []
  let b:=rest[1]?.getD []
  if k=kwW 1 then some ⟨mkB t,1,mkB a,0,0,[],[]⟩
  else if k=kwW 2 then some ⟨mkB t,2,mkB a,XB (Z8 b),0,[],[]⟩
  else if k=kwW 3 then some ⟨mkB t,3,⟨#[]⟩,0,XB (Z8 a),[],[]⟩
  else if k=kwW 4 then some ⟨mkB t,4,⟨#[]⟩,0,0,Qy a,[]⟩
  else if k=kwW 5 then (Qv rest.tail).map λ l=>⟨mkB t,5,mkB a,0,0,[],l⟩
  else if k=kwW 6 then some ⟨mkB t,6,mkB a,0,0,[],[]⟩
  else if k=kwW 7 then some ⟨mkB t,7,⟨#[]⟩,0,0,[],[]⟩
  else none
 | _=>none
theorem EM {n:Int} (h:X6 n=true):XB (Z8 (Go.Lib.itoa n))=n:=by
 have h1:=Uy n (rest:=[]) (.inl rfl)
 rw [List.append_nil] at h1
 rw [h1]
 exact UE (Vc h)
theorem RK {r:FrD} (h:okF r=true):RJ (Xc r)=some r:=by
 unfold okF at h
 rw [Bool.and_eq_true] at h
 obtain ⟨h,hi⟩:=h
 unfold inF at hi
 simp only [Bool.and_eq_true] at hi
 obtain ⟨i1,i2,i3⟩:=hi
 obtain ⟨to,kind,fr,add,value,bytes,table⟩:=r
 unfold YF at h
 simp only at i1 i2 i3 h
 cases hu:XK kind with
 | none=>rw [hu] at h;cases h
 | some u=>
  rw [hu] at h
  simp only [Bool.and_eq_true] at h
  obtain ⟨c1,c2,c3,c4,c5⟩:=DU h.1
  simp only at c1 c2 c3 c4 c5
  unfold XK at hu
  unfold Xc VD
  simp only
  by_cases k1:kind=1
  · subst k1
    rw [if_pos rfl] at hu
    injection hu with hu
    subst hu
    rw [c2 rfl,c3 rfl,c4 rfl,c5 rfl]
    rfl
  by_cases k2:kind=2
  · subst k2
    rw [if_neg (by decide),if_pos rfl] at hu
    injection hu with hu
    subst hu
    rw [c3 rfl,c4 rfl,c5 rfl,if_neg (by decide),if_pos rfl]
    show some (FrD.mk (mkB to.data.toList) 2 (mkB fr.data.toList) (XB (Z8 (Go.Lib.itoa add))) 0 [] [])=_
    rw [EM i1]
    rfl
  by_cases k3:kind=3
  · subst k3
    rw [if_neg (by decide),if_neg (by decide),if_pos rfl] at hu
    injection hu with hu
    subst hu
    rw [c1 rfl,c2 rfl,c4 rfl,c5 rfl,if_neg (by decide),if_neg (by decide),if_pos rfl]
    show some (FrD.mk (mkB to.data.toList) 3 ⟨#[]⟩ 0 (XB (Z8 (Go.Lib.itoa value))) [] [])=_
    rw [EM i2]
    rfl
  by_cases k4:kind=4
  · subst k4
    rw [if_neg (by decide),if_neg (by decide),if_neg (by decide),if_pos rfl] at hu
    injection hu with hu
    subst hu
    rw [c1 rfl,c2 rfl,c3 rfl,c5 rfl,if_neg (by decide),if_neg (by decide),if_neg (by decide),if_pos rfl]
    show some (FrD.mk (mkB to.data.toList) 4 ⟨#[]⟩ 0 0 (Qy (QS bytes)) [])=_
    rw [Gd]
    rfl
  by_cases k5:kind=5
  · subst k5
    rw [if_neg (by decide),if_neg (by decide),if_neg (by decide),if_neg (by decide),if_pos rfl] at hu
    injection hu with hu
    subst hu
    rw [c2 rfl,c3 rfl,c4 rfl,if_neg (by decide),if_neg (by decide),if_neg (by decide),if_neg (by decide),if_neg (by decide),if_neg (by decide)]
    show (Qv (table.map Vz)).map _=_
    rw [Fh i3]
    rfl
  by_cases k6:kind=6
  · subst k6
    rw [if_neg (by decide),if_neg (by decide),if_neg (by decide),if_neg (by decide),if_neg (by decide),if_pos rfl] at hu
    injection hu with hu
    subst hu
    rw [c2 rfl,c3 rfl,c4 rfl,c5 rfl]
    rfl
  by_cases k7:kind=7
  · subst k7
    rw [if_neg (by decide),if_neg (by decide),if_neg (by decide),if_neg (by decide),if_neg (by decide),if_neg (by decide),if_pos rfl] at hu
    injection hu with hu
    subst hu
    rw [c1 rfl,c2 rfl,c3 rfl,c4 rfl,c5 rfl]
    rfl
  · rw [if_neg k1,if_neg k2,if_neg k3,if_neg k4,if_neg k5,if_neg k6,if_neg k7] at hu
    cases hu
theorem LX (s:List UInt8):Qt s=Rn s (RJ (Yv 32 s)):=by
 refine F9 λ r hr hs=>?_
 have hp:YF r=true:=by unfold okF at hr;rw [Bool.and_eq_true] at hr;exact hr.1
 rw [← hs,jo hp]
 exact RK hr
theorem G8 (sep:UInt8):∀ xs:List (List UInt8),(Go.Lib.join xs [sep]).length≤(xs.map λ x=>x.length+1).sum
 | []=>by simp [Go.Lib.join]
 | [x]=>by rw [Go.Lib.join_one];simp
 | x::y::r=>by
  rw [Ek,List.length_append,List.length_cons]
  have:=G8 sep (y::r)
  rw [List.map_cons,List.sum_cons]
  omega
theorem Kt {n:Int} (h:X6 n=true):(Go.Lib.itoa n).length≤21:=Go.Lib.itoa_length_le n (Vy h).1 (Vy h).2
theorem Fi:∀ {l:List Qm},l.all WW=true→((l.map Vz).map λ x=>x.length+1).sum≤66*l.length
 | [],_=>by simp
 | x::l,h=>by
  rw [List.all_cons,Bool.and_eq_true] at h
  have ih:=Fi h.2
  have hx:=h.1
  unfold WW at hx
  simp only [Bool.and_eq_true] at hx
  have h1:=Kt hx.1
  have h2:=Kt hx.2.1
  have h3:=Kt hx.2.2
  have:(Vz x).length≤65:=by
   unfold Vz
   simp only [List.length_append,List.length_cons]
   omega
  rw [List.map_cons,List.map_cons,List.sum_cons,List.length_cons]
  omega
theorem xf (s:BAr):s.data.toList.length=s.size:=by unfold ByteArray.size;simp
theorem FW (l:List UInt8):(QS l).length≤2*l.length+1:=by
 unfold QS
 split
 · simp
 · rw [Ef];omega
theorem NK {x:FrD} (h:inF x=true):(Xu x).length≤x.to.size+x.fr.size+2*x.bytes.length+66*x.table.length+60:=by
 unfold inF at h
 simp only [Bool.and_eq_true] at h
 obtain ⟨h1,h2,h3⟩:=h
 have a1:=Kt h1
 have a2:=Kt h2
 have a3:=Fi h3
 have a4:=FW x.bytes
 have kw:(kwW x.kind).length≤6:=by
  unfold kwW
  repeat' split
  all_goals decide
 have:=G8 32 (Xc x)
 unfold Xu
 refine Nat.le_trans this ?_
 unfold Xc
 rw [List.map_cons,List.map_cons,List.sum_cons,List.sum_cons,xf]
 have ht:((VD x).map λ x=>x.length+1).sum≤x.fr.size+2*x.bytes.length+66*x.table.length+30:=by
  unfold VD
  repeat' split
  all_goals simp only [List.map_cons,List.map_nil,List.sum_cons,List.sum_nil,xf]
  all_goals omega
 omega
def Zcb (w:Wd) (base:Nat) (v:Vl) (x:FrD):Prop:=∃ bv tv,v = .agg (ZB x bv tv).toArray∧ZT w base 5 1 XF bv x.bytes∧ZT w base 78 3 Z6 tv x.table
theorem GH {w:Wd} {base:Nat} {v:Vl} {l:List UInt8} (h:ZT w base 5 1 XF v l):AU w v l:=h.slice (λ _=>rfl) (λ _ _=>rfl)
theorem Vx {w:Wd} {base:Nat} {v:Vl} {l:List Qm} (h:ZT w base 78 3 Z6 v l):WR w v l:=h.slice (λ _=>rfl) (λ _ _=>rfl)
theorem Jm {b:Nat}:∀ (vs:List Vl) (w:Wd) (o:Nat),(Yt w b o vs).os=w.os∧(Yt w b o vs).tape=w.tape∧(Yt w b o vs).output=w.output
 | [],_,_=>⟨rfl,rfl,rfl⟩
 | v::vs,w,o=>Jm vs (w.setCell ⟨b,o,none⟩ v) (o+1)
theorem Kn {a w:Wd} {b:Nat} {vs:List Vl} {T:TypeId} (e:Ext a w) (ho:w.heap[b]?=some (.cells vs.toArray T (0,0))):Ext a (Yt w b 0 vs):=by
 obtain ⟨h1,h2,h3⟩:=Jm vs w 0 (b:=b)
 refine ⟨h1.trans e.os,h2.trans e.tape,h3.trans e.output,by rw [V8];exact e.size,λ k hk=>?_⟩
 rw [← e.block k hk]
 by_cases hb:k=b
 · subst hb
   rw [QO vs 0 ho,Aw (by simp),ho]
 · exact Wz vs w 0 k hb
theorem F5 {w:Wd} {base:Nat} {v:Vl} {x:FrD} (hO:Ue w base v (Xy x)) (h1:x.table.length≤90000) (h2:(Xu x).length≤1000000000):Ret Pg 59 #[v,.string ⟨#[32]⟩] w λ r w'=>r = .string (mkB (Xu x))∧Ext w w':=by
 have hj:UZ ⟨#[32]⟩ (Xy x)=mkB (Xu x):=by unfold Xy;rw [ji];rfl
 have hl:(Xy x).length≤90004:=by
  unfold Xy Xc VD
  rw [List.length_map]
  repeat' split
  all_goals simp only [List.length_cons,List.length_nil,List.length_map]
  all_goals omega
 have:=qB hO ⟨#[32]⟩ (by unfold Xy Xc;simp) (by omega) (by rw [hj,Xa];omega)
 rwa [hj] at this
def qH (w0:Wd) (s:List UInt8) (r:Vl) (w':Wd):Prop:=Ext w0 w'∧∃ v x b,r = .tuple #[v,.bool b]∧Zcb w' w0.heap.size v x∧((b=true∧Qt s=some x)∨(b=false∧Qt s=none))
section
variable {w0 w:Wd} {p2:Nat} {s:List UInt8} {x:FrD} {bv tv:Vl}
structure Wj (w0 w:Wd) (p2:Nat) (x:FrD) (bv tv:Vl):Prop where
 e:Ext w0 w
 lp:w0.heap.size≤p2
 obj:w.heap[p2]?=some (.cells (ZB x bv tv).toArray 43 (0,0))
 ob:ZT w w0.heap.size 5 1 XF bv x.bytes
 ot:ZT w w0.heap.size 78 3 Z6 tv x.table
theorem Wj.go {w':Wd} (h:Wj w0 w p2 x bv tv) (e:Ext w w'):Wj w0 w' p2 x bv tv:=⟨h.e.trans e,h.lp,e.obj h.obj,h.ob.ext e,h.ot.ext e⟩
theorem Wj.ones (h:Wj w0 w p2 x bv tv):bv.oneCell'=true∧tv.oneCell'=true:=⟨Zd.oneCell (GH h.ob),Zd.oneCell (Vx h.ot)⟩
theorem Wj.set (h:Wj w0 w p2 x bv tv) (o:Nat) (u:Vl) (x':FrD) (bv' tv':Vl) (hc:(ZB x bv tv).set o u=ZB x' bv' tv') (hb:ZT w w0.heap.size 5 1 XF bv' x'.bytes) (ht:ZT w w0.heap.size 78 3 Z6 tv' x'.table):Wj w0 (w.setCell ⟨p2,o,none⟩ u) p2 x' bv' tv':=by
 have key:∀ {α:Type} {n:Nat} {T:TypeId} {enc:α→List Vl} {v:Vl} {l:List α},T≠43→ZT w w0.heap.size T n enc v l→ZT (w.setCell ⟨p2,o,none⟩ u) w0.heap.size T n enc v l:=by
  intro α n T enc v l hT hO
  refine ZT.keep hO λ g hg=>YH.setCell _ p2 _ _ g ?_
  rintro rfl
  rcases hO.2 with ⟨rfl,_⟩ | ⟨g',cap,cur,rfl,_,hg',_⟩
  · cases hg
  · have:g'=g:=by simpa [Value.ownBlock] using hg
    subst this
    rw [h.obj] at hg'
    injection hg' with hg'
    injection hg' with _ hg'
    exact hT hg'.symm
 refine ⟨h.e.setCell (p:=⟨p2,o,none⟩) h.lp _,h.lp,?_,key (by decide) hb,key (by decide) ht⟩
 have:=Zw (o:=o) h.obj u
 rw [this,List.setIfInBounds_toArray,hc]
theorem Mp (hE:VE w0) (h:Wj w0 w p2 x bv tv) (hin:inF x=true) (hb:x.bytes.length≤100000) (ht:x.table.length≤90000) (h1:x.to.size≤100000) (h2:x.fr.size≤100000) (hs:Qt s=Rn s (some x)) :
 Ye w λ C2 w=>IR (.string (mkB s)) (.pointer (some ⟨p2,0,none⟩)) C2 (ZJ (qH w0 s)) w:=by
 obtain ⟨o1,o2⟩:=h.ones
 refine ZG ?_
 have h:=h.go (Ext.refl w).drew
 generalize (Sw.drew w)=D at h ⊢
 have hll:=NK hin
 unfold IR
 simp (disch:=try exact DI) only [↓PR,QR,simprocAttr,(Za h.obj).1]
 refine zcr (J5 D _ x ⟨_,_,rfl,GH h.ob,Vx h.ot⟩) λ w1 e1=>?_
 refine ⟨e1,?_⟩
 have hC1:=h.go e1
 have fin:∀ (w2:Wd) (b:Bool),Ext D w2→((b=true∧Qt s=some x)∨(b=false∧Qt s=none))→opU Pg (storeAt 43 (.pointer (some ⟨p2,0,none⟩)) (.agg (ZB x bv tv).toArray)) (Zb (ZJ (qH w0 s))) w2 λ w=>EC D w∧qW Pg 43 (.pointer (some ⟨p2,0,none⟩)) w λ r0=>ZJ (qH w0 s) (.returned (.tuple #[r0,.bool b])) w:=by
  intro w2 b e2 hr
  have h2':=h.go e2
  rw [Uu Ua h2'.obj (vs:=ZB x bv tv) rfl (Nat.le_refl _) (by intro v hv;simp only [List.mem_cons,List.not_mem_nil,or_false] at hv;rcases hv with rfl | rfl | rfl | rfl | rfl | rfl | rfl<;>first | rfl | assumption)]
  have e3:=Kn e2 h2'.obj (vs:=ZB x bv tv)
  have h3:=h2'.go (Kn (Ext.refl w2) h2'.obj (vs:=ZB x bv tv))
  generalize (Yt w2 p2 0 (ZB x bv tv))=w3 at e3 h3 ⊢
  refine ⟨e3,?_⟩
  simp (disch:=try exact DI) only [↓PR,QR,simprocAttr,(Za h3.obj).1]
  exact ⟨h3.e,_,x,b,rfl,⟨bv,tv,rfl,h3.ob,h3.ot⟩,hr⟩
 have hok:okF x=YF x:=by unfold okF;rw [hin,Bool.and_true]
 have hs':Qt s=if YF x=true∧Xu x=s then some x else none:=by rw [hs,← hok];rfl
 unfold T0
 cases hp:YF x with
 | false=>
  have hno:Qt s=none:=by rw [hs',hp,if_neg (by simp)]
  simp (disch:=try exact DI) only [↓PR,QR,simprocAttr]
  exact fin w1 false e1 (.inr ⟨rfl,hno⟩)
 | true=>
  simp (disch:=try exact DI) only [↓PR,QR,simprocAttr,(Za h.obj).1]
  refine Zl (xW w1 (hE.ext hC1.e) _ x ⟨_,_,rfl,GH hC1.ob,Vx hC1.ot⟩ hin (by omega) (by omega)) ?_
  rintro u w2 ⟨hu,e2⟩
  refine ⟨e1.trans e2,?_⟩
  refine zcr (F5 hu ht (by omega)) λ w3 e3=>?_
  have E3:=e1.trans (e2.trans e3)
  refine ⟨E3,?_⟩
  have Z5:decide (mkB (Xu x)=mkB s)=decide (Xu x=s):=by
   rw [decide_eq_decide]
   constructor
   · intro h
     have:=congrArg (λ b:BAr=>b.data.toList) h
     simpa [mkB] using this
   · rintro rfl;rfl
  simp (disch:=try exact DI) only [↓PR,QR,simprocAttr]
  rw [Z5]
  refine fin w3 _ E3 ?_
  by_cases hl:Xu x=s
  · exact .inl ⟨by simp [hl],by rw [hs',if_pos ⟨hp,hl⟩]⟩
  · exact .inr ⟨by simp [hl],by rw [hs',if_neg (λ h=>hl h.2)]⟩
end
section
variable {P:Program} {QP:PEn} {w:Wd} {k:KV}
theorem ES {t e:TypeId} {agg:Bool} {n m:Nat} {z:Vl} (hu:P.underlying t=some (.slice e)) (ht:ZF P e agg n m z) (b o len cap:Nat) (l h:Nat) (hl:l≤h) (hh:h≤cap) :
 opV P (Instr.sliceAt t (.slice (some ⟨b,o,none⟩) len cap) (some (.int .i64 (l:Int))) (some (.int .i64 (h:Int))) (some (.int .i64 (h:Int)))) QP w k=k (.slice (some ⟨b,if h=l then o else o+l*n,none⟩) (h - l) (h - l)) w:=by
 refine ZS ?_
 have h1:(l:Int)≤(h:Int):=by omega
 have h2:(h:Int)≤(cap:Int):=by omega
 have h3:(0:Int)≤(l:Int):=by omega
 have h4:(0:Int)≤(h:Int):=by omega
 by_cases h5:h=l
 · subst h5
   simp [Instr.sliceAt,run_underlying hu,Instr.slice,Instr.sliceBounds,run_sliceBound,h2,h3,Sw.run_sizeOf ht,Addr.add_lit]
 · simp [Instr.sliceAt,run_underlying hu,Instr.slice,Instr.sliceBounds,run_sliceBound,h1,h2,h3,h4,h5,Sw.run_sizeOf ht,Addr.add_lit]
end
theorem qZ (l:List BAr):(l.flatMap Xi).length=l.length*1:=by
 induction l with
 | nil=>rfl
 | cons x l ih=>rw [List.flatMap_cons,List.length_append,ih,List.length_cons];simp;omega
theorem Cq {w:Wd} {QP:PEn} {k:KV} {g o:Nat} {u:Vl} {l l':List BAr} (hs:∀ j x,l[j]?=some x→Yg w g (o+j*1) (Xi x)) (hu:Uf w u l') (YW:l'≠[]) (h1:l.length≤200000) (h2:l'.length≤100000)
 (hk:∀ v' w',Ue w' w.heap.size v' (l++l')→Ext w w'→k v' w') :
 opV Pg (Builtin.append_ #[94,94] 94 #[.slice (some ⟨g,o,none⟩) l.length l.length,u]) QP w k:=by
 obtain ⟨⟨i,hi,JA,hby,hzz⟩,_⟩:=ty9
 have hb4:=by9
 obtain ⟨A,c,rfl,hlc,hcm,hlm,YV⟩:=Zd.open hu
 obtain ⟨x0,l0,rfl⟩:=List.exists_cons_of_ne_nil YW
 obtain ⟨b,o',_,rfl,_⟩:=YV 0 x0 rfl
 have hcells:∀ (ll:List BAr) (B O:Nat),(∀ j x,ll[j]?=some x→Yg w B (O+j*1) (Xi x))→∀ j v,(ll.flatMap Xi)[j]?=some v→w.cell? ((⟨B,O,none⟩:Addr).add j)=some v:=by
  intro ll B O hh j v hv
  have hfl:(ll.flatMap Xi).length=ll.length*1:=qZ ll
  have hj:j < ll.length:=by have:=(List.getElem?_eq_some_iff.1 hv).1;omega
  obtain ⟨x,hx⟩:=getElem?_lt hj
  have hg:=WD (enc:=Xi) (n:=1) (λ _=>rfl) ll j x 0 _ hx rfl
  rw [show j*1+0=j by omega,hv] at hg
  injection hg with hg
  rw [Addr.add_lit]
  have:=hh _ _ hx 0 _ rfl
  rw [hg,← this]
  congr 2;omega
 obtain ⟨v',w',hr,ho,hg⟩:=run_append_arg_grows (P:=Pg) w 94 94 9 i _ 1 _ underlying94 hi hzz JA hby rfl (by decide) ⟨g,o,none⟩ l.length l.length (l.flatMap Xi) (qZ l) (hcells l g o hs)
  ⟨b,o',none⟩ (x0::l0).length c ((x0::l0).flatMap Xi) (qZ _) (hcells _ b o' λ j x hx=>by
   obtain ⟨b2,o2,cs,e1,_,hA,e2⟩:=YV j x hx
   injection e1 with e1
   injection e1 with e1 e3
   subst e1 e3 e2
   exact hA) (by simp) (by simp only [maxLen];omega) (Nat.le_trans (Nat.mul_le_mul (Nat.add_le_add h1 h2) hb4) (by decide))
 rw [ZS hr]
 refine hk v' w' ?_ ((Ext.refl w).grown hg λ k hk=>by cases hk)
 unfold Ue ZT
 rw [List.flatMap_append,List.length_append];exact ho
theorem IJ {a b:List UInt8}:decide (mkB a=mkB b)=decide (a=b):=by
 rw [decide_eq_decide]
 constructor
 · intro h
   have:=congrArg (λ b:BAr=>b.data.toList) h
   simpa [mkB] using this
 · rintro rfl;rfl
structure RS (w0 w:Wd) (p2 b0 n:Nat) (ws rs:List BAr) (t27:Vl) (x:FrD) (bv tv:Vl):Prop where
 bld:Wj w0 w p2 x bv tv
 ws:Uf w (.slice (some ⟨b0,0,none⟩) n n) ws
 nb:b0≠p2
 rs:Uf w t27 rs
 nr:∀ A m c,t27 = .slice (some A) m c→A.block≠p2
section
variable {w0 w:Wd} {p2 b0 n:Nat} {ws rs:List BAr} {t27:Vl} {s:List UInt8} {x:FrD} {bv tv:Vl}
theorem RS.go {w':Wd} (h:RS w0 w p2 b0 n ws rs t27 x bv tv) (e:Ext w w'):RS w0 w' p2 b0 n ws rs t27 x bv tv:=⟨h.bld.go e,Zd.ext JE h.ws e,h.nb,Zd.ext JE h.rs e,h.nr⟩
theorem RS.set (h:RS w0 w p2 b0 n ws rs t27 x bv tv) (o:Nat) (u:Vl) (x':FrD) (bv' tv':Vl) (hc:(ZB x bv tv).set o u=ZB x' bv' tv') (hb:ZT w w0.heap.size 5 1 XF bv' x'.bytes) (ht:ZT w w0.heap.size 78 3 Z6 tv' x'.table):RS w0 (w.setCell ⟨p2,o,none⟩ u) p2 b0 n ws rs t27 x' bv' tv':=
 ⟨h.bld.set o u x' bv' tv' hc hb ht,Zd.setOther h.ws u (λ A m c e=>by injection e with e;injection e with e;subst e;exact h.nb) (λ _ _ h=>h),h.nb,Zd.setOther h.rs u h.nr (λ _ _ h=>h),h.nr⟩
theorem RS.first (h:RS w0 w p2 b0 n ws rs t27 x bv tv) {a:BAr} (ha:rs[0]?=some a):∃ b o m c,t27 = .slice (some ⟨b,o,none⟩) m c∧0 < m∧b≠p2∧w.cell? ⟨b,o,none⟩=some (.string a):=by
 obtain ⟨A,c,hv,_,_,_,YV⟩:=Zd.open h.rs
 obtain ⟨b,o,cs,rfl,_,hA,rfl⟩:=YV 0 a ha
 have:=(List.getElem?_eq_some_iff.1 ha).1
 have hc:=hA.c1 (Ext.refl w)
 rw [Nat.zero_mul,Nat.add_zero] at hc
 exact ⟨b,o,_,c,hv,this,h.nr _ _ _ hv,hc⟩
theorem RS.second (h:RS w0 w p2 b0 n ws rs t27 x bv tv) {a:BAr} (ha:rs[1]?=some a):∃ b o m c,t27 = .slice (some ⟨b,o,none⟩) m c∧1 < m∧b≠p2∧w.cell? ⟨b,o+1,none⟩=some (.string a):=by
 obtain ⟨A,c,hv,_,_,_,YV⟩:=Zd.open h.rs
 obtain ⟨b,o,cs,rfl,_,hA,rfl⟩:=YV 1 a ha
 have:=(List.getElem?_eq_some_iff.1 ha).1
 have hc:=hA.c1 (Ext.refl w)
 rw [Nat.one_mul] at hc
 exact ⟨b,o,_,c,hv,this,h.nr _ _ _ hv,hc⟩
theorem PW {K1:WPr} {R:RT} {to a:BAr} (h:RS w0 w p2 b0 n ws rs t27 ⟨to,0,ByteArray.empty,0,0,[],[]⟩ (.slice none 0 0) (.slice none 0 0)) (ha:rs[0]?=some a)
 (hK:∀ w',RS w0 w' p2 b0 n ws rs t27 ⟨to,1,a,0,0,[],[]⟩ (.slice none 0 0) (.slice none 0 0)→K1 w') :
 Ye w λ C w=>OQ (.pointer (some ⟨p2,0,none⟩)) t27 C K1 R w:=by
 obtain ⟨b,o,m,c,rfl,hm,hbp,XJ⟩:=h.first ha
 refine Xl p2 p2 (w1:=w) (λ _ _ _ _=>rfl) ?_
 haveI:Yn (KB w p2 p2):=⟨⟨w,λ _ _ _ _=>rfl⟩⟩
 have hD:=h.go (Ext.refl w).drew
 have hKD:KB w p2 p2 (Sw.drew w):=λ _ _ _ _=>rfl
 generalize (Sw.drew w)=D at hD hKD ⊢
 have q:=Za hD.bld.obj
 unfold OQ
 rw [Ym λ QP w' k'=>Yl (k:=k') underlying94 ty9 b o m c .i64 0 (by decide) (by omega),show o+(0:Int).toNat*1=o from rfl]
 simp (disch:=try exact DI) only [↓PR,QR,simprocAttr,XJ,q.1,q.2]
 have h1:=hD.set 1 (.int .i64 1) ⟨to,1,ByteArray.empty,0,0,[],[]⟩ (.slice none 0 0) (.slice none 0 0) rfl hD.bld.ob hD.bld.ot
 have h2:=h1.set 2 (.string a) ⟨to,1,a,0,0,[],[]⟩ (.slice none 0 0) (.slice none 0 0) rfl h1.bld.ob h1.bld.ot
 have k1:KB w p2 p2 (D.setCell ⟨p2,1,none⟩ (.int .i64 1)):=λ b hb g1 g2=>(YH.setCell _ p2 _ _ b g1).trans (hKD b hb g1 g2)
 refine ⟨k1,Xb ?_⟩
 exact hK _ h2
theorem PX {K1:WPr} {R:RT} {to a:BAr} (h:RS w0 w p2 b0 n ws rs t27 ⟨to,0,ByteArray.empty,0,0,[],[]⟩ (.slice none 0 0) (.slice none 0 0)) (ha:rs[0]?=some a)
 (hK:∀ w',RS w0 w' p2 b0 n ws rs t27 ⟨to,6,a,0,0,[],[]⟩ (.slice none 0 0) (.slice none 0 0)→K1 w') :
 Ye w λ C w=>Hm (.pointer (some ⟨p2,0,none⟩)) t27 C K1 R w:=by
 obtain ⟨b,o,m,c,rfl,hm,hbp,XJ⟩:=h.first ha
 refine Xl p2 p2 (w1:=w) (λ _ _ _ _=>rfl) ?_
 haveI:Yn (KB w p2 p2):=⟨⟨w,λ _ _ _ _=>rfl⟩⟩
 have hD:=h.go (Ext.refl w).drew
 have hKD:KB w p2 p2 (Sw.drew w):=λ _ _ _ _=>rfl
 generalize (Sw.drew w)=D at hD hKD ⊢
 have q:=Za hD.bld.obj
 unfold Hm
 rw [Ym λ QP w' k'=>Yl (k:=k') underlying94 ty9 b o m c .i64 0 (by decide) (by omega),show o+(0:Int).toNat*1=o from rfl]
 simp (disch:=try exact DI) only [↓PR,QR,simprocAttr,XJ,q.1,q.2]
 have h1:=hD.set 1 (.int .i64 6) ⟨to,6,ByteArray.empty,0,0,[],[]⟩ (.slice none 0 0) (.slice none 0 0) rfl hD.bld.ob hD.bld.ot
 have h2:=h1.set 2 (.string a) ⟨to,6,a,0,0,[],[]⟩ (.slice none 0 0) (.slice none 0 0) rfl h1.bld.ob h1.bld.ot
 have k1:KB w p2 p2 (D.setCell ⟨p2,1,none⟩ (.int .i64 6)):=λ b hb g1 g2=>(YH.setCell _ p2 _ _ b g1).trans (hKD b hb g1 g2)
 refine ⟨k1,Xb ?_⟩
 exact hK _ h2
theorem SG {K1:WPr} {R:RT} {to a:BAr} (h:RS w0 w p2 b0 n ws rs t27 ⟨to,0,ByteArray.empty,0,0,[],[]⟩ (.slice none 0 0) (.slice none 0 0)) (ha:rs[0]?=some a)
 (hK:∀ w',RS w0 w' p2 b0 n ws rs t27 ⟨to,2,a,0,0,[],[]⟩ (.slice none 0 0) (.slice none 0 0)→OR (.pointer (some ⟨p2,0,none⟩)) t27 K1 R w') :
 Ye w λ C w=>OS (.pointer (some ⟨p2,0,none⟩)) t27 C K1 R w:=by
 obtain ⟨b,o,m,c,rfl,hm,hbp,XJ⟩:=h.first ha
 refine Xl p2 p2 (w1:=w) (λ _ _ _ _=>rfl) ?_
 haveI:Yn (KB w p2 p2):=⟨⟨w,λ _ _ _ _=>rfl⟩⟩
 have hD:=h.go (Ext.refl w).drew
 have hKD:KB w p2 p2 (Sw.drew w):=λ _ _ _ _=>rfl
 generalize (Sw.drew w)=D at hD hKD ⊢
 have q:=Za hD.bld.obj
 unfold OS
 rw [Ym λ QP w' k'=>Yl (k:=k') underlying94 ty9 b o m c .i64 0 (by decide) (by omega),show o+(0:Int).toNat*1=o from rfl]
 simp (disch:=try exact DI) only [↓PR,QR,simprocAttr,XJ,q.1,q.2]
 have h1:=hD.set 1 (.int .i64 2) ⟨to,2,ByteArray.empty,0,0,[],[]⟩ (.slice none 0 0) (.slice none 0 0) rfl hD.bld.ob hD.bld.ot
 have h2:=h1.set 2 (.string a) ⟨to,2,a,0,0,[],[]⟩ (.slice none 0 0) (.slice none 0 0) rfl h1.bld.ob h1.bld.ot
 have k1:KB w p2 p2 (D.setCell ⟨p2,1,none⟩ (.int .i64 2)):=λ b hb g1 g2=>(YH.setCell _ p2 _ _ b g1).trans (hKD b hb g1 g2)
 refine ⟨k1,Xb ?_⟩
 exact hK _ h2
theorem SH {K1:WPr} {R:RT} {to a:BAr} (h:RS w0 w p2 b0 n ws rs t27 ⟨to,0,ByteArray.empty,0,0,[],[]⟩ (.slice none 0 0) (.slice none 0 0)) (ha:rs[0]?=some a)
 (hK:∀ w',RS w0 w' p2 b0 n ws rs t27 ⟨to,5,a,0,0,[],[]⟩ (.slice none 0 0) (.slice none 0 0)→C0 (.pointer (some ⟨p2,0,none⟩)) (.slice (some ⟨b0,0,none⟩) n n) K1 R w') :
 Ye w λ C w=>Hl (.pointer (some ⟨p2,0,none⟩)) (.slice (some ⟨b0,0,none⟩) n n) t27 C K1 R w:=by
 obtain ⟨b,o,m,c,rfl,hm,hbp,XJ⟩:=h.first ha
 refine Xl p2 p2 (w1:=w) (λ _ _ _ _=>rfl) ?_
 haveI:Yn (KB w p2 p2):=⟨⟨w,λ _ _ _ _=>rfl⟩⟩
 have hD:=h.go (Ext.refl w).drew
 have hKD:KB w p2 p2 (Sw.drew w):=λ _ _ _ _=>rfl
 generalize (Sw.drew w)=D at hD hKD ⊢
 have q:=Za hD.bld.obj
 unfold Hl
 rw [Ym λ QP w' k'=>Yl (k:=k') underlying94 ty9 b o m c .i64 0 (by decide) (by omega),show o+(0:Int).toNat*1=o from rfl]
 simp (disch:=try exact DI) only [↓PR,QR,simprocAttr,XJ,q.1,q.2]
 have h1:=hD.set 1 (.int .i64 5) ⟨to,5,ByteArray.empty,0,0,[],[]⟩ (.slice none 0 0) (.slice none 0 0) rfl hD.bld.ob hD.bld.ot
 have h2:=h1.set 2 (.string a) ⟨to,5,a,0,0,[],[]⟩ (.slice none 0 0) (.slice none 0 0) rfl h1.bld.ob h1.bld.ot
 have k1:KB w p2 p2 (D.setCell ⟨p2,1,none⟩ (.int .i64 5)):=λ b hb g1 g2=>(YH.setCell _ p2 _ _ b g1).trans (hKD b hb g1 g2)
 refine ⟨k1,Xb ?_⟩
 exact hK _ h2
end
theorem FL {w:Wd} {QP:PEn} {k:KV} {base:Nat} {v:Vl} {l:List Qm} (x:Qm) {b:Nat} (je:ZT w base 78 3 Z6 v l) (hc:w.heap[b]?=some (.cells (Z6 x).toArray 78 (0,0))) (Ks:base≤w.heap.size) (hl:l.length≤1048576)
 (hk:∀ v' w',ZT w' base 78 3 Z6 v' (l++[x])→w.grownBy w' v.ownBlock→k v' w') :
 opV Pg (Builtin.append_ #[41,41] 41 #[v,.slice (some ⟨b,0,none⟩) 1 1]) QP w k:=by
 have hby:=Zfs
 refine Wv (l':=[x]) underlying41 FC rfl (by decide) (λ _=>rfl) (λ x _ u hu=>by simp at hu;rcases hu with rfl | rfl | rfl<;>rfl) je (λ j y hy=>?_) Ks ?_ (by simp;omega) hk
 · cases j with
   | zero=>
    simp at hy;subst hy
    intro j v hv
    rw [(Za hc).1]
    simpa using hv
   | succ j=>simp at hy
 · simp only [List.length_cons,List.length_nil]
   exact Nat.le_trans (Nat.mul_le_mul (Nat.add_le_add_right hl 1) hby) (by decide)
section
variable {w0 w:Wd} {p2 b0 n:Nat} {ws rs:List BAr} {t27:Vl} {s:List UInt8} {x:FrD} {bv tv:Vl}
theorem xb (h:Wj w0 w p2 x bv tv) (hn:Qt s=none):OT (.pointer (some ⟨p2,0,none⟩)) (ZJ (qH w0 s)) w:=by
 obtain ⟨o1,o2⟩:=h.ones
 unfold OT
 simp (disch:=try exact DI) only [↓PR,QR,simprocAttr,(Za h.obj).1]
 rw [Uu Ua h.obj (vs:=ZB x bv tv) rfl (Nat.le_refl _) (by intro v hv;simp only [List.mem_cons,List.not_mem_nil,or_false] at hv;rcases hv with rfl | rfl | rfl | rfl | rfl | rfl | rfl<;>first | rfl | assumption)]
 have h3:=h.go (Kn (Ext.refl w) h.obj (vs:=ZB x bv tv))
 generalize (Yt w p2 0 (ZB x bv tv))=w3 at h3 ⊢
 simp (disch:=try exact DI) only [↓PR,QR,simprocAttr,(Za h3.obj).1]
 exact ⟨h3.e,_,x,false,rfl,⟨bv,tv,rfl,h3.ob,h3.ot⟩,.inr ⟨rfl,hn⟩⟩
theorem H4 {l:List (List UInt8)} {u:List UInt8} {r:List Qm} (h:Qv l=some r):Qv (l++[u])=if (Au u).2=true then some (r++[(Au u).1]) else none:=by
 induction l generalizing r with
 | nil=>
  injection h with h
  subst h
  rw [List.nil_append,Qv]
  split
  · rfl
  · rfl
 | cons y l ih=>
  rw [Qv] at h
  split at h
  · rename_i hy
    cases ho:Qv l with
    | none=>rw [ho] at h;cases h
    | some q=>
     rw [ho] at h
     injection h with h
     subst h
     rw [List.cons_append,Qv,if_pos hy,ih ho]
     split<;>rfl
  · cases h
theorem Mo {l r:List (List UInt8)} (h:Qv l=none):Qv (l++r)=none:=by
 induction l with
 | nil=>cases h
 | cons y l ih=>
  rw [Qv] at h
  rw [List.cons_append,Qv]
  split
  · rename_i hy
    rw [if_pos hy] at h
    cases ho:Qv l with
    | none=>rw [ih ho];rfl
    | some q=>rw [ho] at h;cases h
  · rfl
theorem Ii (hE:VE w0) {to a:BAr} {W T:List (List UInt8)} (hT:T=W.drop (min 3 n)) (hWn:W.length=n) (hws:ws=W.map mkB) (hn:n≤90000) (hz:∀ u∈W,u.length≤100000) (h:RS w0 w p2 b0 n ws rs t27 ⟨to,5,a,0,0,[],[]⟩ (.slice none 0 0) (.slice none 0 0)) {K1:WPr}
 (hN:Qv T=none→Qt s=none) (hK:∀ l tv w',Qv T=some l→RS w0 w' p2 b0 n ws rs t27 ⟨to,5,a,0,0,[],l⟩ (.slice none 0 0) tv→K1 w') :
 C0 (.pointer (some ⟨p2,0,none⟩)) (.slice (some ⟨b0,0,none⟩) n n) K1 (ZJ (qH w0 s)) w:=by
 have hmin:(if (n:Int) < 3 then (n:Int) else 3)=((min 3 n:Nat):Int):=by split<;>omega
 have hTl:T.length=n - min 3 n:=by rw [hT,List.length_drop,hWn]
 unfold C0
 simp (disch:=try exact DI) only [↓PR,QR,simprocAttr]
 rw [hmin,Je underlying94 ty9 b0 0 n n (min 3 n) (by omega) (Nat.le_refl _)]
 have hoff:∃ off,(if n=min 3 n then 0 else 0+min 3 n*1)=off∧(min 3 n < n→off=min 3 n):=⟨_,rfl,λ h=>by rw [if_neg (by omega)];omega⟩
 obtain ⟨off,hoff,hoff2⟩:=hoff
 rw [hoff]
 simp (disch:=try exact DI) only [↓PR,QR,simprocAttr]
 have lp2:=(Array.getElem?_eq_some_iff.1 h.bld.obj).1
 have lB:w0.heap.size≤w.heap.size:=h.bld.e.size
 have lb0:0 < ws.length→b0 < w.heap.size:=by
  intro YW
  obtain ⟨x,hx⟩:=getElem?_lt YW
  obtain ⟨A,c,hv,_,_,_,YV⟩:=Zd.open h.ws
  obtain ⟨b,o,cs,hA,_,YV,rfl⟩:=YV 0 x hx
  injection hv with hv1 _ _
  rw [← hv1] at hA
  injection hA with hA
  injection hA with hb _
  subst hb
  exact World.block_lt_of_cell? _ _ (YV.c1 (Ext.refl w))
 have lb3:0 < rs.length→∀ A m c,t27 = .slice (some A) m c→A.block < w.heap.size:=by
  intro YW A m c hv
  obtain ⟨x,hx⟩:=getElem?_lt YW
  obtain ⟨A',c',hv',_,_,_,YV⟩:=Zd.open h.rs
  obtain ⟨b,o,cs,hA,_,YV,rfl⟩:=YV 0 x hx
  rw [hv] at hv'
  injection hv' with hv1 _ _
  rw [← hv1] at hA
  injection hA with hA
  subst hA
  exact World.block_lt_of_cell? _ _ (YV.c1 (Ext.refl w))
 refine ZQ (λ i w'=>∃ (k:Nat) (l:List Qm) (tv:Vl),i = .int .i64 k∧k≤T.length∧Qv (T.take k)=some l∧l.length=k∧ZT w' w.heap.size 78 3 Z6 tv l∧w.heap.size≤w'.heap.size∧RS w0 w' p2 b0 n ws rs t27 ⟨to,5,a,0,0,[],l⟩ (.slice none 0 0) tv) (λ i _=>T.length - (intOf i).toNat) ⟨0,[],_,rfl,by omega,rfl,rfl,ZT.nil _ _ _ _ _,Nat.le_refl _,h⟩ ?_
 rintro _ w1 ⟨k,l,tv,rfl,hk,hrl,hll,hO1,hz1,hR⟩
 rw [← hTl]
 rcases ZY hk with ⟨u,hu,hdr,Yq,Z5⟩ | ⟨hk,_,Z5⟩
 · have hWu:W[min 3 n+k]?=some u:=by rw [hT,List.getElem?_drop] at hu;exact hu
   have hsu:ws[min 3 n+k]?=some (mkB u):=by rw [hws,List.getElem?_map,hWu];rfl
   have hlt':k < n - min 3 n:=by omega
   have huz:=hz u (List.mem_of_getElem? hWu)
   obtain ⟨A,c,hv,_,_,_,YV⟩:=Zd.open hR.ws
   obtain ⟨b',o',cs,hA',_,hA,rfl⟩:=YV _ _ hsu
   injection hv with hv1 _ _
   rw [← hv1] at hA'
   injection hA' with hA'
   injection hA' with hb ho
   subst hb ho
   have XJ:w1.cell? ⟨b0,off+k*1,none⟩=some (.string (mkB u)):=by
    have:=hA.c1 (Ext.refl w1)
    rw [hoff2 (by omega)]
    rw [← this]
    congr 2
    omega
   have XG:=H4 (u:=u) hrl
   rw [← X7 hu] at XG
   simp (disch:=try exact DI) only [↓PR,QR,simprocAttr,Z5]
   unfold OF
   simp (disch:=try exact DI) only [↓PR,QR,simprocAttr,XJ]
   refine zcr (SL w1 (hE.ext hR.bld.e).env u huz) λ w2 e2=>?_
   obtain ⟨y,ok,hyo⟩:∃ y ok,Au u=(y,ok):=⟨_,_,rfl⟩
   rw [hyo] at XG ⊢
   simp only at XG ⊢
   have hR2:=hR.go e2
   unfold OE
   simp (disch:=try exact DI) only [↓PR,QR,simprocAttr]
   generalize hV:World.setCell (World.setCell (World.setCell (World.alloc w2 _) _ _) _ _) _ _=V
   have eV:Ext w2 V:=by rw [← hV];exact ((((Ext.refl w2).alloc _).setCell (Nat.le_refl _) _).setCell (Nat.le_refl _) _).setCell (Nat.le_refl _) _
   have oV:V.heap[w2.heap.size]?=some (.cells (Z6 y).toArray 78 (0,0)):=by rw [← hV];exact Zw (o:=2) (Zw (o:=1) (Zw (o:=0) (Zz w2 _ _) (.int .i64 y.low)) (.int .i64 y.high)) (.int .i64 y.to)
   clear hV
   obtain ⟨p8,hp8⟩:∃ p8,w2.heap.size=p8:=⟨_,rfl⟩
   rw [hp8] at oV ⊢
   have hRV:=hR2.go eV
   cases ok with
   | false=>
    rw [if_neg (by simp)] at XG
    have hno:Qt s=none:=hN (by
     have:=Mo (r:=T.drop (k+1)) XG
     rwa [List.take_append_drop] at this)
    simp (disch:=try exact DI) only [↓PR,QR,simprocAttr]
    exact xb hRV.bld hno
   | true=>
    rw [if_pos rfl] at XG
    unfold OD
    simp (disch:=try exact DI) only [↓PR,QR,simprocAttr,(Za hRV.bld.obj).1,(Za oV).1]
    have oY:=Zz V (Z6 y).toArray 78
    have eY:Ext V (V.alloc (.cells (Z6 y).toArray 78)):=(Ext.refl V).alloc _
    generalize (V.alloc (.cells (Z6 y).toArray 78))=Y at oY eY ⊢
    have hRY:=hRV.go eY
    have e1Y:=e2.trans (eV.trans eY)
    have hOY:=hO1.ext e1Y
    have hzY:w.heap.size≤Y.heap.size:=Nat.le_trans hz1 e1Y.size
    refine FL y hOY oY hzY (by omega) ?_
    intro v' w' hO' hg
    have hlo:∀ b,tv.ownBlock=some b→w.heap.size≤b:=λ b hb=>(World.ownsRow.lt hOY b hb).1
    have e':Ext w0 w':=hRY.bld.e.grown hg λ b hb=>Nat.le_trans lB (hlo b hb)
    have blk:∀ g,g < w.heap.size→w'.heap[g]?=Y.heap[g]?:=λ g hg1=>hg.block g (by omega) λ e=>by have:=hlo g e.symm;omega
    have sl:∀ {v:Vl} {ll:List BAr},(0 < ll.length→∀ A m c,v = .slice (some A) m c→A.block < w.heap.size)→Uf Y v ll→Uf w' v ll:=by
     intro v ll hty hs
     obtain ⟨A,c,hv,h2,h3,h4⟩:=hs
     refine ⟨A,c,hv,h2,h3,λ YW=>?_⟩
     obtain ⟨b,o,hA,YV⟩:=h4 YW
     subst hA
     have hb:=blk b (hty (List.length_pos_iff.2 YW) _ _ _ hv)
     exact ⟨b,o,rfl,λ i x hx=>by
      obtain ⟨cs',l1,hA',hE'⟩:=YV i x hx
      exact ⟨cs',l1,λ j v hv=>(World.cell?_of_block hb).trans (hA' j v hv),hE'⟩⟩
    have o8:=(blk p2 lp2).trans hRY.bld.obj
    have v1:v'.oneCell'=true:=Zd.oneCell (Vx hO')
    have hR':RS w0 w' p2 b0 n ws rs t27 ⟨to,5,a,0,0,[],l⟩ (.slice none 0 0) tv→True:=λ _=>trivial
    simp (disch:=try exact DI) only [↓PR,QR,simprocAttr,(Za o8).1,(Za o8).2]
    have hO2:ZT (w'.setCell ⟨p2,6,none⟩ v') w.heap.size 78 3 Z6 v' (l++[y]):=ZT.keep hO' λ g hgo=>YH.setCell _ p2 _ _ g (by have:=(World.ownsRow.lt hO' g hgo).1;omega)
    have wsl:=sl (v := .slice (some ⟨b0,0,none⟩) n n) (λ YW A m c e=>by injection e with e;injection e with e;subst e;exact lb0 YW) hRY.ws
    have rsl:=sl lb3 hRY.rs
    refine ⟨⟨k+1,l++[y],v',rfl,Yq,XG,by simp [hll],hO2,by have:=hg.size;first | omega | (rw [World.size_setCell];omega),⟨⟨e'.setCell (p:=⟨p2,6,none⟩) h.bld.lp _,h.bld.lp,?_,ZT.nil _ _ _ _ _,hO2.base lB⟩,Zd.setOther wsl _ (λ A m c e=>by injection e with e;injection e with e;subst e;exact h.nb) (λ _ _ h=>h),h.nb,Zd.setOther rsl _ h.nr (λ _ _ h=>h),h.nr⟩⟩,Yf (kd := .i64) Yq⟩
    have:=Zw (o:=6) o8 v'
    rw [this]
    rfl
 · subst hk
   rw [List.take_length] at hrl
   simp (disch:=try exact DI) only [↓PR,QR,simprocAttr,Z5]
   exact hK l tv w1 hrl hR
end
theorem DV (c:UInt8):∀ l:List UInt8,(Yv c l).length≤l.length+1
 | []=>by simp [Yv]
 | b::l=>by
  have ih:=DV c l
  by_cases h:b=c
  · subst h
    rw [W7,List.length_cons,List.length_cons]
    omega
  · cases hL:Yv c l with
    | nil=>exact absurd hL (VL _ _)
    | cons x r=>
     rw [hL] at ih
     rw [XY h hL]
     simp only [List.length_cons] at ih ⊢
     omega
theorem Cf {w:Wd} (hE:Uc w) (s:List UInt8) (c:UInt8) (hs:s.length≤100000):Ret Pg 50 #[.string (mkB s),.string ⟨#[c]⟩] w λ r w'=>Ext w w'∧r = .slice (some ⟨w.heap.size,0,none⟩) (Yv c s).length (Yv c s).length∧Uf w' r ((Yv c s).map mkB):=by
 refine (Ll hE (mkB s) c (by rw [Xa];exact hs)).mono ?_
 rintro _ w' ⟨e,n,rfl,h⟩
 rw [MC] at h
 unfold Zbj at h
 rw [WH] at h
 obtain ⟨A,cc,hv,_⟩:=Zd.open h
 injection hv with _ hn _
 rw [List.length_map] at hn
 subst hn
 exact ⟨e,rfl,h⟩
theorem ZcD (k:List UInt8) (i:Int):decide (mkB k=mkB (kwW i))=decide (k=kwW i):=IJ
theorem AN:∀ (a r:List UInt8),Xx a=some r→r.length≤a.length
 | [],r,h=>by injection h with h;subst h;simp
 | [x],r,h=>by
  unfold Xx at h
  cases hx:Vi x with
  | none=>rw [hx] at h;cases h
  | some d=>rw [hx] at h;injection h with h;subst h;simp
 | x::y::l,r,h=>by
  unfold Xx at h
  cases hx:Vi x with
  | none=>rw [hx] at h;cases h
  | some d=>
   cases hy:Vi y with
   | none=>rw [hx,hy] at h;cases h
   | some d2=>
    cases hl:Xx l with
    | none=>rw [hx,hy,hl] at h;cases h
    | some q=>
     rw [hx,hy,hl] at h
     injection h with h
     subst h
     have:=AN l q hl
     simp only [List.length_cons]
     omega
theorem MJ (a:List UInt8):(Qy a).length≤a.length:=by
 unfold Qy
 cases h:Xx a with
 | none=>simp
 | some r=>exact AN a r h
theorem H5 (w0:Wd) (hE:VE w0) (s:List UInt8) (hs:s.length≤80000):Ret Pg 51 #[.string (mkB s)] w0 (qH w0 s):=by
 have hlb:=LX s
 have hcl:=DV 32 s
 have hcs:∀ u∈Yv 32 s,u.length≤80000:=λ u hu=>Nat.le_trans (G3 hu) hs
 refine Zhc (R:=ZJ _) ?_;unfold n46
 simp (disch:=try exact DI) only [↓PR,QR,simprocAttr]
 have oV:=Zz w0 #[.string ByteArray.empty,.int .i64 0,.string ByteArray.empty,.int .i64 0,.int .i64 0,.slice none 0 0,.slice none 0 0] 43
 have eV:Ext w0 (w0.alloc (.cells #[.string ByteArray.empty,.int .i64 0,.string ByteArray.empty,.int .i64 0,.int .i64 0,.slice none 0 0,.slice none 0 0] 43)):=(Ext.refl w0).alloc _
 have sV:(w0.alloc (.cells #[.string ByteArray.empty,.int .i64 0,.string ByteArray.empty,.int .i64 0,.int .i64 0,.slice none 0 0,.slice none 0 0] 43)).heap.size=w0.heap.size+1:=World.size_alloc ..
 generalize (w0.alloc (.cells #[.string ByteArray.empty,.int .i64 0,.string ByteArray.empty,.int .i64 0,.int .i64 0,.slice none 0 0,.slice none 0 0] 43))=V at oV eV sV ⊢
 obtain ⟨p2,hp2⟩:∃ p2,w0.heap.size=p2:=⟨_,rfl⟩
 rw [hp2] at oV sV ⊢
 have hB0:Wj w0 V p2 ⟨ByteArray.empty,0,ByteArray.empty,0,0,[],[]⟩ (.slice none 0 0) (.slice none 0 0):=⟨eV,by omega,oV,ZT.nil _ _ _ _ _,ZT.nil _ _ _ _ _⟩
 refine Zl (Cf (hE.ext eV).env s 32 (by omega)) ?_
 rintro _ w1 ⟨e1,rfl,hW⟩
 have hB1:=hB0.go e1
 have nb:V.heap.size≠p2:=by omega
 obtain ⟨b0,hb0⟩:∃ b0,V.heap.size=b0:=⟨_,rfl⟩
 rw [hb0] at hW nb ⊢
 unfold OP
 have YW:=VL 32 s
 generalize hWW:Yv 32 s=W at hW hcl hcs hlb YW ⊢
 match W,YW,hW,hcl,hcs,hlb with
 | [y],_,hW,hcl,hcs,hlb=>
  have hno:Qt s=none:=hlb
  simp (disch:=try exact DI) only [↓PR,QR,simprocAttr]
  exact xb hB1 hno
 | t::k::rest,_,hW,hcl,hcs,hlb=>
  have hn2:2≤(t::k::rest).length:=by simp
  have d2:decide (((t::k::rest).length:Int) < 2)=false:=by simp only [decide_eq_false_iff_not];omega
  obtain ⟨A,c,hv,_,_,_,YV⟩:=Zd.open hW
  injection hv with hv1 _ _
  obtain ⟨b',o',cs,hA0,_,hA,rfl⟩:=YV 0 (mkB t) rfl
  obtain ⟨b'',o'',cs,hA1,_,hAk,rfl⟩:=YV 1 (mkB k) rfl
  rw [← hv1] at hA0 hA1
  injection hA0 with hA0
  injection hA0 with g1 g2
  subst g1 g2
  injection hA1 with hA1
  injection hA1 with g1 g2
  subst g1 g2
  have ct:w1.cell? ⟨b0,0,none⟩=some (.string (mkB t)):=hA.c1 (Ext.refl w1)
  have ck:w1.cell? ⟨b0,1,none⟩=some (.string (mkB k)):=hAk.c1 (Ext.refl w1)
  have htz:=hcs t (List.mem_cons_self ..)
  have XJ:∀ j x,(rest.map mkB)[j]?=some x→Yg w1 b0 (2+j*1) (Xi x):=by
   intro j x hx
   obtain ⟨b3,o3,cs,hA3,_,hA4,rfl⟩:=YV (j+2) x hx
   rw [← hv1] at hA3
   injection hA3 with hA3
   injection hA3 with g1 g2
   subst g1 g2
   rw [show 2+j*1=0+(j+2)*1 by omega]
   exact hA4
  generalize hn:(t::k::rest).length=n at hn2 d2 hcl hW ⊢
  simp (disch:=try exact DI) only [↓PR,QR,simprocAttr,d2]
  unfold OO
  try unfold X0
  rw [Yl underlying94 ty9 b0 0 n n .i64 0 (by decide) (by omega),show 0+(0:Int).toNat*1=0 from rfl]
  simp (disch:=try exact DI) only [↓PR,QR,simprocAttr,ct,(Za hB1.obj).1,(Za hB1.obj).2]
  have hBX:=hB1.set 0 (.string (mkB t)) ⟨mkB t,0,ByteArray.empty,0,0,[],[]⟩ (.slice none 0 0) (.slice none 0 0) rfl hB1.ob hB1.ot
  have hWX:Uf (w1.setCell ⟨p2,0,none⟩ (.string (mkB t))) (.slice (some ⟨b0,0,none⟩) n n) ((t::k::rest).map mkB):=Zd.setOther hW _ (λ A m c e=>by injection e with e;injection e with e;subst e;exact nb) (λ _ _ h=>h)
  have ckX:(w1.setCell ⟨p2,0,none⟩ (.string (mkB t))).cell? ⟨b0,1,none⟩=some (.string (mkB k)):=by rw [YX (.inl nb)];exact ck
  have hcX:∀ j x,(rest.map mkB)[j]?=some x→Yg (w1.setCell ⟨p2,0,none⟩ (.string (mkB t))) b0 (2+j*1) (Xi x):=λ j x hx i v hv=>by rw [YX (.inl nb)];exact XJ j x hx i v hv
  generalize (w1.setCell ⟨p2,0,none⟩ (.string (mkB t)))=X at hBX hWX ckX hcX ⊢
  have XA:(rest.map mkB).length=n - 2:=by rw [List.length_map,← hn];simp
  obtain ⟨o,ho,ho2⟩:∃ o,(if n=2 then 0 else 0+2*1)=o∧(2 < n→o=2):=⟨_,rfl,λ h=>by rw [if_neg (by omega)]⟩
  refine (ES underlying94 ty9 b0 0 n n 2 n hn2 (Nat.le_refl _)).mpr ?_
  rw [ho]
  simp (disch:=try exact DI) only [↓PR,QR,simprocAttr]
  have hE2:=Uw X [ByteArray.empty,ByteArray.empty] (by simp) (Nat.le_refl _)
  have eY:Ext X (X.alloc (.cells (([ByteArray.empty,ByteArray.empty]:List BAr).map Value.string).toArray 9)):=(Ext.refl X).alloc _
  change opV _ _ _ (X.alloc (.cells (([ByteArray.empty,ByteArray.empty]:List BAr).map Value.string).toArray 9)) _
  generalize (X.alloc (.cells (([ByteArray.empty,ByteArray.empty]:List BAr).map Value.string).toArray 9))=Y at hE2 eY ⊢
  rw [← XA]
  refine Cq (l:=rest.map mkB) (l':=[ByteArray.empty,ByteArray.empty]) (λ j x hx=>?_) (zx hE2) (by simp) (by omega) (by simp) ?_
  · have:=(List.getElem?_eq_some_iff.1 hx).1
    rw [ho2 (by omega)]
    exact λ i v hv=>eY.cell (hcX j x hx i v hv)
  intro t27 Z hO27 eZ
  have eXZ:=eY.trans eZ
  have lX2:=(Array.getElem?_eq_some_iff.1 hBX.obj).1
  have hRS:RS w0 Z p2 b0 n ((t::k::rest).map mkB) (rest.map mkB++[ByteArray.empty,ByteArray.empty]) t27 ⟨mkB t,0,ByteArray.empty,0,0,[],[]⟩ (.slice none 0 0) (.slice none 0 0):=by
   refine ⟨hBX.go eXZ,Zd.ext JE hWX eXZ,nb,zx hO27,λ A m c e=>?_⟩
   subst e
   have:=(World.ownsRow.lt hO27 A.block rfl).1
   have:=eY.size
   omega
  have ckZ:=eXZ.cell ckX
  try unfold X0
  rw [Yl underlying94 ty9 b0 0 n n .i64 1 (by decide) (by omega),show 0+(1:Int).toNat*1=1 from rfl]
  have dk:∀ (i:Int) (b:BAr),b=mkB (kwW i)→decide (mkB k=b)=decide (k=kwW i):=λ i b hb=>by rw [hb];exact ZcD k i
  have dk1:=dk 1 ⟨#[99,111,112,121]⟩ rfl
  have dk2:=dk 2 ⟨#[97,100,100]⟩ rfl
  have dk3:=dk 3 ⟨#[118,97,108,117,101]⟩ rfl
  have dk4:=dk 4 ⟨#[98,121,116,101,115]⟩ rfl
  have dk5:=dk 5 ⟨#[116,97,98,108,101]⟩ rfl
  have dk6:=dk 6 ⟨#[110,101,115,116,101,100]⟩ rfl
  have dk7:=dk 7 ⟨#[102,105,116]⟩ rfl
  obtain ⟨a,ha,ha1⟩:∃ a,rest[0]?.getD []=a∧(rest.map mkB++[ByteArray.empty,ByteArray.empty])[0]?=some (mkB a):=by
   cases rest with
   | nil=>exact ⟨[],rfl,rfl⟩
   | cons y r=>exact ⟨y,rfl,rfl⟩
  obtain ⟨b,hb,hb1⟩:∃ b,rest[1]?.getD []=b∧(rest.map mkB++[ByteArray.empty,ByteArray.empty])[1]?=some (mkB b):=by
   match rest with
   | []=>exact ⟨[],rfl,rfl⟩
   | [_]=>exact ⟨[],rfl,rfl⟩
   | _::y::r=>exact ⟨y,rfl,rfl⟩
  have haz:a.length≤80000:=by
   rw [← ha]
   cases rest with
   | nil=>simp
   | cons y r=>exact hcs y (by simp)
  have hbz:b.length≤80000:=by
   rw [← hb]
   match rest with
   | []=>simp
   | [_]=>simp
   | _::y::r=>exact hcs y (by simp)
  have hbld:RJ (t::k::rest)=if k=kwW 1 then some ⟨mkB t,1,mkB a,0,0,[],[]⟩ else if k=kwW 2 then some ⟨mkB t,2,mkB a,XB (Z8 b),0,[],[]⟩ else if k=kwW 3 then some ⟨mkB t,3,⟨#[]⟩,0,XB (Z8 a),[],[]⟩ else if k=kwW 4 then some ⟨mkB t,4,⟨#[]⟩,0,0,Qy a,[]⟩ else if k=kwW 5 then (Qv rest.tail).map λ l=>⟨mkB t,5,mkB a,0,0,[],l⟩ else if k=kwW 6 then some ⟨mkB t,6,mkB a,0,0,[],[]⟩ else if k=kwW 7 then some ⟨mkB t,7,⟨#[]⟩,0,0,[],[]⟩ else none:=by
   rw [← ha,← hb];rfl
  have tz:(mkB t).size≤100000:=by rw [Xa];omega
  have az:(mkB a).size≤100000:=by rw [Xa];omega
  have ez:(⟨#[]⟩:BAr).size=0:=rfl
  have fin:∀ (x:FrD) (bv tv:Vl) (w':Wd),Wj w0 w' p2 x bv tv→inF x=true→x.bytes.length≤100000→x.table.length≤90000→x.to.size≤100000→x.fr.size≤100000→RJ (t::k::rest)=some x→Ye w' λ C2 w=>IR (.string (mkB s)) (.pointer (some ⟨p2,0,none⟩)) C2 (ZJ (qH w0 s)) w:=λ x bv tv w' h h1 h2 h3 h4 h5 h6=>Mp hE h h1 h2 h3 h4 h5 (by rw [hlb,h6])
  have in0:∀ (to fr:BAr) (kd ad vl:Int) (by_:List UInt8),X6 ad=true→X6 vl=true→inF ⟨to,kd,fr,ad,vl,by_,[]⟩=true:=λ to fr kd ad vl by_ h1 h2=>by unfold inF;simp only [h1,h2,List.all_nil,Bool.and_self]
  simp (disch:=try exact DI) only [↓PR,QR,simprocAttr,ckZ,dk1]
  by_cases k1:k=kwW 1
  · rw [decide_eq_true k1]
    rw [if_pos k1] at hbld
    simp (disch:=try exact DI) only [↓PR,QR,simprocAttr]
    exact PW hRS ha1 λ w' h=>fin _ _ _ _ h.bld (in0 _ _ _ _ _ _ (by decide) (by decide)) (by simp) (by simp) tz az hbld
  rw [decide_eq_false k1]
  rw [if_neg k1] at hbld
  simp (disch:=try exact DI) only [↓PR,QR,simprocAttr,ON,dk2]
  by_cases k2:k=kwW 2
  · rw [decide_eq_true k2]
    rw [if_pos k2] at hbld
    simp (disch:=try exact DI) only [↓PR,QR,simprocAttr]
    refine SG hRS ha1 λ w' h=>?_
    obtain ⟨b3,o3,m,c3,rfl,hm,hbp,XJ⟩:=h.second hb1
    unfold OR
    try unfold X0
    rw [Yl underlying94 ty9 b3 o3 m c3 .i64 1 (by decide) (by omega),show o3+(1:Int).toNat*1=o3+1 from rfl]
    simp (disch:=try exact DI) only [↓PR,QR,simprocAttr,XJ]
    refine zcr (WE w' (hE.ext h.bld.e).env b (by omega)) λ w4 e4=>?_
    have hB4:=h.bld.go e4
    unfold A6 T1
    simp (disch:=try exact DI) only [↓PR,QR,simprocAttr,(Za hB4.obj).1,(Za hB4.obj).2]
    have h5:=hB4.set 3 (.int .i64 (XB (Z8 b))) ⟨mkB t,2,mkB a,XB (Z8 b),0,[],[]⟩ (.slice none 0 0) (.slice none 0 0) rfl hB4.ob hB4.ot
    exact fin _ _ _ _ h5 (in0 _ _ _ _ _ _ (Ki _) (by decide)) (by simp) (by simp) tz az hbld
  rw [decide_eq_false k2]
  rw [if_neg k2] at hbld
  simp (disch:=try exact DI) only [↓PR,QR,simprocAttr,OM,dk3]
  by_cases k3:k=kwW 3
  · rw [decide_eq_true k3]
    rw [if_pos k3] at hbld
    obtain ⟨b3,o3,m,c3,rfl,hm,hbp,XJ⟩:=hRS.first ha1
    have q:=Za hRS.bld.obj
    simp (disch:=try exact DI) only [↓PR,QR,simprocAttr,OK,q.1,q.2]
    have h1:=hRS.bld.set 1 (.int .i64 3) ⟨mkB t,3,ByteArray.empty,0,0,[],[]⟩ (.slice none 0 0) (.slice none 0 0) rfl hRS.bld.ob hRS.bld.ot
    have hc1:(Z.setCell ⟨p2,1,none⟩ (.int .i64 3)).cell? ⟨b3,o3,none⟩=some (.string (mkB a)):=by rw [YX (.inl hbp)];exact XJ
    generalize (Z.setCell ⟨p2,1,none⟩ (.int .i64 3))=Z1 at h1 hc1 ⊢
    try unfold X0
    rw [Yl underlying94 ty9 b3 o3 m c3 .i64 0 (by decide) (by omega),show o3+(0:Int).toNat*1=o3 from rfl]
    simp (disch:=try exact DI) only [↓PR,QR,simprocAttr,hc1]
    refine zcr (WE Z1 (hE.ext h1.e).env a (by omega)) λ w4 e4=>?_
    have hB4:=h1.go e4
    unfold A6 T2
    simp (disch:=try exact DI) only [↓PR,QR,simprocAttr,(Za hB4.obj).1,(Za hB4.obj).2]
    have h5:=hB4.set 4 (.int .i64 (XB (Z8 a))) ⟨mkB t,3,ByteArray.empty,0,XB (Z8 a),[],[]⟩ (.slice none 0 0) (.slice none 0 0) rfl hB4.ob hB4.ot
    exact fin _ _ _ _ h5 (in0 _ _ _ _ _ _ (by decide) (Ki _)) (by simp) (by simp) tz (by show (⟨#[]⟩:BAr).size≤_;rw [ez];omega) hbld
  rw [decide_eq_false k3]
  rw [if_neg k3] at hbld
  simp (disch:=try exact DI) only [↓PR,QR,simprocAttr,OL,dk4]
  by_cases k4:k=kwW 4
  · rw [decide_eq_true k4]
    rw [if_pos k4] at hbld
    obtain ⟨b3,o3,m,c3,rfl,hm,hbp,XJ⟩:=hRS.first ha1
    simp (disch:=try exact DI) only [↓PR,QR,simprocAttr]
    unfold OI
    try unfold X0
    rw [Yl underlying94 ty9 b3 o3 m c3 .i64 0 (by decide) (by omega),show o3+(0:Int).toNat*1=o3 from rfl]
    simp (disch:=try exact DI) only [↓PR,QR,simprocAttr,XJ]
    refine Zl (MK Z (hE.ext hRS.bld.e).env a (by omega)) ?_
    rintro u w4 ⟨hu,e4⟩
    have hB4:=hRS.bld.go e4
    have hu0:ZT w4 w0.heap.size 5 1 XF u (Qy a):=hu.base (hRS.bld.e.size)
    have u1:u.oneCell'=true:=Zd.oneCell (GH hu0)
    unfold T3
    simp (disch:=try exact DI) only [↓PR,QR,simprocAttr,(Za hB4.obj).1,(Za hB4.obj).2]
    have h5:=hB4.set 1 (.int .i64 4) ⟨mkB t,4,ByteArray.empty,0,0,[],[]⟩ (.slice none 0 0) (.slice none 0 0) rfl hB4.ob hB4.ot
    have hu5:ZT (w4.setCell ⟨p2,1,none⟩ (.int .i64 4)) w0.heap.size 5 1 XF u (Qy a):=by
     have:=(hu.range.only (YH.setCell w4 p2 1 (.int .i64 4)) (.inr (.inl (by have:=(Array.getElem?_eq_some_iff.1 hRS.bld.obj).1;omega)))).1
     exact this.base hRS.bld.e.size
    have h6:=h5.set 5 u ⟨mkB t,4,ByteArray.empty,0,0,Qy a,[]⟩ u (.slice none 0 0) rfl hu5 h5.ot
    exact fin _ _ _ _ h6 (in0 _ _ _ _ _ _ (by decide) (by decide)) (Nat.le_trans (MJ a) (by omega)) (by simp) tz (by show (⟨#[]⟩:BAr).size≤_;rw [ez];omega) hbld
  rw [decide_eq_false k4]
  rw [if_neg k4] at hbld
  simp (disch:=try exact DI) only [↓PR,QR,simprocAttr,OJ,dk5]
  by_cases k5:k=kwW 5
  · rw [decide_eq_true k5]
    rw [if_pos k5] at hbld
    have hT:rest.tail=(t::k::rest).drop (min 3 n):=by
     rw [← hn]
     cases rest with
     | nil=>rfl
     | cons y r=>
      rw [show min 3 (t::k::y::r).length=3 by simp only [List.length_cons];omega]
      rfl
    have htl:rest.tail.length≤n:=by rw [← hn,List.length_tail];simp only [List.length_cons];omega
    simp (disch:=try exact DI) only [↓PR,QR,simprocAttr]
    refine SH hRS ha1 λ w' h=>?_
    refine Ii hE hT hn rfl (by omega) (λ u hu=>by have:=hcs u hu;omega) h (λ hno=>by rw [hlb,hbld,hno];rfl) λ l tv w'' hl h''=>?_
    have hin:=Fg hl
    refine fin _ _ _ _ h''.bld ?_ (by simp) (by show l.length≤_;omega) tz az (by rw [hbld,hl];rfl)
    unfold inF
    simp only [hin.1,Bool.and_true]
    decide
  rw [decide_eq_false k5]
  rw [if_neg k5] at hbld
  simp (disch:=try exact DI) only [↓PR,QR,simprocAttr,OH,dk6]
  by_cases k6:k=kwW 6
  · rw [decide_eq_true k6]
    rw [if_pos k6] at hbld
    simp (disch:=try exact DI) only [↓PR,QR,simprocAttr]
    exact PX hRS ha1 λ w' h=>fin _ _ _ _ h.bld (in0 _ _ _ _ _ _ (by decide) (by decide)) (by simp) (by simp) tz az hbld
  rw [decide_eq_false k6]
  rw [if_neg k6] at hbld
  simp (disch:=try exact DI) only [↓PR,QR,simprocAttr,OG,dk7]
  by_cases k7:k=kwW 7
  · rw [decide_eq_true k7]
    rw [if_pos k7] at hbld
    have q:=Za hRS.bld.obj
    simp (disch:=try exact DI) only [↓PR,QR,simprocAttr,q.1,q.2]
    have h1:=hRS.bld.set 1 (.int .i64 7) ⟨mkB t,7,ByteArray.empty,0,0,[],[]⟩ (.slice none 0 0) (.slice none 0 0) rfl hRS.bld.ob hRS.bld.ot
    exact fin _ _ _ _ h1 (in0 _ _ _ _ _ _ (by decide) (by decide)) (by simp) (by simp) tz (by show (⟨#[]⟩:BAr).size≤_;rw [ez];omega) hbld
  rw [decide_eq_false k7]
  rw [if_neg k7] at hbld
  simp (disch:=try exact DI) only [↓PR,QR,simprocAttr]
  exact xb hRS.bld (by rw [hlb,hbld];rfl)
theorem qI {w:Wd} (hE:Uc w) (s:List UInt8) (c:UInt8) (hs:s.length≤1000000000):Ret Pg 48 #[.string (mkB s),.string ⟨#[c]⟩] w λ r w'=>Ext w w'∧r = .slice (some ⟨w.heap.size,0,none⟩) (Yv c s).length (Yv c s).length∧w'.heap[w.heap.size]?=some (.cells (((Xs c (Yv c s)).map mkB).map Value.string).toArray 9 (0,0)):=by
 obtain ⟨m,hm⟩:=hE.len
 have h1:1≤(⟨#[c]⟩:BAr).size:=Nat.le_refl _
 have hle:=Go.Lib.countB_le ⟨#[c]⟩ h1 (mkB s).size (mkB s) (Nat.le_refl _)
 have hl:=Go.Lib.splitB_all ⟨#[c]⟩ h1 1 _ (mkB s) rfl
 have hz:=Xa s
 refine Zeh (R:=ZJ _) ?_;unfold Zeg
 simp (disch:=try exact DI) only [↓PR,QR,simprocAttr]
 refine Zl (Φ:=λ r w'=>Ext w w'∧r = .slice (some ⟨w.heap.size,0,none⟩) (Yv c s).length (Yv c s).length∧w'.heap[w.heap.size]?=some (.cells (((Xs c (Yv c s)).map mkB).map Value.string).toArray 9 (0,0))) ?_ λ v w' h=>⟨v,rfl,h⟩
 have hk:=JV (mkB s) ⟨#[c]⟩ 1 (-1) (Go.Lib.countB (mkB s) ⟨#[c]⟩+1) m w (by omega) hm h1 h1 (by decide) (by decide) (by rw [if_pos (by decide)];omega)
 rw [Nat.add_sub_cancel,hl] at hk
 refine Calls.mono hk ?_
 rintro e w' ⟨rfl,rfl⟩
 have hsp:=Fv c (mkB s)
 rw [WH] at hsp
 rw [hsp] at hl ⊢
 rw [List.length_map,Gi] at hl
 refine ⟨_,rfl,(Ext.refl w).alloc _,by rw [hl],?_⟩
 have e2:Go.Lib.cellsOf ((Xs c (Yv c s)).map mkB) (Go.Lib.countB (mkB s) ⟨#[c]⟩+1)=(((Xs c (Yv c s)).map mkB).map Value.string).toArray:=by
  have:Go.Lib.countB (mkB s) ⟨#[c]⟩+1=((Xs c (Yv c s)).map mkB).length:=by rw [List.length_map,Gi,hl]
  rw [this]
  exact Go.Lib.cellsOf_full _
 rw [e2]
 exact Zz _ _ _
structure Chg (g:Nat) (w w':Wd):Prop where
 size:w.heap.size≤w'.heap.size
 block:∀ b,b < w.heap.size→b≠g→w'.heap[b]?=w.heap[b]?
theorem JM {α:Type} {w w':Wd} {g lo n:Nat} {T:TypeId} {enc:α→List Vl} {v:Vl} {l:List α} (h:ZT w lo T n enc v l) (hc:Chg g w w') (hg:v.ownBlock≠some g):ZT w' lo T n enc v l:=
 ZT.keep h λ b hb=>hc.block b (World.ownsRow.lt h b hb).2 λ e=>hg (by rw [hb,e])
theorem Ux {α:Type} {w:Wd} {g lo n:Nat} {T T':TypeId} {enc:α→List Vl} {v:Vl} {l:List α} {cs:AVl} {f:Nat×Nat} (h:ZT w lo T n enc v l) (ho:w.heap[g]?=some (.cells cs T' f)) (hT:T≠T'):v.ownBlock≠some g:=by
 intro hg
 rcases h.2 with ⟨rfl,_⟩ | ⟨g',cap,cur,rfl,_,hg',_⟩
 · cases hg
 · have:g'=g:=by simpa [Value.ownBlock] using hg
   subst this
   rw [ho] at hg'
   injection hg' with hg'
   injection hg' with _ hg'
   exact hT hg'.symm
def E7 (w:Wd) (b0:Nat) (cs:List Vl) (x:FrD):Prop:=∃ bv tv,cs=ZB x bv tv∧ZT w b0 5 1 XF bv x.bytes∧ZT w b0 78 3 Z6 tv x.table
def WZ (w:Wd) (b0 lo hi:Nat) (fv:Vl) (fs:List FrD):Prop:=∃ css:List (Cs 7),ZT w lo 43 7 Subtype.val fv css∧(∀ b,fv.ownBlock=some b→b < hi)∧VI 7 (E7 w b0) css fs
def DE (w:Wd) (b0 lo hi:Nat) (cs:List Vl) (r:MrD):Prop:=∃ fv,cs=YY r fv∧WZ w b0 lo hi fv r.fields
section
variable {w w':Wd} {b0 lo hi g:Nat} {fv:Vl} {fs:List FrD} {cs:List Vl} {x:FrD} {r:MrD} {T:TypeId} {oc:AVl} {f:Nat×Nat}
theorem E7.ext (h:E7 w b0 cs x) (e:Ext w w'):E7 w' b0 cs x:=by obtain ⟨bv,tv,h1,h2,h3⟩:=h;exact ⟨bv,tv,h1,h2.ext e,h3.ext e⟩
theorem E7.chg (h:E7 w b0 cs x) (hc:Chg g w w') (ho:w.heap[g]?=some (.cells oc T f)) (h1:5≠T) (h2:78≠T):E7 w' b0 cs x:=by
 obtain ⟨bv,tv,a1,a2,a3⟩:=h
 exact ⟨bv,tv,a1,JM a2 hc (Ux a2 ho h1),JM a3 hc (Ux a3 ho h2)⟩
theorem E7.fr (h:E7 w b0 cs x):EFr w cs x:=by obtain ⟨bv,tv,a1,a2,a3⟩:=h;exact ⟨bv,tv,a1,GH a2,Vx a3⟩
theorem WZ.ext (h:WZ w b0 lo hi fv fs) (e:Ext w w'):WZ w' b0 lo hi fv fs:=by obtain ⟨css,h1,h2,h3⟩:=h;exact ⟨css,h1.ext e,h2,h3.imp λ _ _ h=>h.ext e⟩
theorem WZ.toHi {hi':Nat} (h:WZ w b0 lo hi fv fs) (hh:hi≤hi'):WZ w b0 lo hi' fv fs:=by obtain ⟨css,h1,h2,h3⟩:=h;exact ⟨css,h1,λ b hb=>Nat.lt_of_lt_of_le (h2 b hb) hh,h3⟩
theorem WZ.toLo {lo':Nat} (h:WZ w b0 lo hi fv fs) (hh:lo'≤lo):WZ w b0 lo' hi fv fs:=by obtain ⟨css,h1,h2,h3⟩:=h;exact ⟨css,h1.base hh,h2,h3⟩
theorem WZ.chg (h:WZ w b0 lo hi fv fs) (hc:Chg g w w') (ho:w.heap[g]?=some (.cells oc T f)) (h1:5≠T) (h2:78≠T) (hg:fv.ownBlock≠some g):WZ w' b0 lo hi fv fs:=by
 obtain ⟨css,a1,a2,a3⟩:=h
 exact ⟨css,JM a1 hc hg,a2,a3.imp λ _ _ h=>h.chg hc ho h1 h2⟩
theorem WZ.chgT (h:WZ w b0 lo hi fv fs) (hc:Chg g w w') (ho:w.heap[g]?=some (.cells oc T f)) (h1:5≠T) (h2:78≠T) (h3:43≠T):WZ w' b0 lo hi fv fs:=by
 have h':=h
 obtain ⟨css,a1,a2,a3⟩:=h'
 exact h.chg hc ho h1 h2 (Ux a1 ho h3)
theorem WZ.frs (h:WZ w b0 lo hi fv fs):WB w fv fs:=by
 obtain ⟨css,a1,_,a3⟩:=h
 exact a1.reads (a3.imp λ _ _ h=>h.fr)
theorem DE.ext (h:DE w b0 lo hi cs r) (e:Ext w w'):DE w' b0 lo hi cs r:=by obtain ⟨fv,h1,h2⟩:=h;exact ⟨fv,h1,h2.ext e⟩
theorem DE.mr (h:DE w b0 lo hi cs r):EMr w cs r:=by obtain ⟨fv,h1,h2⟩:=h;exact ⟨fv,h1,h2.frs⟩
end
structure PS (b16:Nat) (lcs:AVl) (w0 w:Wd) (p2 B:Nat) (st:PsD) (rv:Vl):Prop where
 ln:w.heap[b16]?=some (.cells lcs 9 (0,0))
 e:Ext w0 w
 lp:w0.heap.size≤p2
 obj:w.heap[p2]?=some (.cells #[.string st.name,rv] 24 (0,0))
 b1:w0.heap.size≤B
 b2:B≤w.heap.size
 row:∃ css dss:List (Cs 3),ZT w w0.heap.size 60 3 Subtype.val rv (css++dss)∧VI 3 (DE w w0.heap.size w0.heap.size B) css st.done∧VI 3 (DE w w0.heap.size B w.heap.size) dss st.cur.toList
section
variable {b16:Nat} {lcs:AVl} {w0 w w':Wd} {p2 B:Nat} {st:PsD} {rv:Vl}
theorem PS.go (h:PS b16 lcs w0 w p2 B st rv) (e:Ext w w'):PS b16 lcs w0 w' p2 B st rv:=by
 obtain ⟨h0,h1,h2,h3,h4,h5,css,dss,a1,a2,a3⟩:=h
 exact ⟨e.obj h0,h1.trans e,h2,e.obj h3,h4,Nat.le_trans h5 e.size,css,dss,a1.ext e,a2.imp λ _ _ h=>h.ext e,a3.imp λ _ _ ⟨fv,g1,g2⟩=>⟨fv,g1,(g2.ext e).toHi e.size⟩⟩
theorem zW {n:Nat} {α:Type} {E:List Vl→α→Prop} {c1 c2:List (Cs n)} {l1 l2:List α} (h1:VI n E c1 l1) (h2:VI n E c2 l2):VI n E (c1++c2) (l1++l2):=by
 refine ⟨by rw [List.length_append,List.length_append,h1.1,h2.1],λ k x cs hx hc=>?_⟩
 by_cases hk:k < l1.length
 · rw [List.getElem?_append_left hk] at hx
   rw [List.getElem?_append_left (by rw [h1.1];exact hk)] at hc
   exact h1.2 k x cs hx hc
 · rw [List.getElem?_append_right (by omega)] at hx
   rw [List.getElem?_append_right (by rw [h1.1];omega),h1.1] at hc
   exact h2.2 _ x cs hx hc
theorem PS.read (h:PS b16 lcs w0 w p2 B st rv):Kg w rv (st.done++st.cur.toList):=by
 obtain ⟨css,dss,a1,a2,a3⟩:=h.row
 exact a1.reads (zW (a2.imp λ _ _ h=>h.mr) (a3.imp λ _ _ h=>h.mr))
theorem PS.one (h:PS b16 lcs w0 w p2 B st rv):rv.oneCell'=true:=Zd.oneCell h.read
theorem PS.close {nm:BAr} {done:List MrD} {r:MrD} (h:PS b16 lcs w0 w p2 B ⟨nm,done,some r⟩ rv):PS b16 lcs w0 w p2 w.heap.size ⟨nm,done++[r],none⟩ rv:=by
 obtain ⟨h0,h1,h2,h3,h4,h5,css,dss,a1,a2,a3⟩:=h
 refine ⟨h0,h1,h2,h3,h1.size,Nat.le_refl _,css++dss,[],by rw [List.append_nil];exact a1,zW (a2.imp λ _ _ ⟨fv,g1,g2⟩=>⟨fv,g1,g2.toHi h5⟩) (a3.imp λ _ _ ⟨fv,g1,g2⟩=>⟨fv,g1,g2.toLo h4⟩),rfl,λ k x cs hx=>by simp at hx⟩
theorem PS.named (h:PS b16 lcs w0 w p2 B st rv) (n:BAr):PS b16 lcs w0 (w.setCell ⟨p2,0,none⟩ (.string n)) p2 B { st with name:=n } rv:=by
 obtain ⟨h0,h1,h2,h3,h4,h5,css,dss,a1,a2,a3⟩:=h
 have n16:b16≠p2:=by
  rintro rfl
  rw [h0] at h3
  cases h3
 have hc:Chg p2 w (w.setCell ⟨p2,0,none⟩ (.string n)):=⟨by rw [World.size_setCell];exact Nat.le_refl _,λ b _ hb=>YH.setCell _ p2 _ _ b hb⟩
 have hz:(w.setCell ⟨p2,0,none⟩ (.string n)).heap.size=w.heap.size:=World.size_setCell ..
 refine ⟨(hc.block b16 (Array.getElem?_eq_some_iff.1 h0).1 n16).trans h0,h1.setCell (p:=⟨p2,0,none⟩) h2 _,h2,Zw (o:=0) h3 _,h4,by rw [hz];exact h5,css,dss,JM a1 hc (Ux a1 h3 (by decide)),a2.imp λ _ _ ⟨fv,g1,g2⟩=>⟨fv,g1,g2.chgT hc h3 (by decide) (by decide) (by decide)⟩,?_⟩
 rw [hz]
 exact a3.imp λ _ _ ⟨fv,g1,g2⟩=>⟨fv,g1,g2.chgT hc h3 (by decide) (by decide) (by decide)⟩
end
end Go.Proofs.YtgalpdihjbinjaaGreatDoor
