/-
  Lemmas for the claim.
-/
import Derived.Test.YtgalpdihjbinjaaGreatDoorXc4
set_option linter.all false
set_option maxHeartbeats 40000000
set_option maxRecDepth 100000
open Go.Instr (loadAt storeAt fieldAt indexAt buildSlice mapUpdate makeFunc alloc build box extract fill sliceAt lookup makeInterface)
open Go.Proofs.Tryz
namespace Go.Proofs.YtgalpdihjbinjaaGreatDoor
open Sw
open Go.RowKit (intOf Below)
def I2 (w0:Wd) (v1 v2 v3:Vl) (m:Xn) (d e:QF) (hm:Xx w0 v1 m) (hd:Qg w0 v2 d) (he:Qg w0 v3 e) (hin:∀ r∈m.rules,∀ x∈r.fields,inF x=true):Ret Pg 16 #[v1,v2,v3] w0 λ r w'=>r = .bool (Gv m d e).isNone∧Ext w0 w':=by
 obtain ⟨rv,rfl,hR⟩:=hm
 obtain ⟨dv,rfl,hD⟩:=hd
 obtain ⟨ev,rfl,hE⟩:=he
 have t1:=Zd.oneCell hR
 have t2:=Zd.oneCell hD
 have t3:=Zd.oneCell hE
 refine ZkH (R:=ZE _) ?_;unfold n24
 refine Qqv ?_
 generalize hA0:(((w0.alloc (Obj.cells (Z2 m rv).toArray 24)).alloc (Obj.cells (XB d dv).toArray 27)).alloc (Obj.cells (XB e ev).toArray 27))=A0
 have ea:Ext w0 A0:=by rw [← hA0];exact ee
 clear hA0
 refine zcr (Qm A0 _ _ _ m d e ⟨_,rfl,hR.ext ea⟩ ⟨_,rfl,hD.ext ea⟩ ⟨_,rfl,hE.ext ea⟩ hin) λ w1 e1=>?_
 unfold Zca Ew
 refine Qqv ?_
 exact ⟨by cases Gv m d e<;>rfl,(ea.trans e1).alloc _⟩
def yL (r:FrD) (n:Int):Option Int:=if r.kind=1 then some n else if r.kind=2 then (if j8 r.add=true then some (n+r.add) else none) else if r.kind=3 then some r.value else if r.kind=5 then (r.table.find? λ x=>decide (x.low≤n)&&decide (n≤x.high)).map (·.to) else none
def NC:Option Int→Option Int
 | some v=>if WL v=true then some v else none
 | none=>none
def Cp (r:FrD) (n:Int):Option Int:=if WL n=false then none else NC (yL r n)
def LM (o:Option Int):Vl := .tuple #[.int .i64 (o.getD 0),.bool o.isSome]
def DZ (w:Wd) (x:Qd) (q:Nat) (n:Int) (hq:w.heap[q]?=some (.cells #[.int .i64 n] 3 (0,0))):Ret Pg 44 #[.agg (ZW x).toArray,Qq5 q] w λ r w'=>r = .bool (decide (x.low≤n)&&decide (n≤x.high))∧Ext w w':=by
 have lq:=(Qqj hq).1
 have hc:=(Za hq).1
 refine ZkC (R:=ZE _) ?_;unfold n18
 by_cases h1:x.low≤n
 · have d1:decide (n≥x.low)=true:=by simpa using h1
   by_cases h2:n≤x.high
   · have d2:decide (n≤x.high)=true:=by simpa using h2
     refine Qqm hc d1 d2 ?_
     exact ⟨by simp [h1],ee⟩
   · have d2:decide (n≤x.high)=false:=by simpa using h2
     refine Qqm hc d1 d2 ?_
     exact ⟨by simp,ee⟩
 · have d1:decide (n≥x.low)=false:=by simpa using h1
   refine Qqb hc d1 ?_
   exact ⟨by simp [h1],ee⟩
def Ot {n:Int} (h:WL n=true):0≤n∧n < 34359738368:=by
 unfold WL at h
 simpa only [Bool.and_eq_true,decide_eq_true_eq] using h
def Jh (w0:Wd) (v:Vl) (r:FrD) (n:Int) (hr:QI w0 v r) (hin:inF r=true):Ret Pg 18 #[v,.int .i64 n] w0 λ u w'=>u=LM (Cp r n)∧Ext w0 w':=by
 obtain ⟨bv,tv,rfl,hB,hT,b1,b2⟩:=hr.op
 refine ZkB (R:=ZE _) ?_;unfold n17
 rw [YO]
 have q2:=Zt w0 (Zo r bv tv).toArray 43
 have e2:Ext w0 (w0.alloc (.cells (Zo r bv tv).toArray 43)):=(Ext.refl w0).alloc _
 have s2:(w0.alloc (.cells (Zo r bv tv).toArray 43)).heap.size=w0.heap.size+1:=World.size_alloc ..
 generalize (w0.alloc (.cells (Zo r bv tv).toArray 43))=w2 at q2 e2 s2 ⊢
 generalize hp2:w0.heap.size=p2 at q2 ⊢
 refine Qqv ?_
 have q3:=Zt w2 #[.int .i64 n] 3
 have e3:Ext w2 (w2.alloc (.cells #[.int .i64 n] 3)):=(Ext.refl w2).alloc _
 generalize (w2.alloc (.cells #[.int .i64 n] 3))=w3 at q3 e3 ⊢
 have l3:w0.heap.size≤w2.heap.size:=e2.size
 have n23:p2≠w2.heap.size:=C1
 generalize w2.heap.size=p3 at q3 l3 n23 ⊢
 replace q2:=e3.obj q2
 have E3:=e2.trans e3
 refine Zi (QM w3 n) ?_
 rintro _ w' ⟨rfl,hw⟩
 rw [hw]
 clear hw
 have c2:=(Za q2).1
 have c3:=Za q3
 cases hn:WL n with
 | false=>
  refine Qqv ?_
  exact ⟨by unfold Cp;rw [hn];rfl,E3⟩
 | true=>
 have hM:Cp r n=NC (yL r n):=by unfold Cp;rw [hn];rfl
 have rng:=Ot hn
 have none_:yL r n=none→∀ w',Ext w0 w'→(Value.tuple #[.int .i64 0,.bool false]=LM (Cp r n)∧Ext w0 w'):=λ h w' e=>⟨by rw [hM,h];rfl,e⟩
 have tail:∀ (w1:Wd) (u:Int),Ext w0 w1→w1.heap[p3]?=some (.cells #[.int .i64 u] 3 (0,0))→yL r n=some u→ZU Pg 42 #[.int .i64 u] (Zc (ZE λ u w'=>u=LM (Cp r n)∧Ext w0 w')) w1 λ t47 w=>Rt (Qq5 p3) t47 (ZE λ u w'=>u=LM (Cp r n)∧Ext w0 w') w:=by
  intro w1 u e1 hq hu
  refine Zi (QM w1 u) ?_
  rintro _ w' ⟨rfl,hw⟩
  rw [hw]
  unfold Rt
  cases hv:WL u with
  | true=>
   refine Qqh (Za hq).1 ?_
   exact ⟨by rw [hM,hu];simp only [NC,hv];rfl,e1⟩
  | false=>
   refine Qqv ?_
   exact ⟨by rw [hM,hu];simp only [NC,hv];rfl,e1⟩
 have put:∀ (w1:Wd) (a:Vl),Ext w0 w1→w1.heap[p3]?=some (.cells #[.int .i64 n] 3 (0,0))→Ext w0 (w1.setCell ⟨p3,0,none⟩ a)∧(w1.setCell ⟨p3,0,none⟩ a).heap[p3]?=some (.cells #[a] 3 (0,0)):=λ w1 a e1 hq=>⟨e1.setCell l3 _,Zy (o:=0) hq a⟩
 unfold ZbY
 by_cases k1:r.kind=1
 · have hv:yL r n=some n:=by unfold yL;rw [if_pos k1]
   refine Qqm c2 c3.1 k1 ?_
   exact tail w3 n E3 q3 hv
 by_cases k2:r.kind=2
 · simp (disch:=try exact DI) only [↓PR,QR,simprocAttr,c2,c3.1,k2,ZbX]
   refine Zi (QM w3 _) ?_
   rintro _ w' ⟨rfl,hw⟩
   rw [hw,Ph hin]
   clear hw
   cases ha:j8 r.add with
   | false=>
    refine Qqv ?_
    exact none_ (by unfold yL;rw [if_neg k1,if_pos k2,ha];rfl) _ E3
   | true=>
    have hv:yL r n=some (n+r.add):=by unfold yL;rw [if_neg k1,if_pos k2,ha];rfl
    have hb : -34359738368 < r.add∧r.add < 34359738368:=by unfold j8 at ha;simpa only [Bool.and_eq_true,decide_eq_true_eq] using ha
    have hw:IntKind.i64.wrap (n+r.add)=n+r.add:=Z0 C1 C1
    obtain ⟨g1,g2⟩:=put w3 (.int .i64 (n+r.add)) E3 q3
    simp (disch:=try exact DI) only [↓PR,QR,simprocAttr,ZbT,c2,c3.1,c3.2,hw]
    exact tail _ _ g1 g2 hv
 have e1:(r.kind == 1)=false:=by simpa using k1
 have e2':(r.kind == 2)=false:=by simpa using k2
 by_cases k3:r.kind=3
 · have hv:yL r n=some r.value:=by unfold yL;rw [if_neg k1,if_neg k2,if_pos k3]
   obtain ⟨g1,g2⟩:=put w3 (.int .i64 r.value) E3 q3
   simp (disch:=try exact DI) only [↓PR,QR,simprocAttr,c2,c3.1,c3.2,k3,M5,ZbW]
   exact tail _ _ g1 g2 hv
 have e3':(r.kind == 3)=false:=by simpa using k3
 by_cases k5:r.kind=5
 · have hv:yL r n=(r.table.find? λ x=>decide (x.low≤n)&&decide (n≤x.high)).map (·.to):=by unfold yL;rw [if_neg k1,if_neg k2,if_neg k3,if_pos k5]
   simp (disch:=try exact DI) only [↓PR,QR,simprocAttr,c2,c3.1,k5,M5,ZbV]
   refine zcr (zM w3 _ r.table _ _ (λ x=>decide (x.low≤n)&&decide (n≤x.high)) (hT.ext E3) c44 λ w' v y _ e' hv=>by subst hv;exact DZ w' y _ n (e'.obj q3)) λ w4 e4=>?_
   have E4:=E3.trans e4
   rcases Mx (λ x:Qd=>decide (x.low≤n)&&decide (n≤x.high)) r.table with ⟨h1,_,_,_,h5⟩ | ⟨i,x,hxi,h1,_,_,_,h5⟩
   · rw [h5]
     refine Qqv ?_
     exact none_ (by rw [hv,h1];rfl) _ E4
   · rw [h5]
     have d0:decide ((i:Int) < 0)=false:=by simp
     obtain ⟨bt,ot,ct,rfl,_,_,_,hil,helr⟩:=HW hT hxi
     obtain ⟨cs,_,hA,rfl⟩:=helr i x hxi
     obtain ⟨g1,g2⟩:=put w4 (.int .i64 x.to) E4 (e4.obj q3)
     simp (disch:=try exact DI) only [↓PR,QR,simprocAttr,d0,ZbU,(Za (e4.obj q2)).1,(Za (e4.obj q3)).1,(Za (e4.obj q3)).2,hA.c3 E4]
     exact tail _ _ g1 g2 (by rw [hv,h1];rfl)
 · have e5:(r.kind == 5)=false:=by simpa using k5
   simp (disch:=try exact DI) only [↓PR,QR,simprocAttr,c2,c3.1,e1,e2',e3',e5,M5]
   exact none_ (by unfold yL;rw [if_neg k1,if_neg k2,if_neg k3,if_neg k5]) _ E3
def Zh2 b a R w:=
 G0 9 3 a R w λ c w=>
 C0 85 #[b,a,c,(.int .i64 (-1))] R w λ d w=>
 R (.returned d) w
def Zh3:QqX2 48 Zh2:=λ h=>by
 refine yD func48 ?_
 refine zs<|zr<|zm<|zn<|zk<|zs<|zr<|zm<|zm<|zm<|yx h λ h=>yc h c85 λ h=>zm<|zn<|zk ?_
 exact Zg<|Zj rfl rfl h
def ZhY a b (R:RT) w:=
 C0 160 #[a,b] R w λ c w=>
 R (.returned c) w
def ZhZ:QqX2 133 ZhY:=λ h=>by
 refine yD func133 ?_
 exact zs<|zr<|zm<|zn<|zk<|zs<|zr<|zm<|zm<|yc h ZjE λ h=>zm<|zn<|zk<|Zg<|Zj rfl rfl h
def Ld d e f a R w:=
 E0q a 0 R w λ b w=>
 E0q a 1 R w λ c w=>
 opV Pg (ZA .neq 162 true c .nilIface) (Zc R) w λ g w=>
 Zr g (
 ZU Pg 153 #[(.string { data := #[80,97,114,115,101,85,105,110,116] }),d,e,f,c] (Zc R) w λ h w=>
 R (.returned (.tuple #[b,h])) w) (
 R (.returned (.tuple #[b,.nilIface])) w)
def Zh0 a b c (R:RT) w:=
 C0 155 #[a,b,c] R w λ d w=>
 Ld a b c d R w
def Zh1:QqX3 127 Zh0:=λ h=>by
 refine yD func127 ?_
 refine zs<|zr<|zm<|zm<|zn<|zk<|zs<|zr<|zm<|zm<|zm<|yc h ZjD λ h=>zm<|yv h λ h=>yv h λ h=>?_
 refine zm<|zm<|zn<|zk<|zs<|zs<|zr<|zm<|yb h λ h=>zn<|zk<|yC h (λ h=>zs<|zr<|zm<|zm<|zm<|zm<|zm<|yc h ZjB λ h=>zm<|zm<|zn<|zk<|Zg<|Zb<|Yg rfl rfl rfl h) λ h=>Zk<|zk ?_
 exact zs<|zr<|zm<|zm<|zm<|zn<|zk<|Zg<|Yg rfl rfl rfl h
def Zh8 g h i c j (k:KW) R w:=
 opV Pg (Go.convert 3 191 j) (Zc R) w λ l w=>
 B0 .mul 191 false h l R w λ d w=>
 opV Pg (Go.convert 5 191 i) (Zc R) w λ m w=>
 B0 .add 191 false d m R w λ a w=>
 B0 .lss 191 false a d R w λ e w=>
 Zp (λ (b:Vl) (w:Wd)=>
 Zx e (.bool true) b λ n=>
 Zr n (
 opV Pg (makeInterface 239 (QqQ 1)) (Zc R) w λ o w=>
 R (.returned (.tuple #[c,o])) w) (
 k g a w)) λ f=>
 Zm e false (
 B0 .gtr 191 false a c R w λ b w=>
 f b w) (
 f undef w)
def Zic c d a e b f (g:KW) R w:=
 B0 .geq 191 false a c R w λ h w=>
 Zr h (
 opV Pg (makeInterface 239 (QqQ 1)) (Zc R) w λ i w=>
 R (.returned (.tuple #[b,i])) w) (
 Zh8 d a e b f g R w)
def LI c d e a f b (g:KW) R w:=
 opV Pg (Go.convert 3 5 b) (Zc R) w λ h w=>
 B0 .geq 5 false a h R w λ i w=>
 Zr i (
 opV Pg (makeInterface 239 (QqQ 2)) (Zc R) w λ j w=>
 R (.returned (.tuple #[(.int .u64 0),j])) w) (
 Zic c d e a f b g R w)
def Zij a (b:KV) (R:RT) w:=
 C0 188 #[a] R w λ c w=>
 opV Pg (ZA .sub 5 true c (.int .u8 97)) (Zc R) w λ d w=>
 opV Pg (ZA .add 5 true d (.int .u8 10)) (Zc R) w λ e w=>
 b e w
def Za4 a b c (d:KV) R w:=
 Zx b c (.bool false) λ e=>
 Zr e (
 Zij a d R w) (
 opV Pg (makeInterface 239 (QqQ 2)) (Zc R) w λ f w=>
 R (.returned (.tuple #[(.int .u64 0),f])) w)
def ZeP b e (f:KV) R w:=
 opV Pg (ZA .leq 5 true (.int .u8 97) e) (Zc R) w λ c w=>
 Zp (λ (a:Vl) (w:Wd)=>
 Za4 b c a f R w) λ d=>
 Zm c true (
 C0 188 #[b] R w λ g w=>
 opV Pg (ZA .leq 5 true g (.int .u8 122)) (Zc R) w λ a w=>
 d a w) (
 d undef w)
def Za5 c d e f a g h i (j:KW) R w:=
 Zx g h (.bool false) λ k=>
 Zp (λ (l:Vl) (w:Wd)=>
 LI c d e l f i j R w) λ b=>
 Zr k (
 opV Pg (ZA .sub 5 true a (.int .u8 48)) (Zc R) w λ m w=>
 b m w) (
 C0 188 #[a] R w λ n w=>
 ZeP a n b R w)
def ZeQ e f g h a i (j:KW) R w:=
 opV Pg (ZA .leq 5 true (.int .u8 48) a) (Zc R) w λ c w=>
 Zp (λ (b:Vl) (w:Wd)=>
 Za5 e f g h a c b i j R w) λ d=>
 Zm c true (
 opV Pg (ZA .leq 5 true a (.int .u8 57)) (Zc R) w λ b w=>
 d b w) (
 d undef w)
def Zik a b c R w:=
 Zx a c (.bool false) λ d=>
 Zr d (
 opV Pg (makeInterface 239 (QqQ 2)) (Zc R) w λ e w=>
 R (.returned (.tuple #[(.int .u64 0),e])) w) (
 R (.returned (.tuple #[b,.nilIface])) w)
def ZdX d b e R w:=
 Zp (λ (a:Vl) (w:Wd)=>
 Zik b e a R w) λ c=>
 Zm b true (
 C0 189 #[d] R w λ f w=>
 N0 f R w λ a w=>
 c a w) (
 c undef w)
def ZdY h b a i j k c l (U2:Vl→Vl→Vl→Wd→Prop) R w:=
 Zp (λ (b:Vl) (a:Vl) (w:Wd)=>
 B0 .add 3 true c (QqQ 1) R w λ m w=>
 U2 b a m w) λ d=>
 X0 40 k c R w λ n w=>
 L0 5 n R w λ e w=>
 opV Pg (ZA .eql 5 true e (.int .u8 95)) (Zc R) w λ f w=>
 Zp (λ (o:Vl) (w:Wd)=>
 Zx f o (.bool false) λ p=>
 Zr p (
 d (.bool true) a w) (
 ZeQ h b a j e l d R w)) λ g=>
 Zm f true (
 g i w) (
 g undef w)
def Tb d e a b f g h i c j (U2:Vl→Vl→Vl→Wd→Prop) R w:=
 B0 .lss 3 false c i R w λ k w=>
 Zr k (
 ZdY e a b f g h c j U2 R w) (
 ZdX d a b R w)
def ZdZ b c d e f g R w:=
 opV Pg (Go.convert 3 197 g) (Zc R) w λ h w=>
 opV Pg (ZA .shl 191 true (.int .u64 1) h) (Zc R) w λ i w=>
 opV Pg (ZA .sub 191 true i (.int .u64 1)) (Zc R) w λ j w=>
 opV Pg (Go.convert 9 40 e) (Zc R) w λ a w=>
 G0 40 3 a R w λ k w=>
 GC (λ l m n w U2=>
 Tb b c l m d j a k n f U2 R w) (.bool false) (.int .u64 0) (QqQ 0) w
def Zh9 a (b:KV) R w:=
 opV Pg (Go.convert 3 191 a) (Zc R) w λ c w=>
 opV Pg (ZA .quo 191 true (.int .u64 18446744073709551615) c) (Zc R) w λ d w=>
 opV Pg (ZA .add 191 true d (.int .u64 1)) (Zc R) w λ e w=>
 b e w
def Zd0 c d e a f R w:=
 B0 .eql 3 true a (QqQ 10) R w λ g w=>
 Zp (λ (h:Vl) (w:Wd)=>
 ZdZ c h d e a f R w) λ b=>
 Zr g (
 b (.int .u64 1844674407370955162) w) (
 B0 .eql 3 true a (QqQ 16) R w λ i w=>
 Zr i (
 b (.int .u64 1152921504606846976) w) (
 Zh9 a b R w))
def Zd1 a (e:KV) R w:=
 B0 .lss 3 true a (QqQ 0) R w λ c w=>
 Zp (λ (b:Vl) (w:Wd)=>
 Zx c (.bool true) b λ f=>
 Zr f (
 opV Pg (makeInterface 239 (QqQ 4)) (Zc R) w λ g w=>
 R (.returned (.tuple #[(.int .u64 0),g])) w) (
 e a w)) λ d=>
 Zm c false (
 B0 .gtr 3 true a (QqQ 64) R w λ b w=>
 d b w) (
 d undef w)
def Zd2 c a d e f R w:=
 B0 .eql 3 true a (QqQ 0) R w λ g w=>
 Zp (λ (h:Vl) (w:Wd)=>
 Zd0 c d e f h R w) λ b=>
 Zr g (
 b (QqQ 64) w) (
 Zd1 a b R w)
def Zia a c d (b:KW) R w:=
 Zx c d (.bool false) λ e=>
 Zr e (
 opV Pg (sliceAt 9 a (some (QqQ 2)) none none) (Zc R) w λ f w=>
 b f (QqQ 16) w) (
 opV Pg (sliceAt 9 a (some (QqQ 1)) none none) (Zc R) w λ g w=>
 b g (QqQ 8) w)
def Zib a (e:KW) R w:=
 G0 9 3 a R w λ f w=>
 B0 .geq 3 true f (QqQ 3) R w λ c w=>
 Zp (λ (b:Vl) (w:Wd)=>
 Zia a c b e R w) λ d=>
 Zm c true (
 opV Pg (Instr.index 9 a (QqQ 1)) (Zc R) w λ g w=>
 C0 188 #[g] R w λ h w=>
 opV Pg (ZA .eql 5 true h (.int .u8 120)) (Zc R) w λ b w=>
 d b w) (
 d undef w)
def Zid a c d (b:KW) R w:=
 Zx c d (.bool false) λ e=>
 Zr e (
 opV Pg (sliceAt 9 a (some (QqQ 2)) none none) (Zc R) w λ f w=>
 b f (QqQ 8) w) (
 Zib a b R w)
def Zie a (e:KW) R w:=
 G0 9 3 a R w λ f w=>
 B0 .geq 3 true f (QqQ 3) R w λ c w=>
 Zp (λ (b:Vl) (w:Wd)=>
 Zid a c b e R w) λ d=>
 Zm c true (
 opV Pg (Instr.index 9 a (QqQ 1)) (Zc R) w λ g w=>
 C0 188 #[g] R w λ h w=>
 opV Pg (ZA .eql 5 true h (.int .u8 111)) (Zc R) w λ b w=>
 d b w) (
 d undef w)
def Zif a c d (e:KW) R w:=
 Zx c d (.bool false) λ f=>
 Zp (λ (g:Vl) (h:Vl) (w:Wd)=>
 e g h w) λ b=>
 Zr f (
 opV Pg (sliceAt 9 a (some (QqQ 2)) none none) (Zc R) w λ i w=>
 b i (QqQ 2) w) (
 Zie a b R w)
def Zig a (e:KW) R w:=
 G0 9 3 a R w λ f w=>
 B0 .geq 3 true f (QqQ 3) R w λ c w=>
 Zp (λ (b:Vl) (w:Wd)=>
 Zif a c b e R w) λ d=>
 Zm c true (
 opV Pg (Instr.index 9 a (QqQ 1)) (Zc R) w λ g w=>
 C0 188 #[g] R w λ h w=>
 opV Pg (ZA .eql 5 true h (.int .u8 98)) (Zc R) w λ b w=>
 d b w) (
 d undef w)
def Zih a (b:KW) R w:=
 opV Pg (Instr.index 9 a (QqQ 0)) (Zc R) w λ c w=>
 opV Pg (ZA .eql 5 true c (.int .u8 48)) (Zc R) w λ d w=>
 Zr d (
 Zig a b R w) (
 b a (QqQ 10) w)
def Zii a b (c:KW) R w:=
 B0 .eql 3 true b (QqQ 0) R w λ d w=>
 Zr d (
 Zih a c R w) (
 opV Pg (makeInterface 239 (QqQ 3)) (Zc R) w λ e w=>
 R (.returned (.tuple #[(.int .u64 0),e])) w)
def Zd3 a b d e f g R w:=
 Zx f g (.bool false) λ h=>
 Zp (λ (i:Vl) (j:Vl) (w:Wd)=>
 Zd2 a d e i j R w) λ c=>
 Zr h (
 c a b w) (
 Zii a b c R w)
def Zd4 e a f R w:=
 B0 .eql 3 true a (QqQ 0) R w λ g w=>
 B0 .leq 3 true (QqQ 2) a R w λ c w=>
 Zp (λ (b:Vl) (w:Wd)=>
 Zd3 e a f g c b R w) λ d=>
 Zm c true (
 B0 .leq 3 true a (QqQ 36) R w λ b w=>
 d b w) (
 d undef w)
def n8 a b c R w:=
 opV Pg (ZA .eql 9 true a (.string { data := #[] })) (Zc R) w λ d w=>
 Zr d (
 opV Pg (makeInterface 239 (QqQ 2)) (Zc R) w λ e w=>
 R (.returned (.tuple #[(.int .u64 0),e])) w) (
 Zd4 a b c R w)
def n8s:QqX3 155 n8:=λ h=>by
 refine yD func155 ?_
 refine zs<|zr<|zm<|zm<|zn<|zk<|zs<|zs<|zr<|zm<|yb h λ h=>zn<|zk<|yC h (λ h=>zs<|zr<|yv h λ h=>zm<|zm<|zn<|zk<|Zg<|Zb<|Yg rfl rfl rfl h) λ h=>?_
 refine Zk<|zk<|zs<|zr<|zm<|yb h λ h=>zm<|zn<|zk<|zs<|zr<|zm<|zm<|zn<|zk ?_
 refine zs<|Zl<|zs<|Zq<|yG 3<|zm<|yb h λ h=>zm<|zn<|yg1 2 2 true [29,30] 30 h (λ _ T hT h=>?_) λ σ w h=>?_
 · refine zm<|yb h λ h=>zn ?_
   exact zt hT h
 refine yG 2<|yp h λ h=>zm<|zn<|ZG<|zk<|yJ2 [0,1,6,7,24,32,33,34,35,36,37,38,39,40,41,42,43,44,45,46,47,48,49,50,51,52,53,54,55,56,57,58,59,60,61,62,63,64,65,66,67,68,69,70,71,72,73,74,75] 0 1 h (λ _ _ hkK2 h=>?_) λ σ w h=>?_
 · refine yC h (λ h=>?_) λ h=>?_
   · refine Zk<|zk ?_
     exact zt hkK2 h
   refine zs<|zr<|zm<|yb h λ h=>zm<|zn<|zk<|yC h (λ h=>?_) λ h=>?_
   · refine zs<|zr<|zm<|zn<|zk<|zs<|zr<|zm<|yv h λ h=>yb h λ h=>zn<|zk<|yC h (λ h=>?_) λ h=>?_
     · refine Zl<|zs<|Zq<|yG 4<|zm<|yx h λ h=>yb h λ h=>zm<|zn<|yg1 4 3 true [45,46,47,48] 48 h (λ _ T hT h=>?_) λ σ w h=>?_
       · refine zm<|yv h λ h=>yc h NP λ h=>yb h λ h=>zn ?_
         exact zt hT h
       refine yG 2<|yp h λ h=>zm<|zn<|ZG<|zk<|yJ2 [0,1,38,39,50,51,52,53,54,55,56,57,58,59,60,61,62,63,64,65,66,67,68,69,70,71,72,73,74,75] 0 1 h (λ _ _ hkK15 h=>?_) λ σ w h=>?_
       · refine yC h (λ h=>?_) λ h=>?_
         · refine zs<|zr<|zm<|zn<|zk<|zr<|zm<|yv h λ h=>zm<|zn<|zk ?_
           exact zt hkK15 h
         refine zs<|Zq<|yG 4<|zm<|yx h λ h=>yb h λ h=>zm<|zn<|yg1 4 3 true [57,58,59,60] 60 h (λ _ T hT h=>?_) λ σ w h=>?_
         · refine zm<|yv h λ h=>yc h NP λ h=>yb h λ h=>zn ?_
           exact zt hT h
         refine yG 2<|yp h λ h=>zm<|zn<|ZG<|zk<|yC h (λ h=>?_) λ h=>?_
         · refine zs<|zr<|zm<|zn<|zk<|zr<|zm<|yv h λ h=>zm<|zn<|zk ?_
           exact zt hkK15 h
         refine zs<|Zq<|yG 4<|zm<|yx h λ h=>yb h λ h=>zm<|zn<|yg1 4 3 true [69,70,71,72] 72 h (λ _ T hT h=>?_) λ σ w h=>?_
         · refine zm<|yv h λ h=>yc h NP λ h=>yb h λ h=>zn ?_
           exact zt hT h
         refine yG 2<|yp h λ h=>zm<|zn<|ZG<|zk<|yC h (λ h=>?_) λ h=>?_
         · refine zs<|zr<|zm<|zn<|zk<|zr<|zm<|yv h λ h=>zm<|zn<|zk ?_
           exact zt hkK15 h
         refine zs<|zr<|zm<|zn<|zk<|zr<|zm<|yv h λ h=>zm<|zn<|zk ?_
         exact zt hkK15 h
       refine Zf<|zk ?_
       exact zt hkK2 h
     refine Zk<|zk ?_
     exact zt hkK2 h
   exact zs<|zr<|yv h λ h=>zm<|zm<|zn<|zk<|Zg<|Zb<|Zh<|Zb<|Yg rfl rfl rfl h
 refine Zf<|zk<|zs<|zs<|zr<|zm<|yb h λ h=>zn<|zk<|yJ1 [2,6,7,78,79,80,81,82,83,84] 2 h (λ _ _ hkK3 h=>?_) λ σ w h=>?_
 · refine yC h (λ h=>?_) λ h=>?_
   · refine zr<|zm<|zn<|zk ?_
     exact zt hkK3 h
   refine zs<|Zq<|yG 3<|zm<|yb h λ h=>zm<|zn<|yg1 2 2 false [81,82] 82 h (λ _ T hT h=>?_) λ σ w h=>?_
   · refine zm<|yb h λ h=>zn ?_
     exact zt hT h
   refine yG 1<|yp h λ h=>zn<|ZG<|zk<|yC h (λ h=>zs<|zr<|yv h λ h=>zm<|zm<|zn<|zk<|Zg<|Zb<|Zb<|Yg rfl rfl rfl h) λ h=>Zk<|zk ?_
   exact zt hkK3 h
 refine zk<|zs<|zr<|zm<|zn<|zk<|zs<|zs<|zr<|zm<|zn<|zk<|Zl<|zs<|zr ?_
 refine yb h λ h=>zm<|zn<|zk<|yJ1 [10,86,87,88,89,92,93] 10 h (λ _ _ hkK4 h=>?_) λ σ w h=>?_
 · refine yC h (λ h=>?_) λ h=>?_
   · refine zr<|zm<|zn<|zk ?_
     exact zt hkK4 h
   refine zs<|zr<|yb h λ h=>zm<|zn<|zk<|yC h (λ h=>?_) λ h=>?_
   · refine zr<|zm<|zn<|zk ?_
     exact zt hkK4 h
   refine zr<|zm<|yv h λ h=>yb h λ h=>yb h λ h=>zm<|zn<|zk ?_
   exact zt hkK4 h
 refine Zf<|zk<|zs<|zr<|zm<|yv h λ h=>yb h λ h=>yb h λ h=>zm<|zn<|zk<|zs<|zr<|zm<|zn ?_
 refine zk<|zs<|zr<|zm<|zn<|zk<|zs<|zs<|zr<|zm<|yv h λ h=>yx h λ h=>zm<|zn<|zk ?_
 refine Zl<|yl3 [6,7,12,13,15,16,17,101,102,103,104,105,106,107,108,109,110,111,112,113,114,115,116,117,118,119,120,121,122,123,124,125,126,127,128,129,130,131,132,133,134,135,136,137,138,139,140,141,142,143,144,145,146,147,148,149,150,151,152,153,154,155,156,157,158,159,160,161,162,163] 12 13 101 h λ σ w next h=>zs<|zr<|yb h λ h=>zn<|zk<|zs<|yC h (λ h=>?_) λ h=>?_
 · refine Zk<|zk<|zs<|yJ2 [6,7,12,13,15,16,17,103,104,105,106,107,108,109,110,111,112,113,114,115,116,117,118,119,120,121,122,123,124,125,126,127,128,129,130,131,132,133,134,135,136,137,138,139,140,141,142,143,144,145,146,147,148,149,150,151,152,153,154,155,156,157,158,159,160,161,162] 12 13 h (λ _ _ hkK6 h=>?_) λ σ w h=>?_
   · refine Zl<|zs<|zr<|yv h λ h=>yv h λ h=>zm<|zn<|zk<|zs<|zr<|zm<|zn<|zk<|zs<|Zl ?_
     refine zs<|Zq<|yG 3<|zm<|yb h λ h=>zm<|zn<|yg1 1 2 true [110] 110 h (λ _ T hT h=>?_) λ σ w h=>?_
     · refine zm<|zn ?_
       exact zt hT h
     refine yG 2<|yp h λ h=>zm<|zn<|ZG<|zk<|yC h (λ h=>?_) λ h=>?_
     · refine zs<|zr<|zm<|zn<|zk<|ZN<|QY rfl<|Ze<|Zs<|zk ?_
       exact zt hkK6 h
     refine zs<|Zq<|yG 3<|zm<|yb h λ h=>zm<|zn<|yg1 2 2 true [116,117] 117 h (λ _ T hT h=>?_) λ σ w h=>?_
     · refine zm<|yb h λ h=>zn ?_
       exact zt hT h
     refine yG 2<|yp h λ h=>zm<|zn<|ZG<|zk<|yJ1 [6,7,16,105,119,120,121,122,123,124,125,126,127,128,129,130,131,132,133] 16 h (λ _ _ hkK9 h=>?_) λ σ w h=>?_
     · refine yC h (λ h=>?_) λ h=>?_
       · refine zr<|zm<|yb h λ h=>zm<|zn<|zk ?_
         exact zt hkK9 h
       refine zs<|Zq<|yG 4<|zm<|yc h NP λ h=>yb h λ h=>zm<|zn<|yg1 3 3 true [126,127,128] 128 h (λ _ T hT h=>?_) λ σ w h=>?_
       · refine zm<|yc h NP λ h=>yb h λ h=>zn ?_
         exact zt hT h
       refine yG 2<|yp h λ h=>zm<|zn<|ZG<|zk<|yC h (λ h=>?_) λ h=>?_
       · refine zr<|zm<|yc h NP λ h=>yb h λ h=>yb h λ h=>zm<|zn<|zk ?_
         exact zt hkK9 h
       refine zs<|zr<|yv h λ h=>zm<|zm<|zn<|zk<|Zg<|Zb<|Zh<|Zb<|Zh<|Zb<|Zb<|Zb ?_
       exact Zh<|Zb<|Yg rfl rfl rfl h
     refine Zf<|zk<|zs<|zs<|zr<|zm<|zm<|yv h λ h=>yb h λ h=>zn<|zk<|yC h (λ h=>?_) λ h=>?_
     · refine zs<|zr<|yv h λ h=>zm<|zm<|zn<|zk<|Zg<|Zb<|Zh<|Zb<|Zb<|Zb<|Zh<|Zb ?_
       exact Yg rfl rfl rfl h
     refine Zk<|zk<|zs<|zs<|zr<|zm<|zm<|yb h λ h=>zn<|zk<|yC h (λ h=>?_) λ h=>?_
     · refine zs<|zr<|zm<|yv h λ h=>zm<|zm<|zn<|zk<|Zg<|Zb<|Zh<|Zb<|Zb<|Zb<|Zh ?_
       exact Zb<|Yg rfl rfl rfl h
     refine Zk<|zk<|zs<|zr<|zm<|zm<|yv h λ h=>yb h λ h=>zm<|zn<|zk<|zs<|zr<|zm<|zm ?_
     refine yv h λ h=>yb h λ h=>zm<|zn<|zk<|zs<|zs<|Zq<|yG 4<|zm<|zm<|yb h λ h=>zm<|zn<|yg1 3 3 false [156,157,158] 158 h (λ _ T hT h=>?_) λ σ w h=>?_
     · refine zm<|zm<|yb h λ h=>zn ?_
       exact zt hT h
     refine yG 1<|yp h λ h=>zn<|ZG<|zk<|yC h (λ h=>?_) λ h=>?_
     · refine zs<|zr<|zm<|yv h λ h=>zm<|zm<|zn<|zk<|Zg<|Zb<|Zh<|Zb<|Zb<|Zb<|Zh ?_
       exact Zb<|Yg rfl rfl rfl h
     refine Zk<|zk<|zr<|zm<|zm<|zn<|Zf<|zk ?_
     exact zt hkK6 h
   exact zk<|zr<|yb h λ h=>zm<|zn<|zk<|⟨rfl,h⟩
 refine ZN<|Ze<|Ze<|Zs<|zk<|zs<|zs<|Zq<|yG 2<|zm<|zm<|zn<|yg1 3 1 true [166,167,168] 168 h (λ _ T hT h=>?_) λ σ w h=>?_
 · refine zm<|yc h ZjK λ h=>yv h λ h=>zn ?_
   exact zt hT h
 refine yG 1<|yp h λ h=>zn<|ZG<|zk<|yC h (λ h=>zs<|zr<|yv h λ h=>zm<|zm<|zn<|zk<|Zg<|Zb<|Yg rfl rfl rfl h) λ h=>Zk<|zk<|zs<|zr<|zm<|zm<|zm<|zn ?_
 exact zk<|Zg<|Yg rfl rfl rfl h
def Zlz c a b R w:=
 opV Pg (sliceAt 246 a none (some b) none) (Zc R) w λ d w=>
 C0 193 #[d,c] R w λ g w=>
 opV Pg (sliceAt 246 a none (some b) none) (Zc R) w λ e w=>
 opV Pg (Go.convert 40 9 e) (Zc R) w λ f w=>
 R (.returned f) w
def ZlA a R w:=
 opV Pg (ZA .lss 191 true a (.int .u64 100)) (Zc R) w λ b w=>
 Zr b (
 opV Pg (Go.convert 191 3 a) (Zc R) w λ c w=>
 C0 191 #[c] R w λ d w=>
 R (.returned d) w) (
 opV Pg (alloc 246 true (.tuple #[])) (Zc R) w λ e w=>
 C0 192 #[a] R w λ f w=>
 Zlz a e f R w)
def Zh6 b c (R:RT) w:=
 C0 194 #[(Value.slice none 0 0),b,c,(.bool false),(.bool false)] R w λ a w=>
 E0q a 0 R w λ e w=>
 E0q a 1 R w λ d w=>
 R (.returned d) w
def n7 a b R w:=
 B0 .eql 3 true b (QqQ 10) R w λ c w=>
 Zr c (
 ZlA a R w) (
 Zh6 a b R w)
def n7s:QqX2 160 n7:=λ h=>by
 refine yD func160 ?_
 refine zs<|zr<|zm<|zn<|zk<|zs<|zs<|zr<|zm<|yb h λ h=>zn<|zk<|yC h (λ h=>?_) λ h=>?_
 · refine zs<|zs<|zr<|zm<|yb h λ h=>zn<|zk<|yC h (λ h=>zs<|zr<|zm<|yv h λ h=>yc h ZjL λ h=>zm<|zn<|zk<|Zg<|Zb<|Zb<|Zj rfl rfl h) λ h=>Zk<|zk<|zs<|zr<|yv h λ h=>zn ?_
   refine zk<|zs<|zr<|zm<|yc h ZjM λ h=>zm<|zn<|zk<|zs<|zr<|zm<|yv h λ h=>zm<|yc h ZjN λ h=>zn ?_
   exact zk<|zs<|zr<|zm<|yv h λ h=>yv h λ h=>zm<|zn<|zk<|Zg<|Zb<|Zj rfl rfl h
 refine Zk<|zk<|zs<|zr<|zm<|zm<|yc h ZjO λ h=>zm<|yv h λ h=>yv h λ h=>zm<|zm<|zn<|zk<|zs ?_
 exact zr<|zm<|zm<|zn<|zk<|Zg<|Zj rfl rfl h
def ZlT a b c R w:=
 opV Pg (sliceAt 282 b (some c) none none) (Zc R) w λ d w=>
 opV Pg (Builtin.append_ #[40,40] 40 #[a,d]) (Zc R) w λ e w=>
 R (.returned (.tuple #[e,(.string { data := #[] })])) w
def Ziq a b R w:=
 opV Pg (sliceAt 282 a (some b) none none) (Zc R) w λ c w=>
 opV Pg (Go.convert 40 9 c) (Zc R) w λ d w=>
 R (.returned (.tuple #[(Value.slice none 0 0),d])) w
def ZlU b c (d:KV) R w:=
 B0 .sub 3 true c (QqQ 1) R w λ a w=>
 X0 282 b a R w λ e w=>
 opU Pg (storeAt 5 e (.int .u8 45)) (Zc R) w λ w=>
 d a w
def Zir d e f b a R w:=
 Zp (λ (a:Vl) (w:Wd)=>
 Zr f (
 ZlT d b a R w) (
 Ziq b a R w)) λ c=>
 Zr e (
 ZlU b a c R w) (
 c a w)
def Zis b c d (e:KV) R w:=
 B0 .sub 3 true d (QqQ 1) R w λ a w=>
 opV Pg (Instr.index 9 (.string { data := #[48,49,50,51,52,53,54,55,56,57,97,98,99,100,101,102,103,104,105,106,107,108,109,110,111,112,113,114,115,116,117,118,119,120,121,122] }) b) (Zc R) w λ f w=>
 X0 282 c a R w λ g w=>
 S0 5 g f R w λ w=>
 e a w
def ZlV a c d e f (V8:KW) R w:=
 B0 .sub 3 true d (QqQ 1) R w λ b w=>
 B0 .and 197 false a f R w λ g w=>
 opV Pg (Instr.index 9 (.string { data := #[48,49,50,51,52,53,54,55,56,57,97,98,99,100,101,102,103,104,105,106,107,108,109,110,111,112,113,114,115,116,117,118,119,120,121,122] }) g) (Zc R) w λ h w=>
 X0 282 c b R w λ i w=>
 S0 5 i h R w λ w=>
 B0 .shr 191 false a e R w λ j w=>
 V8 j b w
def Zit a b c d e f (g:KV) (V8:KW) R w:=
 B0 .geq 191 false a e R w λ h w=>
 Zr h (
 ZlV a b c d f V8 R w) (
 Zis a b c g R w)
def Ziu a b c d (e:KV) R w:=
 opV Pg (Go.convert 3 197 d) (Zc R) w λ f w=>
 opV Pg (Go.convert 3 191 b) (Zc R) w λ g w=>
 opV Pg (Go.convert 3 197 b) (Zc R) w λ h w=>
 opV Pg (ZA .sub 197 true h (.int .u64 1)) (Zc R) w λ i w=>
 Wy (λ a j w V8=>
 Zit a c j f g i e V8 R w) a (QqQ 65) w
def ZlW b c d (e:KV) R w:=
 B0 .sub 3 true d (QqQ 1) R w λ a w=>
 opV Pg (Instr.index 9 (.string { data := #[48,49,50,51,52,53,54,55,56,57,97,98,99,100,101,102,103,104,105,106,107,108,109,110,111,112,113,114,115,116,117,118,119,120,121,122] }) b) (Zc R) w λ f w=>
 X0 282 c a R w λ g w=>
 S0 5 g f R w λ w=>
 e a w
def Zim a e f b (Qu:KW) R w:=
 B0 .sub 3 true f (QqQ 1) R w λ c w=>
 B0 .quo 191 false a b R w λ d w=>
 B0 .mul 191 false d b R w λ g w=>
 B0 .sub 191 false a g R w λ h w=>
 opV Pg (Instr.index 9 (.string { data := #[48,49,50,51,52,53,54,55,56,57,97,98,99,100,101,102,103,104,105,106,107,108,109,110,111,112,113,114,115,116,117,118,119,120,121,122] }) h) (Zc R) w λ i w=>
 X0 282 e c R w λ j w=>
 S0 5 j i R w λ w=>
 Qu d c w
def Zin a b c d (e:KV) (Qu:KW) R w:=
 B0 .geq 191 false a d R w λ f w=>
 Zr f (
 Zim a b c d Qu R w) (
 ZlW a b c e R w)
def Zd8 f a b g h c i R w:=
 Zp (λ (d:Vl) (w:Wd)=>
 Zir f g h c d R w) λ e=>
 Zr i (
 opV Pg (Go.convert 3 197 b) (Zc R) w λ j w=>
 C0 211 #[j] R w λ k w=>
 Ziu a b c k e R w) (
 opV Pg (Go.convert 3 191 b) (Zc R) w λ l w=>
 Wy (λ a d w Qu=>
 Zin a c d l e Qu R w) a (QqQ 65) w)
def Zio R w:=
 opV Pg (makeInterface 9 (.string { data := #[115,116,114,99,111,110,118,58,32,105,108,108,101,103,97,108,32,65,112,112,101,110,100,73,110,116,47,70,111,114,109,97,116,73,110,116,32,98,97,115,101] })) (Zc R) w λ a w=>
 opV Pg (Instr.panic a) (Zc R) w λ _ w=>
 False
def Zd9 e a b c f R w:=
 opV Pg (alloc 282 true (.tuple #[])) (Zc R) w λ g w=>
 Zp (λ (a:Vl) (w:Wd)=>
 C0 210 #[b] R w λ h w=>
 Zd8 e a b c f g h R w) λ d=>
 Zr c (
 opV Pg (Op.unary .neg a) (Zc R) w λ i w=>
 d i w) (
 d a w)
def Zea e f b g h i j R w:=
 Zx i (.bool true) j λ c=>
 Zp (λ (a:Vl) (w:Wd)=>
 Zx c (.bool true) a λ k=>
 Zr k (
 Zio R w) (
 Zd9 e f b g h R w)) λ d=>
 Zm c false (
 B0 .gtr 3 true b (QqQ 36) R w λ a w=>
 d a w) (
 d undef w)
def n9 e f a g h R w:=
 B0 .lss 3 true a (QqQ 2) R w λ c w=>
 Zp (λ (b:Vl) (w:Wd)=>
 Zea e f a g h c b R w) λ d=>
 Zm c false (
 B0 .eql 3 true a (QqQ 10) R w λ b w=>
 d b w) (
 d undef w)
def n9s:QqX5 194 n9:=λ h=>by
 refine yD func194 ?_
 refine zs<|zr<|zm<|zm<|zn<|zk<|zs<|zs<|Zq<|yG 3<|zm<|yb h λ h=>zm<|zn<|yg1 2 2 false [22,23] 23 h (λ _ T hT h=>?_) λ σ w h=>?_
 · refine zm<|yb h λ h=>zn ?_
   exact zt hT h
 refine yG 2<|yp h λ h=>zm<|zn<|yg1 2 6 false [26,27] 27 h (λ _ T hT h=>?_) λ σ w h=>?_
 · refine zm<|yb h λ h=>zn ?_
   exact zt hT h
 refine yG 1<|yp h λ h=>zn<|ZG<|zk<|yC h (λ h=>zr<|yv h λ h=>yv h λ h=>zn<|h.elim) λ h=>Zk<|zk<|zs<|zr<|yv h λ h=>zn<|zk<|zs ?_
 refine zr<|zm<|zn<|zk<|zs<|zs<|zr<|zm<|zn<|zk<|yJ1 [1,31,32] 1 h (λ _ _ hkK3 h=>?_) λ σ w h=>?_
 · refine yC h (λ h=>?_) λ h=>?_
   · refine zr<|zm<|yv h λ h=>zm<|zn<|zk ?_
     exact zt hkK3 h
   refine Zk<|zk ?_
   exact zt hkK3 h
 refine zk<|zs<|zs<|zr<|zm<|yc h c210 λ h=>zn<|zk<|yJ1 [1,13,14,15,16,17,18,35,36,37,38,39,40,41,42,43,44,45,46,47,48,49,50,51,52,53,54,55,56,57,58,59,60,61,62,63,64,65,66,67,68,69,70,71,72,73,74,75,76,77,78,79,80,81,82,83,84,85,86,87,88] 13 h (λ _ _ hkK4 h=>?_) λ σ w h=>?_
 · refine yC h (λ h=>?_) λ h=>?_
   · refine zs<|zr<|zm<|yv h λ h=>yc h ZjR λ h=>yv h λ h=>zm<|zn<|zk<|zs<|zr<|zm<|yv h λ h=>zm<|zn ?_
     refine zk<|zs<|zr<|zm<|yv h λ h=>yb h λ h=>zm<|zn<|zk<|zs<|Zl<|yl2 [1,13,44,45,46,47,48,49,50,51,52,53,54,55,56,57] 1 13 h λ σ w next h=>zs<|zs<|zr ?_
     refine zm<|zm<|yb h λ h=>zn<|zk<|yC h (λ h=>?_) λ h=>?_
     · refine Zk<|zk<|Zl<|zs<|zr<|zm<|yb h λ h=>zm<|zn<|zk<|zs<|zr<|zm<|zm<|zm ?_
       exact yb h λ h=>yv h λ h=>yv h λ h=>yu h λ h=>zn<|zk<|zr<|zm<|zm<|yb h λ h=>zm<|zn<|Zf<|zk<|⟨rfl,h⟩
     refine ZN<|Ze<|Ze<|Zs<|zk<|zs<|zr<|zm<|yb h λ h=>zm<|zn<|zk<|zr<|zm<|zm ?_
     refine yv h λ h=>yv h λ h=>yu h λ h=>zn<|zk ?_
     exact zt hkK4 h
   refine zs<|zr<|zm<|yv h λ h=>zm<|zn<|zk<|zs<|Zl<|yl2 [1,13,18,66,67,68,69,70,71,72,73,74,75,76,77,78,79,80,81,82] 1 13 h λ σ w next h=>zs<|zs<|zr<|zm<|zm ?_
   refine yb h λ h=>zn<|zk<|yC h (λ h=>?_) λ h=>?_
   · refine Zk<|zk<|Zl<|zs<|zr<|zm<|yb h λ h=>zm<|zn<|zk<|zs<|zr<|zm<|zm<|yb h λ h=>?_
     refine zm<|zn<|zk<|zs<|zr<|zm<|zm<|zm<|zm<|yb h λ h=>yb h λ h=>yv h λ h=>yv h λ h=>yu h λ h=>zn ?_
     exact zk<|zr<|zm<|zm<|zn<|Zf<|zk<|⟨rfl,h⟩
   refine ZN<|Ze<|Ze<|Zs<|zk<|zs<|zr<|zm<|yb h λ h=>zm<|zn<|zk<|zr<|zm<|zm ?_
   refine yv h λ h=>yv h λ h=>yu h λ h=>zn<|zk ?_
   exact zt hkK4 h
 refine zk<|zs<|zs<|zr<|zm<|zn<|zk<|yJ1 [13,90,91,92,93] 13 h (λ _ _ hkK5 h=>?_) λ σ w h=>?_
 · refine yC h (λ h=>?_) λ h=>?_
   · refine zs<|zr<|zm<|yb h λ h=>zm<|zn<|zk<|zr<|zm<|yv h λ h=>yu h λ h=>zn<|zk ?_
     exact zt hkK5 h
   refine Zk<|zk ?_
   exact zt hkK5 h
 refine zk<|zs<|zs<|zr<|zm<|zn<|zk<|yC h (λ h=>zs<|zr<|zm<|zm<|yv h λ h=>yx h λ h=>zm<|zn<|zk<|Zg<|Zb<|Yg rfl rfl rfl h) λ h=>Zk<|zk<|zs<|zr<|zm<|yv h λ h=>?_
 exact yv h λ h=>zm<|zn<|zk<|Zg<|Yg rfl rfl rfl h
def n10 a R w:=
 B0 .sub 3 true a (QqQ 1) R w λ b w=>
 B0 .and 3 false a b R w λ c w=>
 B0 .eql 3 true c (QqQ 0) R w λ d w=>
 R (.returned d) w
def Zky:QqX1 210 n10:=λ h=>by
 refine yD func210 ?_
 refine zs<|zr<|zm<|zn<|zk<|zs<|zr<|zm<|zm<|yb h λ h=>yb h λ h=>yb h λ h=>zm<|zn<|zk ?_
 exact Zg<|Zj rfl rfl h
def n13 a R w:=
 opV Pg (ZA .or 5 true a (.int .u8 32)) (Zc R) w λ b w=>
 R (.returned b) w
def Zkz:QqX1 188 n13:=λ h=>by
 refine yD func188 ?_
 exact zs<|zr<|zm<|zn<|zk<|zs<|zr<|zm<|yb h λ h=>zm<|zn<|zk<|Zg<|Zj rfl rfl h
structure UN (w:Wd):Prop where
 env:UO w
 tz:w.cell? ⟨7,15,none⟩=some (.int .u8 4)
def UN.ext {w w':Wd} (h:UN w) (e:Ext w w'):UN w':=⟨h.env.ext e,e.cell h.tz⟩
section
variable {P:Program} {QP:PEn} {w:Wd} {k:KV}
def Fe (t:TypeId) (c:Bool) (kd:IntKind) (a b:Int):opV P (ZA .and t c (.int kd a) (.int kd b)) QP w k=k (.int kd (kd.wrap ((BitVec.ofInt kd.bits a &&& BitVec.ofInt kd.bits b).toNat:Nat))) w:=ZV (by rw [Y8 _ _ _ _ _ _ rfl];rfl)
def Nq (t:TypeId) (c:Bool) (kd:IntKind) (x y:Int) (h0:0≤y):opV P (ZA .shr t c (.int kd x) (.int .u64 y)) QP w k=k (.int kd (x / 2 ^ min y.toNat kd.bits)) w:=ZV (by
 have h0:¬ (y < 0):=C1
 simp [ZA,go_sem,Op.shift,h0]
 exact Int.fdiv_eq_ediv_of_nonneg _ (Int.le_of_lt (Int.pow_pos K7)))
def DG {t e:TypeId} {agg:Bool} {n m len:Nat} {z:Vl} (hu:P.underlying t=some (.array len e)) (ht:ZF P e agg n m z) (b o:Nat) (ik:IntKind) (i:Int) (h0:0≤i) (h1:i < len) :
 opV P (indexAt t (.pointer (some ⟨b,o,none⟩)) (.int ik i)) QP w k=k (.pointer (some ⟨b,o+i.toNat*n,none⟩)) w:=ZV (by
 simp [indexAt,asIntOf,Instr.sureAddr,run_underlying hu,Sw.run_sizeOf ht,h0,h1,Addr.add_lit])
def HR {t e:TypeId} {agg:Bool} {n m len:Nat} {z:Vl} (hu:P.underlying t=some (.array len e)) (ht:ZF P e agg n m z) (b o:Nat) (kd:IntKind) (l:Nat) (h1:l < len) :
 opV P (sliceAt t (.pointer (some ⟨b,o,none⟩)) (some (.int kd (l:Int))) none none) QP w k=k (.slice (some ⟨b,o+l*n,none⟩) (len - l) (len - l)) w:=by
 refine ZV ?_
 have h2:(l:Int)≤(len:Int):=C1
 have h3:(0:Int)≤(l:Int):=C1
 have h4:len≠l:=C1
 simp [sliceAt,run_underlying hu,Instr.sliceBounds,run_sliceBound,Instr.sureAddr,h2,h3,h4,Sw.run_sizeOf ht,Addr.add_lit]
end
def DL:∀ (l:List UInt8) (r:BAr),(l.map λ c=>(c.toNat:Int)).foldl (λ r n=>r.push (UInt8.ofNat n.toNat)) r=⟨r.data++l.toArray⟩
 | [],r=>by simp
 | c::l,r=>by
  rw [List.map_cons,List.foldl_cons,DL l]
  apply ByteArray.ext
  show (r.data.push (UInt8.ofNat ((c.toNat:Int)).toNat))++l.toArray=_
  rw [Int.toNat_natCast,UInt8.ofNat_toNat]
  simp
def Qf {w:Wd} {QP:PEn} {k:KV} {v:Vl} {l:List UInt8} (h:Ga w v l):opV Pg (Go.convert 40 9 v) QP w k=k (.string ⟨l.toArray⟩) w:=by
 refine ZV ?_
 obtain ⟨A,c,rfl,_,_,_,Xj⟩:=Zd.open h
 rw [run_convert_bytes_string w _ _ 5 _ _ _ underlying40 underlying5 underlying9]
 cases l with
 | nil=>
  cases A with
  | none=>rfl
  | some a=>
   have:=run_bytesToString (P:=Pg) w a 0 c [] rfl
   exact this
 | cons x l=>
  obtain ⟨b,o,cs,rfl,_,_,_⟩:=Xj 0 x rfl
  have hl:=run_loadCells_list (P:=Pg) (w:=w) ⟨b,o,none⟩ ((x::l).map λ c=>Value.int .u8 (c.toNat:Int)) λ j y hy=>by
   rw [List.getElem?_map] at hy
   obtain ⟨z,hz,rfl⟩:=Option.map_eq_some_iff.1 hy
   obtain ⟨b',o',cs',hA,_,hE,rfl⟩:=Xj j z hz
   injection hA with hA
   injection hA with h1 h2
   subst h1 h2
   have:=hE 0 (.int .u8 z.toNat) rfl
   rw [Addr.add_lit]
   simpa using this
  have:=run_bytesToString (P:=Pg) w ⟨b,o,none⟩ (x::l).length c ((x::l).map λ c=>(c.toNat:Int)) (by
   rw [List.map_map]
   rw [List.length_map] at hl
   exact hl)
  rw [this,DL]
  congr 2
  apply ByteArray.ext
  show (#[]:Array UInt8)++_=_
  simp
def ZnU:ZF Pg 282 true 65 (Pg.bytesOf 282) (.agg (Array.replicate 65 (.int .u8 0))):=YI K5 underlying282 rfl
def TA (w0:Wd):Ret Pg 210 #[.int .i64 16] w0 λ r w'=>r = .bool true∧w'=w0:=by
 refine Zky (R:=ZE _) ?_;unfold n10
 refine Qqh @Fe ?_
 exact ⟨congrArg Value.bool K7,by trivial⟩
def Zad (w0:Wd) (hE:UN w0):Ret Pg 245 #[.int .u64 16] w0 λ r w'=>r = .int .i64 4∧w'=w0:=by
 refine Zk5 (R:=ZE _) ?_;unfold n50
 have ht:=hE.tz
 unfold ZcR
 have e1:(IntKind.u64.wrap (IntKind.u64.wrap ((BitVec.ofInt IntKind.u64.bits 16 &&& BitVec.ofInt IntKind.u64.bits (IntKind.u64.wrap (-16))).toNat:Nat)*285870213051353865)) / 2 ^ min (58:Int).toNat IntKind.u64.bits=15:=K7
 refine Qqh @Fe ?_
 try unfold X0
 rw [Nq 191 true .u64 _ 58 K7,e1,DG underlying306 ty5 _ _ _ _ K7 K7]
 refine Qqh ht ?_
 exact ⟨congrArg _ K7,by trivial⟩
def Ze9 (w0:Wd) (hE:UN w0):Ret Pg 211 #[.int .u64 16] w0 λ r w'=>r = .int .i64 4∧w'=w0:=by
 refine Zk4 (R:=ZE _) ?_;unfold n49
 refine Qqv ?_
 refine Zi (Zad w0 hE) ?_
 rintro _ w ⟨rfl,hw⟩
 rw [hw]
 refine Qqv ?_
 exact ⟨by trivial,by trivial⟩
def As (w0:Wd) (hE:UN w0) (u:Nat) (hu:u < 16):Ret Pg 194 #[.slice none 0 0,.int .u64 u,.int .i64 16,.bool false,.bool false] w0 λ r w'=>r = .tuple #[.slice none 0 0,.string ⟨#[Wb u]⟩]∧Ext w0 w':=by
 refine n9s (R:=ZE _) ?_;unfold n9
 unfold Zea Zd9
 simp (disch:=try exact DI) only [↓PR,QR,simprocAttr,Yv ZnU]
 have oV:=Zt w0 (Array.replicate 65 (.int .u8 0)) 282
 have eV:Ext w0 (w0.alloc (.cells (Array.replicate 65 (.int .u8 0)) 282)):=(Ext.refl w0).alloc _
 generalize (w0.alloc (.cells (Array.replicate 65 (.int .u8 0)) 282))=V at oV eV ⊢
 obtain ⟨b,hbe⟩:∃ b,w0.heap.size=b:=⟨_,rfl⟩
 rw [hbe] at oV ⊢
 have hb:w0.heap.size≤b:=C1
 refine Zi (TA V) ?_
 rintro _ w ⟨rfl,hw⟩
 rw [hw]
 clear hw
 unfold Zd8
 refine Qqv ?_
 refine Zi (Ze9 V (hE.ext eV)) ?_
 rintro _ w ⟨rfl,hw⟩
 rw [hw]
 clear hw
 unfold Ziu
 refine Qqv ?_
 refine Xu (λ x y w=>x = .int .u64 u∧y = .int .i64 65∧w=V) (λ _ _ _=>0) ⟨rfl,rfl,rfl⟩ ?_
 rintro _ _ W ⟨rfl,rfl,hW⟩
 rw [hW]
 clear hW
 have d1:decide ((u:Int)≥IntKind.u64.wrap 16)=false:=by
  rw [show IntKind.u64.wrap 16=16 by decide]
  simp
  omega
 have hdig:∀ n:Fin 16,([48,49,50,51,52,53,54,55,56,57,97,98,99,100,101,102,103,104,105,106,107,108,109,110,111,112,113,114,115,116,117,118,119,120,121,122]:List UInt8)[n.1]?=some (Wb n.1):=K7
 have hx:=hdig ⟨u,hu⟩
 unfold Zit
 refine Qqh d1 ?_
 unfold Zis
 have w64:IntKind.i64.wrap (65 - 1)=64:=K7
 have oZ:=Zy (o:=64) oV (.int .u8 ((Wb u).toNat:Int))
 have cV:=Za oV
 have c64:V.cell? ⟨b,64,none⟩=some (.int .u8 0):=by rw [cV.1];rfl
 try unfold B0
 rw [Ff,w64]
 try unfold X0
 rw [YP underlying9 _ .u64 u hx,DG underlying282 ty5 _ _ _ _ K7 K7]
 refine Qqb c64 cV.2 ?_
 have eZ:Ext w0 (V.setCell ⟨b,64,none⟩ (.int .u8 ((Wb u).toNat:Int))):=eV.setCell hb _
 generalize (V.setCell ⟨b,64,none⟩ (.int .u8 ((Wb u).toNat:Int)))=Z at oZ eZ ⊢
 unfold Zir
 refine Qqv ?_
 unfold Ziq
 have:=HR (P:=Pg) (QP:=Zc (ZE λ r w'=>r=Value.tuple #[Value.slice none 0 0,Value.string ⟨#[Wb u]⟩]∧Ext w0 w')) (w:=Z) (k:=λ t100 w=>opV Pg (Go.convert 40 9 t100) (Zc (ZE λ r w'=>r=Value.tuple #[Value.slice none 0 0,Value.string ⟨#[Wb u]⟩]∧Ext w0 w')) w λ t101 w=>ZE (λ r w'=>r=Value.tuple #[Value.slice none 0 0,Value.string ⟨#[Wb u]⟩]∧Ext w0 w') (.returned (.tuple #[(Value.slice none 0 0),t101])) w) underlying282 ty5 b 0 .i64 64 K7
 refine this.mpr ?_
 have hB:Ga Z (.slice (some ⟨b,64,none⟩) 1 1) [Wb u]:=⟨_,1,rfl,Nat.le_refl _,by decide,λ _=>⟨b,64,rfl,λ k x hk=>?_⟩⟩
 · rw [show (0+64*1)=64 from rfl,show 65 - 64=1 from rfl,Qf hB]
   exact ⟨_,rfl,rfl,eZ⟩
 · cases k with
   | zero=>
    simp only [List.getElem?_cons_zero,Option.some.injEq] at hk
    subst hk
    refine ⟨[.int .u8 ((Wb u).toNat:Int)],rfl,λ j v hj=>?_,rfl⟩
    cases j with
    | zero=>
     simp only [List.getElem?_cons_zero,Option.some.injEq] at hj
     subst hj
     rw [(Za oZ).1]
     rfl
    | succ j=>simp at hj
   | succ k=>simp at hk
def KQ (w0:Wd) (hE:UN w0) (u:Nat) (hu:u < 16):Ret Pg 133 #[.int .u64 u,.int .i64 16] w0 λ r w'=>r = .string ⟨#[Wb u]⟩∧Ext w0 w':=by
 refine ZhZ (R:=ZE _) ?_;unfold ZhY
 have inner:Ret Pg 160 #[.int .u64 u,.int .i64 16] w0 λ r w'=>r = .string ⟨#[Wb u]⟩∧Ext w0 w':=by
  refine n7s (R:=ZE _) ?_;unfold n7
  refine Qqv ?_
  unfold Zh6
  refine zcr (As w0 hE u hu) λ w e=>?_
  refine Qqv ?_
  exact ⟨by trivial,e⟩
 refine Zi inner ?_
 rintro _ w ⟨rfl,e⟩
 exact ⟨_,rfl,rfl,e⟩
open Go.Shelf
def JY:Go.Shelf.Ren:=⟨λ | 169=>100 | n=>n,λ | 70=>157 | 9=>9 | 0=>0 | 72=>159 | 37=>40 | 127=>195 | 3=>3 | 5=>5 | n=>n,λ | n=>n⟩
def MB:Go.Proofs.Lays.n169 Pg JY:={
 mixed:=K5
 f169:=func100.trans (congrArg some K5)
 t0:=underlying0
 a0:=Tryz.isAgg0
 z0:=Tryz.sizeOf0
 v0:=Tryz.zeroValue0
 t3:=underlying3
 a3:=Tryz.isAgg3
 z3:=Tryz.sizeOf3
 v3:=Tryz.zeroValue3
 t9:=underlying9
 a9:=Tryz.isAgg9
 z9:=Tryz.sizeOf9
 v9:=Tryz.zeroValue9
 t37:=underlying40
 a37:=Tryz.isAgg40
 z37:=Tryz.sizeOf40
 v37:=Tryz.zeroValue40
 t70:=underlying157
 a70:=Tryz.isAgg157
 z70:=Tryz.sizeOf157
 v70:=Tryz.zeroValue157
 t72:=underlying159
 a72:=Tryz.isAgg159
 z72:=Tryz.sizeOf159
 v72:=Tryz.zeroValue159
 t127:=underlying195
 a127:=Tryz.isAgg195
 z127:=Tryz.sizeOf195
 v127:=Tryz.zeroValue195 }
def JX:Builder.Extra Pg JY:={
 sizeBuilder:=K5
 liesBuilder:=K5
 t5:=underlying5
 a5:=Tryz.isAgg5
 z5:=Tryz.sizeOf5
 v5:=Tryz.zeroValue5
 infoByte:=K5
 cellsByte:=K5
 sizeByte:=K5
 neB5:=by decide }
open Go.RowKit in
def KK (B b:Nat) (l:List UInt8) (w:World) (h:Lib.IsBuilder 159 5 B b (Lib.byteCells l) w) (hBw:B≤w.heap.size) :
 Calls Pg 100 #[Qq5 b] w λ e w'=>e = .returned (.string ⟨l.toArray⟩)∧Below B w w':=Any.Builder_String_any MB JX B b l w h hBw
abbrev zI (B b:Nat) (l:List UInt8) (w:Wd):Prop:=Go.Lib.IsBuilder 159 5 B b (Go.Lib.byteCells l) w
def xi (a b:List UInt8):Go.Lib.byteCells (a++b)=Go.Lib.byteCells a++Go.Lib.byteCells b:=by unfold Go.Lib.byteCells;rw [List.map_append]
def zI.ext {B b:Nat} {l:List UInt8} {w w':Wd} (h:zI B b l w) (e:Ext w w'):zI B b l w':=by
 have key:∀ p,Go.Lib.BuilderAt 159 5 B b p (Go.Lib.byteCells l) w→Go.Lib.BuilderAt 159 5 B b p (Go.Lib.byteCells l) w':=λ p ⟨h1,v,h2,h3,h4⟩=>⟨h1,v,e.obj h2,jj h3 e,h4⟩
 exact h.imp (key _) (key _)
def Zag {a w w':Wd} (e:Ext a w) (h:Below a.heap.size w w'):Ext a w':=⟨h.os.trans e.os,h.tape.trans e.tape,h.output.trans e.output,Nat.le_trans e.size h.size,λ k hk=>(h.block k hk).trans (e.block k hk)⟩
def ju {w:Wd} {B b:Nat} {l:List UInt8} (h:zI B b l w) (s:BAr) (hl:l.length+s.size≤140737488355328) (hB:B≤w.heap.size) :
 Ret Pg 99 #[Qq5 b,.string s] w λ _ w'=>zI B b (l++s.data.toList) w'∧Below B w w':=by
 have hc:(Go.Lib.byteCells l).length+s.size≤140737488355328:=by rw [Go.Lib.byteCells_length];exact hl
 refine Calls.mono (Any.Builder_WriteString (P:=Pg) (ρ:=Uj) { BP with } Vo B b (Go.Lib.byteCells l) s w h hc hB) ?_
 rintro e w' ⟨rfl,h1,h2⟩
 refine ⟨_,rfl,?_,h2⟩
 unfold zI
 rw [xi]
 exact .inr h1
def Cd {w:Wd} {B b:Nat} {l:List UInt8} (h:zI B b l w) (hB:B≤w.heap.size) :
 Ret Pg 100 #[Qq5 b] w λ r w'=>r = .string ⟨l.toArray⟩∧Below B w w':=by
 refine Calls.mono (KK B b l w h hB) ?_
 rintro e w' ⟨rfl,h1⟩
 exact ⟨_,rfl,rfl,h1⟩
def Da (l:List UInt8) (c:UInt8):Vf (l++[c])=Vf l++[Wb (c.toNat / 16),Wb (c.toNat % 16)]:=by
 unfold Vf
 rw [List.flatMap_append,List.flatMap_cons,List.flatMap_nil,List.append_nil]
def TT:∀ n:Fin 256,((n.1:Nat):Int) / 2 ^ min (4:Int).toNat IntKind.u8.bits=((n.1 / 16:Nat):Int):=K7
def Zar:∀ n:Fin 256,IntKind.u8.wrap ((BitVec.ofInt IntKind.u8.bits ((n.1:Nat):Int) &&& BitVec.ofInt IntKind.u8.bits 15).toNat:Nat)=((n.1 % 16:Nat):Int):=K7
def YU {α:Type} {l:List α} {k:Nat} {x:α} (h:l[k]?=some x):l.take (k+1)=l.take k++[x]:=by
 rw [List.take_add_one,h];rfl
def IL (w0:Wd) (hE:UN w0) (v:Vl) (l:List UInt8) (hs:zJ w0 v l) (hz:l.length≤1000000000):Ret Pg 102 #[v] w0 λ r w'=>r = .string (mkB (YE l))∧Ext w0 w':=by
 obtain ⟨A,c,rfl,hlc,hcm,hlm,Xj⟩:=Zd.open hs
 refine ZkS (R:=ZE _) ?_;unfold n36
 by_cases hl:l=[]
 · have d0:((l.length:Int) == 0)=true:=by rw [hl];rfl
   refine Qqh d0 ?_
   exact ⟨by rw [hl];rfl,Ext.refl _⟩
 have hpos:0 < l.length:=List.length_pos_iff.2 hl
 have d0:((l.length:Int) == 0)=false:=by rw [beq_eq_false_iff_ne];omega
 refine Qqh d0 ?_
 unfold Zcj
 refine Qqv ?_
 have hB0:zI w0.heap.size w0.heap.size [] (w0.alloc (.cells #[.pointer none,.slice none 0 0] 159)):=Go.Lib.fresh_isBuilder _ _ w0
 have e0:Ext w0 (w0.alloc (.cells #[.pointer none,.slice none 0 0] 159)):=(Ext.refl w0).alloc _
 generalize (w0.alloc (.cells #[.pointer none,.slice none 0 0] 159))=V at hB0 e0 ⊢
 refine ZL (λ i w=>∃ k:Nat,i = .int .i64 k∧k≤l.length∧Ext w0 w∧zI w0.heap.size w0.heap.size (Vf (l.take k)) w) (λ i _=>l.length - (intOf i).toNat) ⟨0,rfl,by omega,e0,hB0⟩ ?_
 rintro _ w ⟨k,rfl,hk,e,hB⟩
 unfold Zci
 rcases ZY hk with ⟨x,hx,_,Yo,ZT⟩ | ⟨hk,_,ZT⟩
 · obtain ⟨b,o,cs,rfl,_,hA,rfl⟩:=Xj k x hx
   have h256:x.toNat < 256:=x.toNat_lt
   have q1:=TT ⟨x.toNat,h256⟩
   have q2:=Zar ⟨x.toNat,h256⟩
   simp only at q1 q2
   have w1:∀ n:Nat,n < 16→IntKind.u64.wrap (n:Int)=(n:Int):=λ n hn=>by
    have:∀ n:Fin 16,IntKind.u64.wrap (n.1:Int)=(n.1:Int):=K7
    exact this ⟨n,hn⟩
   refine Qqh ZT ?_
   unfold Zch
   refine Qqh (hA.c1 e) ?_
   rw [Nq _ _ _ _ 4 K7,q1]
   refine Qqv ?_
   rw [w1 _ C1]
   refine zcr (KQ w (hE.ext e) (x.toNat / 16) C1) λ w2 e2=>?_
   unfold Zcg
   refine Qqh @Fe ?_
   rw [q2,w1 _ C1]
   refine zcr (KQ w2 (hE.ext (e.trans e2)) (x.toNat % 16) C1) λ w3 e3=>?_
   unfold Zcf
   refine Qqv ?_
   have E3:=e.trans (e2.trans e3)
   refine Zi (ju (hB.ext (e2.trans e3)) _ ?_ E3.size) ?_
   · have h1:(Vf (l.take k)).length≤2*l.length:=by rw [Je,List.length_take];omega
     rw [size_append]
     show _+(1+1)≤_
     omega
   rintro _ w4 ⟨hB4,h4⟩
   refine Qqv ?_
   refine ⟨⟨k+1,rfl,Yo,Zag E3 h4,?_⟩,Yh (kd := .i64) Yo⟩
   rw [YU hx,Da]
   exact hB4
 · subst hk
   rw [List.take_length] at hB
   refine Qqh ZT ?_
   refine Zi (Cd hB e.size) ?_
   rintro _ w2 ⟨rfl,h2⟩
   exact ⟨_,rfl,by unfold YE;rw [if_neg hl];rfl,Zag e h2⟩
def V3:List UInt8:=[109,97,112,112,105,110,103]
def IY:List UInt8:=[109,97,112]
def IX:List UInt8:=[101,110,100]
structure PsD where
 name:BAr
 done:List MrD
 cur:Option MrD
def Kw:List (List UInt8)→Option BAr
 | [a,b]=>if a=V3∧Yq (mkB b)=true then some (mkB b) else none
 | _=>none
def KA:List (List UInt8)→Option (BAr×BAr)
 | [a,b,c]=>if a=IY∧(Yq (mkB b)=true∧Yq (mkB c)=true) then some (mkB b,mkB c) else none
 | _=>none
noncomputable def X5 (s:PsD) (i:Nat) (l:List UInt8):Option PsD:=
 if i=0 then (Kw (Ye 32 l)).map λ n=>{ s with name:=n }
 else match s.cur with
  | some r=>if l=IX then some ⟨s.name,s.done++[r],none⟩ else (Xt l).map λ x=>⟨s.name,s.done,some ⟨r.fr,r.to,r.fields++[x]⟩⟩
  | none=>(KA (Ye 32 l)).map λ q=>⟨s.name,s.done,some ⟨q.1,q.2,[]⟩⟩
noncomputable def goQ (s:PsD) (i:Nat):List (List UInt8)→Option Xn×Nat
 | []=>(none,i+1)
 | [l]=>if l=[]∧(0 < i∧s.cur=none) then (some ⟨s.name,s.done⟩,0) else (none,i+1)
 | l::x::L=>match X5 s i l with
  | some s'=>goQ s' (i+1) (x::L)
  | none=>(none,i+1)
def KG:PsD:=⟨ByteArray.empty,[],none⟩
noncomputable def zB (s:BAr):Option Xn×Nat:=goQ KG 0 (Ye 10 s.data.toList)
def z7 {s s':PsD} {i:Nat} {l:List UInt8} {L:List (List UInt8)} (hL:L≠[]) (h:X5 s i l=some s'):goQ s i (l::L)=goQ s' (i+1) L:=by
 cases L with
 | nil=>exact absurd rfl hL
 | cons x L=>rw [goQ,h]
def Aw {s:PsD} {i:Nat} {l:List UInt8} {L:List (List UInt8)} (hL:L≠[]) (h:X5 s i l=none):goQ s i (l::L)=(none,i+1):=by
 cases L with
 | nil=>exact absurd rfl hL
 | cons x L=>rw [goQ,h]
def XL (l:List UInt8):(mkB l).data.toList=l:=by unfold mkB;exact O0 l
def XJ (c:UInt8):List (List UInt8)→List (List UInt8)
 | []=>[]
 | [x]=>[x]
 | x::y::r=>(x++[c])::XJ c (y::r)
def OV (sep:List UInt8) (sv k:Nat) (s:List UInt8):Go.Lib.splitK sep sv k s≠[]:=by
 cases k with
 | zero=>simp [Go.Lib.splitK]
 | succ k=>unfold Go.Lib.splitK;split<;>simp
def FG (c:UInt8) (x:List UInt8) {l:List (List UInt8)} (h:l≠[]):XJ c (x::l)=(x++[c])::XJ c l:=by
 cases l with
 | nil=>exact absurd rfl h
 | cons y r=>rfl
def IA {c:UInt8} {L:List (List UInt8)} {x:List UInt8} (h:XJ c L=[x]) (hL:L≠[]):L=[x]:=by
 cases L with
 | nil=>exact absurd rfl hL
 | cons a l=>
  cases l with
  | nil=>exact h
  | cons b r=>
   cases r<;>simp [XJ] at h
def y5 (c:UInt8):∀ s:List UInt8,Go.Lib.splitK [c] 1 (Go.Lib.count s [c]) s=XJ c (Ye c s)
 | []=>by rw [Go.Lib.count_one];rfl
 | b::l=>by
  have ih:=y5 c l
  by_cases h:b=c
  · subst h
    rw [Go.Lib.count_cons_eq,Nat.add_comm,Go.Lib.splitK,Ha,if_neg K7,Wu,FG _ _ (QE _ _),← ih]
    rfl
  · rw [Go.Lib.count_cons_ne b c l h]
    cases hk:Go.Lib.count l [c] with
    | zero=>
     rw [hk] at ih
     have h1:=IA ih.symm (QE _ _)
     rw [Y4 h h1]
     rfl
    | succ k=>
     rw [hk] at ih
     have hge:=Go.Lib.index_ge l [c]
     have hm:Go.Lib.index l [c] ≠ -1:=λ e=>by rw [Go.Lib.count_miss e] at hk;cases hk
     obtain ⟨i,hi⟩:∃ i:Nat,Go.Lib.index l [c]=i:=⟨(Go.Lib.index l [c]).toNat,by omega⟩
     have n1:¬ (((i:Int) == -1)=true):=λ e=>by have:=beq_iff_eq.1 e;omega
     have n2:¬ ((((i:Int)+1) == -1)=true):=λ e=>by have:=beq_iff_eq.1 e;omega
     have t2:((i:Int)+1).toNat=i+1:=C1
     rw [Go.Lib.splitK,hi,if_neg n1] at ih
     rw [Go.Lib.splitK,Hb l h,hi,if_neg n1,if_neg n2,t2]
     cases hL:Ye c l with
     | nil=>exact absurd hL (QE _ _)
     | cons x r=>
      cases r with
      | nil=>
       rw [hL] at ih
       injection ih with _ h2
       exact absurd h2 (OV _ _ _ _)
      | cons y r=>
       rw [hL] at ih
       rw [Y4 h hL]
       injection ih with h1 h2
       show _=((b::x)++[c])::XJ c (y::r)
       rw [← h2,List.cons_append,← h1]
       simp only [Int.toNat_natCast,List.length_singleton,List.take_succ_cons,List.drop_succ_cons]
def Ij (c:UInt8) (s:BAr):Go.Lib.splitB ⟨#[c]⟩ 1 (Go.Lib.countB s ⟨#[c]⟩) s=(XJ c (Ye c s.data.toList)).map mkB:=by
 have h:=Go.Lib.splitB_data ⟨#[c]⟩ 1 (Go.Lib.countB s ⟨#[c]⟩) s
 have hs:Go.Lib.splitK [c] 1 (Go.Lib.countB s ⟨#[c]⟩) s.data.toList=XJ c (Ye c s.data.toList):=y5 c s.data.toList
 have h:(Go.Lib.splitB ⟨#[c]⟩ 1 (Go.Lib.countB s ⟨#[c]⟩) s).map (·.data.toList)=XJ c (Ye c s.data.toList):=h.trans hs
 rw [← h,List.map_map]
 have:(mkB ∘ λ x:BAr=>x.data.toList)=id:=by funext x;rfl
 rw [this,List.map_id]
def GW (c:UInt8):∀ L:List (List UInt8),(XJ c L).length=L.length
 | []=>rfl
 | [_]=>rfl
 | x::y::r=>by
  have:=GW c (y::r)
  show (XJ c (y::r)).length+1=_
  rw [this]
  rfl
def CM {c:UInt8}:∀ {L:List (List UInt8)} {k:Nat} {x:List UInt8},L[k]?=some x→k+1 < L.length→(XJ c L)[k]?=some (x++[c])
 | [],_,_,h,_=>by cases h
 | [_],k,_,_,hk=>by simp at hk
 | a::b::r,0,x,h,_=>by
  injection h with h
  subst h
  rfl
 | a::b::r,k+1,x,h,hk=>CM (L:=b::r) (k:=k) h (by simpa using hk)
def qw {c:UInt8}:∀ {L:List (List UInt8)} {k:Nat} {x:List UInt8},L[k]?=some x→k+1=L.length→(XJ c L)[k]?=some x
 | [],_,_,h,_=>by cases h
 | [_],0,_,h,_=>h
 | [_],k+1,_,_,hk=>by simp at hk
 | a::b::r,0,x,h,hk=>by simp at hk
 | a::b::r,k+1,x,h,hk=>qw (L:=b::r) (k:=k) h (by simpa using hk)
def zV {c:UInt8}:∀ {l x:List UInt8},x∈Ye c l→c ∉ x
 | [],x,h=>by
  rw [show Ye c []=[[]] from rfl,List.mem_singleton] at h
  subst h
  simp
 | b::l,x,h=>by
  by_cases hb:b=c
  · subst hb
    rw [Wu] at h
    rcases List.mem_cons.1 h with rfl | h
    · simp
    · exact zV h
  · cases hL:Ye c l with
    | nil=>exact absurd hL (QE _ _)
    | cons y r=>
     rw [Y4 hb hL] at h
     rcases List.mem_cons.1 h with rfl | h
     · intro hm
       rcases List.mem_cons.1 hm with hm | hm
       · exact hb hm.symm
       · exact zV (l:=l) (by rw [hL];exact List.mem_cons_self ..) hm
     · exact zV (l:=l) (by rw [hL];exact List.mem_cons_of_mem _ h)
def VS {c:UInt8}:∀ {l x:List UInt8},x∈Ye c l→x.length≤l.length
 | [],x,h=>by
  rw [show Ye c []=[[]] from rfl,List.mem_singleton] at h
  subst h
  exact Nat.le_refl _
 | b::l,x,h=>by
  by_cases hb:b=c
  · subst hb
    rw [Wu] at h
    rcases List.mem_cons.1 h with rfl | h
    · simp
    · exact Nat.le_succ_of_le (VS h)
  · cases hL:Ye c l with
    | nil=>exact absurd hL (QE _ _)
    | cons y r=>
     rw [Y4 hb hL] at h
     rcases List.mem_cons.1 h with rfl | h
     · rw [List.length_cons,List.length_cons]
       exact Nat.succ_le_succ (VS (l:=l) (by rw [hL];exact List.mem_cons_self ..))
     · exact Nat.le_succ_of_le (VS (l:=l) (by rw [hL];exact List.mem_cons_of_mem _ h))
def MG (c:UInt8) (x:List UInt8):Go.Lib.hasSuffix (x++[c]) [c]=true∧Go.Lib.trimSuffix (x++[c]) [c]=x:=by
 have h:Go.Lib.hasSuffix (x++[c]) [c]=true:=by simp [Go.Lib.hasSuffix]
 refine ⟨h,?_⟩
 unfold Go.Lib.trimSuffix
 rw [h]
 simp
def OY {c:UInt8} {x:List UInt8} (hx:c ∉ x):Go.Lib.hasSuffix x [c]=false∧Go.Lib.trimSuffix x [c]=x:=by
 have h:Go.Lib.hasSuffix x [c]=false:=by
  cases hs:Go.Lib.hasSuffix x [c] with
  | false=>rfl
  | true=>
   exfalso
   simp [Go.Lib.hasSuffix] at hs
   exact hx (hs.mem (List.mem_singleton.2 rfl))
 refine ⟨h,?_⟩
 unfold Go.Lib.trimSuffix
 rw [h]
 simp
def Bh b d e (R:RT) w:=
 Zp (λ (a:Vl) (w:Wd)=>
 Zx b a (.bool false) λ f=>
 R (.returned f) w) λ c=>
 Zm b true (
 Zx d (.bool true) e λ a=>
 c a w) (
 c undef w)
def Dl d e b R w:=
 Zp (λ (a:Vl) (w:Wd)=>
 Bh e b a R w) λ c=>
 Zm b false (
 F0 43 d 2 R w λ f w=>
 L0 9 f R w λ g w=>
 opV Pg (buildSlice 94 1 #[(0,g)]) (Zc R) w λ h w=>
 C0 52 #[h] R w λ a w=>
 c a w) (
 c undef w)
def Dm c d e f R w:=
 Zx e f (.bool false) λ a=>
 Zp (λ (g:Vl) (w:Wd)=>
 Dl c a g R w) λ b=>
 Zm a true (
 F0 105 d 0 R w λ h w=>
 L0 4 h R w λ i w=>
 N0 i R w λ j w=>
 b j w) (
 b undef w)
def M8 b e f g R w:=
 Zx f g (.bool false) λ c=>
 Zp (λ (a:Vl) (w:Wd)=>
 Dm b e c a R w) λ d=>
 Zm c true (
 F0 43 b 0 R w λ h w=>
 L0 9 h R w λ i w=>
 opV Pg (ZA .neq 9 true i (.string { data := #[101,110,100] })) (Zc R) w λ a w=>
 d a w) (
 d undef w)
def RW b e f g R w:=
 Zx f g (.bool false) λ c=>
 Zp (λ (a:Vl) (w:Wd)=>
 M8 b e c a R w) λ d=>
 Zm c true (
 F0 43 b 0 R w λ h w=>
 L0 9 h R w λ i w=>
 opV Pg (buildSlice 94 1 #[(0,i)]) (Zc R) w λ j w=>
 C0 52 #[j] R w λ a w=>
 d a w) (
 d undef w)
def RX b c d R w:=
 Zp (λ (a:Vl) (w:Wd)=>
 RW b c d a R w) λ e=>
 Zm d true (
 L0 43 b R w λ f w=>
 L0 105 c R w λ g w=>
 C0 97 #[f,g] R w λ a w=>
 e a w) (
 e undef w)
def Zcr d e (a:WPr) (f:KW) R w:=
 qV Pg a (lookup 106 d e true) λ b=>
 qV Pg a (extract b 0) λ g=>
 qV Pg a (extract b 1) λ h=>
 opV Pg (alloc 105 true (.tuple #[])) (Zc R) w λ c w=>
 a w∧(
 S0 105 c g R w λ w=>
 a w∧(
 f c h w))
def Zcs b d e (a:WPr) (f:KW) R w:=
 qV Pg a (lookup 106 d e true) λ c=>
 qV Pg a (extract c 0) λ g=>
 qV Pg a (extract c 1) λ h=>
 S0 105 b g R w λ w=>
 a w∧(
 f b h w)
def Zct d (a:WPr) R w:=
 J0 43 d 1 a λ g=>
 I0 39 g a λ e=>
 Zp (λ (b:Vl) (h:Vl) (w:Wd)=>
 RX d b h R w) λ f=>
 (
 C0 57 #[] R w λ c w=>
 XS a w λ i w=>
 Zcr c e i f R w)∧(
 opV Pg (alloc 105 true (.tuple #[])) (Zc R) w λ b w=>
 a w∧(
 C0 57 #[] R w λ c w=>
 XS a w λ j w=>
 Zcs b c e j f R w))
def n43 a R w:=
 opV Pg (box 43 a) (Zc R) w λ b w=>
 Z4 w λ c w=>
 Zct b c R w
def ZkZ:QqX1 58 n43:=λ h=>by
 refine yD func58 ?_
 refine zs<|zr<|yv h λ h=>zm<|zn<|zk<|zs<|yh [3,4,5,6,7,8,9,10,11] h λ C hC h=>ye 1 hC h λ h=>?_
 refine ye 2 hC h λ h=>?_
 refine X1 h (λ K2 hK h=>?_)
 refine Qx [3,4,5,6,9,10,11] (λ ρ w=>K2 (ρ 3) (ρ 4) w) (λ T hT=>?_) (λ σ w h=>?_)
 · obtain ⟨h0,h1⟩:=h
   refine Y5 0 7 rfl rfl K5 (λ _ _=>rfl) (λ _ _=>rfl) ?_ ?_
   · have h:=h0
     refine yc h c57 λ h=>zn ?_
     obtain ⟨C9,hs,hC,h⟩:=h
     refine ⟨C9,hs,hC,?_⟩
     refine ye 3 hC h λ h=>?_
     refine yw 4 hC ?_
     refine ye 5 hC h λ h=>?_
     refine ye 6 hC h λ h=>?_
     refine yo 7 ?_
     refine yv h λ h=>zn ?_
     obtain ⟨hC,h⟩:=h
     refine ⟨hC,?_⟩
     refine yo 8 ?_
     refine yu h λ h=>zn ?_
     obtain ⟨hC,h⟩:=h
     refine ⟨hC,?_⟩
     refine yw 9 hC ?_
     refine yz ?_
     exact zt hT h
   have h:=h1
   refine yv h λ h=>zn ?_
   obtain ⟨hC,h⟩:=h
   refine ⟨_,λ _ h=>h,hC,?_⟩
   refine yr 0 ?_
   refine yc h c57 λ h=>zn ?_
   obtain ⟨C10,hs,hC,h⟩:=h
   refine ⟨C10,hs,hC,?_⟩
   refine ye 3 hC h λ h=>?_
   refine yw 4 hC ?_
   refine ye 5 hC h λ h=>?_
   refine ye 6 hC h λ h=>?_
   refine yo 8 ?_
   refine yu h λ h=>zn ?_
   obtain ⟨hC,h⟩:=h
   refine ⟨hC,?_⟩
   refine yw 9 hC ?_
   refine yz ?_
   exact zt hT h
 subst hK
 refine zk<|zs<|Zq<|yG 2<|zm<|zm<|zn<|yg1 3 1 true [14,15,16] 16 h (λ _ T hT h=>?_) λ σ w h=>?_
 · refine yv h λ h=>yv h λ h=>yc h c97 λ h=>zn ?_
   exact zt hT h
 refine yG 2<|yp h λ h=>zm<|zn<|yg1 4 6 true [19,20,21,22] 22 h (λ _ T hT h=>?_) λ σ w h=>?_
 · refine yv h λ h=>yv h λ h=>yS h λ h=>yc h c52 λ h=>zn ?_
   exact zt hT h
 refine yG 2<|yp h λ h=>zm<|zn<|yg1 3 12 true [25,26,27] 27 h (λ _ T hT h=>?_) λ σ w h=>?_
 · refine yv h λ h=>yv h λ h=>yb h λ h=>zn ?_
   exact zt hT h
 refine yG 2<|yp h λ h=>zm<|zn<|yg1 4 17 true [30,31,32,33] 33 h (λ _ T hT h=>?_) λ σ w h=>?_
 · refine yv h λ h=>yv h λ h=>yv h λ h=>zm<|zn ?_
   exact zt hT h
 refine yg1 4 21 false [34,35,36,37] 37 h (λ _ T hT h=>?_) λ σ w h=>?_
 · refine yv h λ h=>yv h λ h=>yS h λ h=>yc h c52 λ h=>zn ?_
   exact zt hT h
 refine yg1 1 17 true [38] 38 h (λ _ T hT h=>?_) λ σ w h=>?_
 · refine yp h λ h=>zn ?_
   exact zt hT h
 exact yG 2<|yp h λ h=>zm<|zn<|ZG<|zk<|Zg<|Zj rfl rfl h
def Zcu b (a:WPr) (R:RT) w:=
 J0 43 b 0 a λ c=>
 I0 9 c a λ d=>
 J0 43 b 2 a λ e=>
 I0 9 e a λ f=>
 J0 43 b 3 a λ g=>
 I0 3 g a λ h=>
 C0 101 #[h] R w λ i w=>
 a w∧(
 opV Pg (buildSlice 94 4 #[(0,d),(1,(.string { data := #[97,100,100] })),(2,f),(3,i)]) (Zc R) w λ j w=>
 a w∧(
 R (.returned j) w))
def Zcv b (a:WPr) (R:RT) w:=
 J0 43 b 0 a λ c=>
 I0 9 c a λ d=>
 J0 43 b 4 a λ e=>
 I0 3 e a λ f=>
 C0 101 #[f] R w λ g w=>
 a w∧(
 opV Pg (buildSlice 94 3 #[(0,d),(1,(.string { data := #[118,97,108,117,101] })),(2,g)]) (Zc R) w λ h w=>
 a w∧(
 R (.returned h) w))
def Zcw b (a:WPr) (R:RT) w:=
 J0 43 b 0 a λ c=>
 I0 9 c a λ d=>
 J0 43 b 5 a λ e=>
 I0 40 e a λ f=>
 C0 102 #[f] R w λ g w=>
 a w∧(
 opV Pg (buildSlice 94 3 #[(0,d),(1,(.string { data := #[98,121,116,101,115] })),(2,g)]) (Zc R) w λ h w=>
 a w∧(
 R (.returned h) w))
def Zcx b c d e (a:WPr) (Qt:KW) R w:=
 qV Pg a (ZA .add 9 false d e) λ f=>
 opV Pg (buildSlice 94 1 #[(0,f)]) (Zc R) w λ g w=>
 a w∧(
 opV Pg (Builtin.append_ #[94,94] 94 #[b,g]) (Zc R) w λ h w=>
 a w∧(
 B0 .add 3 true c (QqQ 1) R w λ i w=>
 Qt h i w))
def Zcy b c d e f (a:WPr) (Qt:KW) (R:RT) w:=
 qV Pg a (ZA .add 9 false d e) λ g=>
 qV Pg a (ZA .add 9 true g (.string { data := #[58] })) λ h=>
 C0 101 #[f] R w λ i w=>
 a w∧(
 Zcx b c h i a Qt R w)
def Zcz b c d e f (a:WPr) (Qt:KW) (R:RT) w:=
 qV Pg a (ZA .add 9 true d (.string { data := #[45] })) λ g=>
 C0 101 #[e] R w λ h w=>
 a w∧(
 Zcy b c g h f a Qt R w)
def ZcA c b d (a:WPr) (Qt:KW) (R:RT) w:=
 J0 78 b 0 a λ e=>
 I0 3 e a λ f=>
 J0 78 b 1 a λ g=>
 I0 3 g a λ h=>
 J0 78 b 2 a λ i=>
 I0 3 i a λ j=>
 C0 101 #[f] R w λ k w=>
 a w∧(
 Zcz c d k h j a Qt R w)
def ZcB c d a (Qt:KW) R w:=
 X0 41 d a R w λ e w=>
 L0 78 e R w λ f w=>
 opV Pg (alloc 78 true (.tuple #[])) (Zc R) w λ b w=>
 S0 78 b f R w λ w=>
 Z4 w λ g w=>
 ZcA c b a g Qt R w
def R0 a R w:=
 F0 43 a 0 R w λ b w=>
 L0 9 b R w λ c w=>
 opV Pg (buildSlice 94 2 #[(0,c),(1,(.string { data := #[102,105,116] }))]) (Zc R) w λ d w=>
 R (.returned d) w
def RY a R w:=
 F0 43 a 0 R w λ e w=>
 L0 9 e R w λ f w=>
 F0 43 a 2 R w λ g w=>
 L0 9 g R w λ h w=>
 opV Pg (buildSlice 94 3 #[(0,f),(1,(.string { data := #[116,97,98,108,101] })),(2,h)]) (Zc R) w λ i w=>
 F0 43 a 6 R w λ j w=>
 L0 41 j R w λ b w=>
 G0 41 3 b R w λ k w=>
 Wy (λ c d w Qt=>
 B0 .lss 3 false d k R w λ l w=>
 Zr l (
 ZcB c b d Qt R w) (
 R (.returned c) w)) i (QqQ 0) w
def RZ a R w:=
 F0 43 a 0 R w λ b w=>
 L0 9 b R w λ c w=>
 F0 43 a 2 R w λ d w=>
 L0 9 d R w λ e w=>
 opV Pg (buildSlice 94 3 #[(0,c),(1,(.string { data := #[110,101,115,116,101,100] })),(2,e)]) (Zc R) w λ f w=>
 R (.returned f) w
def Bi a b R w:=
 B0 .eql 39 true b (QqQ 6) R w λ c w=>
 Zr c (
 RZ a R w) (
 B0 .eql 39 true b (QqQ 7) R w λ d w=>
 Zr d (
 R0 a R w) (
 RY a R w))
def zj a b R w:=
 B0 .eql 39 true b (QqQ 3) R w λ c w=>
 Zr c (
 Z4 w λ d w=>
 Zcv a d R w) (
 B0 .eql 39 true b (QqQ 4) R w λ e w=>
 Zr e (
 Z4 w λ f w=>
 Zcw a f R w) (
 Bi a b R w))
def Lg a R w:=
 F0 43 a 0 R w λ b w=>
 L0 9 b R w λ c w=>
 F0 43 a 2 R w λ d w=>
 L0 9 d R w λ e w=>
 opV Pg (buildSlice 94 3 #[(0,c),(1,(.string { data := #[99,111,112,121] })),(2,e)]) (Zc R) w λ f w=>
 R (.returned f) w
def n44 c R w:=
 opV Pg (box 43 c) (Zc R) w λ a w=>
 F0 43 a 1 R w λ d w=>
 L0 39 d R w λ b w=>
 B0 .eql 39 true b (QqQ 1) R w λ e w=>
 Zr e (
 Lg a R w) (
 B0 .eql 39 true b (QqQ 2) R w λ f w=>
 Zr f (
 Z4 w λ g w=>
 Zcu a g R w) (
 zj a b R w))
def Zh4:QqX1 60 n44:=λ h=>by
 refine yD func60 ?_
 refine zs<|zr<|yv h λ h=>zm<|zn<|zk<|zs<|zs<|zr<|yv h λ h=>yv h λ h=>zn<|zk<|Zl<|zs ?_
 refine zr<|yb h λ h=>zm<|zn<|zk<|yC h (λ h=>zs<|zr<|yv h λ h=>yv h λ h=>yv h λ h=>yv h λ h=>yS h λ h=>zm<|zn<|zk<|Zg<|Zh<|Zb<|Zj rfl rfl h) λ h=>zs<|zr<|yb h λ h=>zm<|zn<|zk<|yC h (λ h=>?_) λ h=>?_
 · refine zs<|yh [2,17,18,19,20,21,22,23,24] h λ C hC h=>ye 0 hC h λ h=>?_
   refine ye 1 hC h λ h=>?_
   refine ye 2 hC h λ h=>?_
   refine ye 3 hC h λ h=>?_
   refine ye 4 hC h λ h=>?_
   refine ye 5 hC h λ h=>?_
   refine yo 6 ?_
   refine yc h Pk λ h=>zn ?_
   obtain ⟨hC,h⟩:=h
   refine ⟨hC,?_⟩
   refine yo 7 ?_
   refine yS h λ h=>zn ?_
   obtain ⟨hC,h⟩:=h
   refine ⟨hC,?_⟩
   refine yw 8 hC ?_
   exact yz<|zk<|Zg<|Zh<|Zb<|Zj rfl rfl h
 refine zs<|zr<|yb h λ h=>zm<|zn<|zk<|yC h (λ h=>?_) λ h=>?_
 · refine zs<|yh [2,27,28,29,30,31,32] h λ C hC h=>ye 0 hC h λ h=>?_
   refine ye 1 hC h λ h=>?_
   refine ye 2 hC h λ h=>?_
   refine ye 3 hC h λ h=>?_
   refine yo 4 ?_
   refine yc h Pk λ h=>zn ?_
   obtain ⟨hC,h⟩:=h
   refine ⟨hC,?_⟩
   refine yo 5 ?_
   refine yS h λ h=>zn ?_
   obtain ⟨hC,h⟩:=h
   refine ⟨hC,?_⟩
   refine yw 6 hC ?_
   exact yz<|zk<|Zg<|Zh<|Zb<|Zj rfl rfl h
 refine zs<|zr<|yb h λ h=>zm<|zn<|zk<|yC h (λ h=>?_) λ h=>?_
 · refine zs<|yh [2,35,36,37,38,39,40] h λ C hC h=>ye 0 hC h λ h=>?_
   refine ye 1 hC h λ h=>?_
   refine ye 2 hC h λ h=>?_
   refine ye 3 hC h λ h=>?_
   refine yo 4 ?_
   refine yc h Zjj λ h=>zn ?_
   obtain ⟨hC,h⟩:=h
   refine ⟨hC,?_⟩
   refine yo 5 ?_
   refine yS h λ h=>zn ?_
   obtain ⟨hC,h⟩:=h
   refine ⟨hC,?_⟩
   refine yw 6 hC ?_
   exact yz<|zk<|Zg<|Zh<|Zb<|Zj rfl rfl h
 refine zs<|zr<|yb h λ h=>zm<|zn<|zk<|yC h (λ h=>zs<|zr<|yv h λ h=>yv h λ h=>yv h λ h=>yv h λ h=>yS h λ h=>zm<|zn<|zk<|Zg<|Zh<|Zb<|Zj rfl rfl h) λ h=>zs<|zr<|yb h λ h=>zm<|zn<|zk<|yC h (λ h=>zs<|zr<|yv h λ h=>yv h λ h=>yS h λ h=>zm<|zn<|zk<|Zg<|Zh<|Zb<|Zj rfl rfl h) λ h=>?_
 refine Zk<|Zf<|zk<|zs<|zr<|yv h λ h=>yv h λ h=>yv h λ h=>yv h λ h=>yS h λ h=>zm<|zn<|zk<|zs<|zs ?_
 refine zr<|yv h λ h=>yv h λ h=>yx h λ h=>zm<|zn<|zk<|Zl<|yl2 [3,5,61,62,63,64,65,66,67,68,69,70,71,72,73,74,75,76,77,78,79,80,81] 3 61 h λ σ w next h=>zs<|zr<|yb h λ h=>zn<|zk<|zs ?_
 refine yC h (λ h=>?_) λ h=>?_
 · refine Zk<|zk<|zs<|Zl<|zs<|zr<|yv h λ h=>yv h λ h=>yv h λ h=>yu h λ h=>zn<|zk<|yh [3,65,66,67,68,69,70,71,72,73,74,75,76,77,78,79,80] h λ C hC h=>yw 0 hC ?_
   refine ye 1 hC h λ h=>?_
   refine ye 2 hC h λ h=>?_
   refine ye 5 hC h λ h=>?_
   refine ye 6 hC h λ h=>?_
   refine ye 10 hC h λ h=>?_
   refine ye 11 hC h λ h=>?_
   refine yo 3 ?_
   refine yc h Pk λ h=>zn ?_
   obtain ⟨hC,h⟩:=h
   refine ⟨hC,?_⟩
   refine ye 4 hC h λ h=>?_
   refine yo 7 ?_
   refine yc h Pk λ h=>zn ?_
   obtain ⟨hC,h⟩:=h
   refine ⟨hC,?_⟩
   refine ye 8 hC h λ h=>?_
   refine ye 9 hC h λ h=>?_
   refine yo 12 ?_
   refine yc h Pk λ h=>zn ?_
   obtain ⟨hC,h⟩:=h
   refine ⟨hC,?_⟩
   refine ye 13 hC h λ h=>?_
   refine yo 14 ?_
   refine yS h λ h=>zn ?_
   obtain ⟨hC,h⟩:=h
   refine ⟨hC,?_⟩
   refine yo 15 ?_
   refine yx h λ h=>zn ?_
   obtain ⟨hC,h⟩:=h
   refine ⟨hC,?_⟩
   refine yw 16 hC ?_
   exact yz<|Zf<|zk<|zr<|yb h λ h=>zm<|zn<|zk<|⟨rfl,h⟩
 exact ZN<|Ze<|Ze<|Zs<|zk<|zs<|zr<|zm<|zm<|zn<|zk<|Zg<|Zj rfl rfl h
def HM (w:Wd) (s:BAr):Ret Pg 91 #[.string s] w λ r w'=>r = .bool (!Yq s)∧Ext w w':=by
 refine ZkY (R:=ZE _) ?_;unfold n42
 refine zcr (UP w s) λ w1 e1=>?_
 refine Qqv ?_
 exact ⟨by trivial,e1⟩
def x7 (w0:Wd) (v:Vl) (l:List BAr) (hs:UQ w0 v l):Ret Pg 52 #[v] w0 λ r w'=>r = .bool (l.all Yq)∧Ext w0 w':=by
 refine ZkX (R:=ZE _) ?_;unfold n41
 refine zcr (UM w0 v l _ _ (λ s=>!Yq s) hs c91 λ w' v y _ e' hv=>by subst hv;exact HM w' y) λ w1 e1=>?_
 refine Qqv ?_
 refine ⟨?_,e1⟩
 congr 1
 rw [List.all_eq_not_any_not]
def Uh {base:Nat} (w:Wd) (l:List BAr) (hl:l.length≤1000) (hb:base≤w.heap.size):VO (w.alloc (.cells (l.map Value.string).toArray 9)) base (.slice (some ⟨w.heap.size,0,none⟩) l.length l.length) l:=by
 have:=(ZM.new w 9 1 YQ l (λ _=>rfl) C1).base hb
 have hf:l.flatMap YQ=l.map Value.string:=by
  clear this hl
  induction l with
  | nil=>rfl
  | cons x l ih=>rw [List.flatMap_cons,ih];rfl
 rw [hf] at this
 exact this
def y0 {w:Wd} {base:Nat} {v:Vl} {l:List BAr} (h:VO w base v l):UQ w v l:=h.slice (λ _=>rfl) (λ _ _=>rfl)
def Kl (w0:Wd) (s:BAr):Ret Pg 52 #[.slice (some ⟨w0.heap.size,0,none⟩) 1 1] (w0.alloc (.cells #[.string s] 9)) λ r w'=>r = .bool (Yq s)∧Ext w0 w':=by
 have h:=y0 (Uh w0 [s] (by simp) (Nat.le_refl _))
 refine (x7 _ _ [s] h).mono ?_
 rintro _ w' ⟨rfl,e⟩
 exact ⟨by simp,((Ext.refl w0).alloc _).trans e⟩
def LJ (w0:Wd) (s t:BAr):Ret Pg 52 #[.slice (some ⟨w0.heap.size,0,none⟩) 2 2] (w0.alloc (.cells #[.string s,.string t] 9)) λ r w'=>r = .bool (Yq s&&Yq t)∧Ext w0 w':=by
 have h:=y0 (Uh w0 [s,t] (by simp) (Nat.le_refl _))
 refine (x7 _ _ [s,t] h).mono ?_
 rintro _ w' ⟨rfl,e⟩
 exact ⟨by simp,((Ext.refl w0).alloc _).trans e⟩
def TE {D:Wd} {m c:Nat} {L:List (Int×Vl×Nat)} {k:Vl→Prop} (hM:XA D m XE L c) (s:Int):qV Pg (EC D) (lookup 106 (.map (some m)) (.int .i64 s) true) k=k (.tuple #[(Sw.look L s).getD (CG ⟨false,false,false,false,false⟩),.bool (Sw.look L s).isSome]):=UI λ w' e=>XX λ QP k=>qc (enc:=XE) underlying106 (QJ.int underlying39) U8 (hM.ext e) s
def GI (w0:Wd) (v:Vl) (r:FrD) (hr:QI w0 v r):Ret Pg 58 #[v] w0 λ q w'=>q = .bool (Yz r)∧Ext w0 w':=by
 obtain ⟨bv,tv,rfl,hB,hT,b1,b2⟩:=hr.op
 refine ZkZ (R:=ZE _) ?_;unfold n43
 rw [YO]
 have q1:=Zt w0 (Zo r bv tv).toArray 43
 have e1:Ext w0 (w0.alloc (.cells (Zo r bv tv).toArray 43)):=(Ext.refl w0).alloc _
 generalize (w0.alloc (.cells (Zo r bv tv).toArray 43))=W at q1 e1 ⊢
 obtain ⟨p1,hp1⟩:∃ p1,w0.heap.size=p1:=⟨_,rfl⟩
 rw [hp1] at q1 ⊢
 refine ZB ?_
 have eD:Ext W (drew W):=(Ext.refl W).drew
 generalize (drew W)=D at eD ⊢
 replace q1:=eD.obj q1
 have E1:=e1.trans eD
 have c1:=(Za q1).1
 unfold Zct
 refine Qqh c1 ?_
 have main:∀ (p3:Nat) (u:jt) (ok:Bool) (w:Wd),Ext w0 w→Ext D w→w.heap[p3]?=some (.cells #[.bool u.fr,.bool u.add,.bool u.value,.bool u.bytes,.bool u.table] 105 (0,0))→ok=(Xg r.kind).isSome→(ok=true→Xg r.kind=some u) →
  RX (Qq5 p1) (Qq5 p3) (.bool ok) (ZE λ q w'=>q = .bool (Yz r)∧Ext w0 w') w:=by
  intro p3 u ok w e0 eD hu hok hus
  have k1:=(Za (eD.obj q1)).1
  have k3:=(Za hu).1
  unfold RX
  cases ok with
  | false=>
   have hp:Yz r=false:=by
    unfold Yz
    cases hk:Xg r.kind with
    | none=>rfl
    | some u=>rw [hk] at hok;cases hok
   simp (disch:=try exact DI) only [↓PR,QR,simprocAttr,RW,M8,Dm,Dl,Bh]
   exact ⟨by rw [hp],e0⟩
  | true=>
   have hp:Yz r=(Wq r u&&(Yq r.to&&(decide (r.to≠IN)&&(!u.fr||Yq r.fr)))):=by unfold Yz;rw [hus rfl]
   refine Qqb k1 k3 ?_
   refine zcr (CP w _ r ⟨_,_,rfl,hB.ext e0,hT.ext e0⟩ u) λ w2 e2=>?_
   have E2:=e0.trans e2
   unfold RW
   cases hc:Wq r u with
   | false=>
    simp (disch:=try exact DI) only [↓PR,QR,simprocAttr,M8,Dm,Dl,Bh]
    exact ⟨by rw [hp,hc];rfl,E2⟩
   | true=>
   have k1:=(Za (((eD.trans e2)).obj q1)).1
   refine Qqh k1 ?_
   refine Zi (Kl w2 r.to) ?_
   rintro _ w3 ⟨rfl,e3⟩
   have E3:=E2.trans e3
   unfold M8
   cases hn:Yq r.to with
   | false=>
    simp (disch:=try exact DI) only [↓PR,QR,simprocAttr,Dm,Dl,Bh]
    exact ⟨by rw [hp,hc,hn];rfl,E3⟩
   | true=>
   have k1:=(Za ((eD.trans (e2.trans e3)).obj q1)).1
   have k3:=(Za ((e2.trans e3).obj hu)).1
   by_cases he:r.to=IN
   · have d1:decide (r.to=⟨#[101,110,100]⟩)=true:=decide_eq_true he
     simp (disch:=try exact DI) only [↓PR,QR,simprocAttr,k1,d1,Dm,Dl,Bh]
     exact ⟨by rw [hp,hc,hn];simp [he],E3⟩
   · have d1:decide (r.to=⟨#[101,110,100]⟩)=false:=decide_eq_false he
     simp (disch:=try exact DI) only [↓PR,QR,simprocAttr,k1,d1,Dm]
     unfold Dl
     cases hf:u.fr with
     | false=>
      simp (disch:=try exact DI) only [↓PR,QR,simprocAttr,k3,hf,Bh]
      exact ⟨by rw [hp,hc,hn,hf];simp [he,d1],E3⟩
     | true=>
      refine Qqm k3 hf k1 ?_
      refine Zi (Kl w3 r.fr) ?_
      rintro _ w4 ⟨rfl,e4⟩
      simp (disch:=try exact DI) only [↓PR,QR,simprocAttr,Bh]
      exact ⟨by rw [hp,hc,hn,hf];simp [he,d1],E3.trans e4⟩
 have lk:∀ (L:List (Int×Vl×Nat)),Pd L→∃ u:jt,(Sw.look L r.kind).getD (CG ⟨false,false,false,false,false⟩)=CG u∧(Sw.look L r.kind).isSome=(Xg r.kind).isSome∧((Xg r.kind).isSome=true→Xg r.kind=some u):=by
  intro L hL
  rw [hL]
  cases Xg r.kind with
  | none=>exact ⟨_,rfl,rfl,λ h=>by cases h⟩
  | some u=>exact ⟨u,rfl,rfl,λ _=>rfl⟩
 have lD:=(Qqj q1).1
 refine ⟨?_,(Ext.refl D).alloc _,?_⟩
 · refine Zi (Kg D) ?_
   rintro _ w1 ⟨m,L,c,rfl,hm,hM,hL,e2⟩
   refine Kn e2 ?_
   obtain ⟨u,h1,h2,h3⟩:=lk L hL
   unfold Zcr
   rw [TE hM,h1,h2]
   unfold CG
   refine Qqv ?_
   refine ⟨(Ext.refl w1).alloc _,(Ext.refl w1).alloc _,main _ u _ _ ((E1.trans e2).alloc _) (e2.alloc _) (Zt _ _ _) rfl h3⟩
 · have eV:Ext D (D.alloc (.cells #[.bool false,.bool false,.bool false,.bool false,.bool false] 105)):=(Ext.refl D).alloc _
   have oV:=Zt D #[.bool false,.bool false,.bool false,.bool false,.bool false] 105
   generalize (D.alloc (.cells #[.bool false,.bool false,.bool false,.bool false,.bool false] 105))=V at eV oV ⊢
   obtain ⟨p3,hp3⟩:∃ p3,D.heap.size=p3:=⟨_,rfl⟩
   rw [hp3] at oV ⊢
   refine Zi (Kg V) ?_
   rintro _ w1 ⟨m,L,c,rfl,hm,hM,hL,e2⟩
   have eVw:=eV.trans e2
   refine V6 eVw hM ?_
   obtain ⟨u,h1,h2,h3⟩:=lk L hL
   have o3:=e2.obj oV
   have o3c:=Za o3
   have Y7:∃ x,KM D m XE L c x:=⟨w1,eVw,hM⟩
   haveI:Yk (KM D m XE L c):=⟨Y7⟩
   have l3:D.heap.size≤p3:=C1
   unfold Zcs
   rw [Vm (enc:=XE) underlying106 (QJ.int underlying39) U8 Y7 r.kind]
   rw [show ((Sw.look L r.kind).getD (Value.agg #[.bool false,.bool false,.bool false,.bool false,.bool false]))=CG u from h1,h2]
   unfold CG
   refine Qqb o3c.1 o3c.2 ?_
   have eZ:Ext D (((((w1.setCell ⟨p3,0,none⟩ (.bool u.fr)).setCell ⟨p3,1,none⟩ (.bool u.add)).setCell ⟨p3,2,none⟩ (.bool u.value)).setCell ⟨p3,3,none⟩ (.bool u.bytes)).setCell ⟨p3,4,none⟩ (.bool u.table)):=((((eVw.setCell l3 _).setCell l3 _).setCell l3 _).setCell l3 _).setCell l3 _
   have oZ:=Zy (o:=4) (Zy (o:=3) (Zy (o:=2) (Zy (o:=1) (Zy (o:=0) o3 (.bool u.fr)) (.bool u.add)) (.bool u.value)) (.bool u.bytes)) (.bool u.table)
   have hM':=((((hM.setCell ⟨p3,0,none⟩ (.bool u.fr)).setCell ⟨p3,1,none⟩ (.bool u.add)).setCell ⟨p3,2,none⟩ (.bool u.value)).setCell ⟨p3,3,none⟩ (.bool u.bytes)).setCell ⟨p3,4,none⟩ (.bool u.table)
   exact ⟨⟨eZ,hM'⟩,main p3 u _ _ (E1.trans eZ) eZ (by simpa using oZ) rfl h3⟩
section
variable {P:Program} {QP:PEn} {w:Wd} {k:KV}
def XO (t:TypeId) (c:Bool) (a b:BAr) (h:a.size+b.size≤9223372036854775807):opV P (ZA .add t c (.string a) (.string b)) QP w k=k (.string (a++b)) w:=ZV (by
 have h1:¬ (((a.size+b.size:Nat):Int) > IntKind.i64.max):=by
  have:IntKind.i64.max=9223372036854775807:=rfl
  omega
 simp [ZA,binOp,Op.stringOp,h1]
 omega)
def XZ {C:WPr} [Yk C] {k:Vl→Prop} (t:TypeId) (c:Bool) (a b:BAr) (h:a.size+b.size≤9223372036854775807):qV P C (ZA .add t c (.string a) (.string b)) k=k (.string (a++b)):=Yc λ _ _ _=>XO t c a b h
end
def Xb (r:FrD):List BAr:=(Xh r).map mkB
def Kf (a b:List UInt8):mkB (a++b)=mkB a++mkB b:=by
 apply xj
 show (a++b).toArray.toList=(mkB a++mkB b).data.toList
 simp [mkB]
def KD (x:Qd):BAr:=mkB (QH x)
def TN (x:Qd):WX x.low++⟨#[45]⟩++WX x.high++⟨#[58]⟩++WX x.to=KD x:=by
 unfold KD QH
 rw [show Go.Lib.itoa x.low++45::(Go.Lib.itoa x.high++58::Go.Lib.itoa x.to)=Go.Lib.itoa x.low++([45]++(Go.Lib.itoa x.high++([58]++Go.Lib.itoa x.to))) from rfl]
 rw [Kf,Kf,Kf,Kf]
 apply xj
 simp [mkB,WX]
def QW {n:Int} (h:Xz n=true) : -9223372036854775808≤n∧n≤9223372036854775807:=by
 unfold Xz at h
 simpa only [Bool.and_eq_true,decide_eq_true_eq] using h
def PT {x:FrD} (h:inF x=true):(-9223372036854775808≤x.add∧x.add≤9223372036854775807)∧(-9223372036854775808≤x.value∧x.value≤9223372036854775807)∧∀ y∈x.table,(-9223372036854775808≤y.low∧y.low≤9223372036854775807)∧(-9223372036854775808≤y.high∧y.high≤9223372036854775807) ∧ -9223372036854775808≤y.to∧y.to≤9223372036854775807:=by
 unfold inF at h
 simp only [Bool.and_eq_true,List.all_eq_true] at h
 refine ⟨QW h.1,QW h.2.1,λ y hy=>?_⟩
 have:=h.2.2 y hy
 unfold Wg at this
 simp only [Bool.and_eq_true] at this
 exact ⟨QW this.1,QW this.2.1,QW this.2.2⟩
def H0 (w0:Wd) (hE:UN w0) (v:Vl) (x:FrD) (hx:QI w0 v x) (hin:inF x=true) (hb:x.bytes.length≤1000000000) (ht:x.table.length≤1000000):Ret Pg 60 #[v] w0 λ r w'=>VO w' w0.heap.size r (Xb x)∧Ext w0 w':=by
 obtain ⟨bv,tv,rfl,hB,hT,b1,b2⟩:=hx.op
 obtain ⟨i1,i2,i3⟩:=PT hin
 refine Zh4 (R:=ZE _) ?_;unfold n44
 rw [YO]
 have q1:=Zt w0 (Zo x bv tv).toArray 43
 have e1:Ext w0 (w0.alloc (.cells (Zo x bv tv).toArray 43)):=(Ext.refl w0).alloc _
 generalize (w0.alloc (.cells (Zo x bv tv).toArray 43))=W at q1 e1 ⊢
 obtain ⟨p1,hp1⟩:∃ p1,w0.heap.size=p1:=⟨_,rfl⟩
 rw [hp1] at q1 ⊢
 have c1:=(Za q1).1
 have fin:∀ (w:Wd) (l:List BAr),Ext w0 w→l.length≤1000→Xb x=l→(VO (w.alloc (.cells (l.map Value.string).toArray 9)) p1 (.slice (some ⟨w.heap.size,0,none⟩) l.length l.length) (Xb x)∧Ext w0 (w.alloc (.cells (l.map Value.string).toArray 9))):=by
  intro w l e hl hw
  rw [hw]
  exact ⟨Uh w l hl (by have:=e.size;omega),e.alloc _⟩
 by_cases k1:x.kind=1
 · simp (disch:=try exact DI) only [↓PR,QR,simprocAttr,c1,k1,Lg]
   exact fin W [x.to,⟨#[99,111,112,121]⟩,x.fr] e1 (by simp) (by unfold Xb Xh WS;rw [if_pos k1,k1];rfl)
 have d1:(x.kind == 1)=false:=by simpa using k1
 by_cases k2:x.kind=2
 · refine Qqb c1 k2 ?_
   refine ZB ?_
   have eD:Ext W (drew W):=(Ext.refl W).drew
   generalize (drew W)=D at eD ⊢
   have c1:=(Za (eD.obj q1)).1
   unfold Zcu
   refine Qqh c1 ?_
   have ED:=e1.trans eD
   refine zcr (KT (hE.ext ED).env.tab x.add i1.1 i1.2) λ w1 e2=>?_
   refine Qqv ?_
   refine ⟨e2,e2.alloc _,?_⟩
   exact fin w1 [x.to,⟨#[97,100,100]⟩,x.fr,WX x.add] (ED.trans e2) (by simp) (by unfold Xb Xh WS;rw [if_neg k1,if_pos k2,k2];rfl)
 have d2:(x.kind == 2)=false:=by simpa using k2
 by_cases k3:x.kind=3
 · simp (disch:=try exact DI) only [↓PR,QR,simprocAttr,c1,k3,zj]
   refine ZB ?_
   have eD:Ext W (drew W):=(Ext.refl W).drew
   generalize (drew W)=D at eD ⊢
   have c1:=(Za (eD.obj q1)).1
   unfold Zcv
   refine Qqh c1 ?_
   have ED:=e1.trans eD
   refine zcr (KT (hE.ext ED).env.tab x.value i2.1 i2.2) λ w1 e2=>?_
   refine Qqv ?_
   refine ⟨e2,e2.alloc _,?_⟩
   exact fin w1 [x.to,⟨#[118,97,108,117,101]⟩,WX x.value] (ED.trans e2) (by simp) (by unfold Xb Xh WS;rw [if_neg k1,if_neg k2,if_pos k3,k3];rfl)
 have d3:(x.kind == 3)=false:=by simpa using k3
 by_cases k4:x.kind=4
 · simp (disch:=try exact DI) only [↓PR,QR,simprocAttr,c1,k4,zj]
   refine ZB ?_
   have eD:Ext W (drew W):=(Ext.refl W).drew
   generalize (drew W)=D at eD ⊢
   have c1:=(Za (eD.obj q1)).1
   unfold Zcw
   refine Qqh c1 ?_
   have ED:=e1.trans eD
   refine zcr (IL D (hE.ext ED) _ x.bytes (hB.ext ED) hb) λ w1 e2=>?_
   refine Qqv ?_
   refine ⟨e2,e2.alloc _,?_⟩
   exact fin w1 [x.to,⟨#[98,121,116,101,115]⟩,mkB (YE x.bytes)] (ED.trans e2) (by simp) (by unfold Xb Xh WS;rw [if_neg k1,if_neg k2,if_neg k3,if_pos k4,k4];rfl)
 have d4:(x.kind == 4)=false:=by simpa using k4
 by_cases k6:x.kind=6
 · simp (disch:=try exact DI) only [↓PR,QR,simprocAttr,c1,k6,zj,Bi,RZ]
   exact fin W [x.to,⟨#[110,101,115,116,101,100]⟩,x.fr] e1 (by simp) (by unfold Xb Xh WS;rw [if_neg k1,if_neg k2,if_neg k3,if_neg k4,if_pos k6,k6];rfl)
 have d6:(x.kind == 6)=false:=by simpa using k6
 by_cases k7:x.kind=7
 · simp (disch:=try exact DI) only [↓PR,QR,simprocAttr,c1,k7,zj,Bi,R0]
   exact fin W [x.to,⟨#[102,105,116]⟩] e1 (by simp) (by unfold Xb Xh WS;rw [if_neg k1,if_neg k2,if_neg k3,if_neg k4,if_neg k6,if_pos k7,k7];rfl)
 have d7:(x.kind == 7)=false:=by simpa using k7
 obtain ⟨A,c,rfl,hlc,hcm,hlm,Xj⟩:=Zd.open hT
 have hW:Xb x=[x.to,⟨#[116,97,98,108,101]⟩,x.fr]++x.table.map KD:=by
  have hk:kwW x.kind=[116,97,98,108,101]:=by unfold kwW;rw [if_neg k1,if_neg k2,if_neg k3,if_neg k4,if_neg k6,if_neg k7]
  unfold Xb Xh WS
  rw [if_neg k1,if_neg k2,if_neg k3,if_neg k4,if_neg k6,if_neg k7,hk,List.map_cons,List.map_cons,List.map_cons,List.map_map]
  rfl
 have lq:=(Qqj q1).1
 simp (disch:=try exact DI) only [↓PR,QR,simprocAttr,c1,d1,d2,d3,d4,d6,d7,zj,Bi,RY]
 have hO:=Uh W [x.to,⟨#[116,97,98,108,101]⟩,x.fr] (by simp) e1.size
 have eV:Ext W (W.alloc (.cells (([x.to,⟨#[116,97,98,108,101]⟩,x.fr]:List BAr).map Value.string).toArray 9)):=(Ext.refl W).alloc _
 change Wy _ _ _ (W.alloc (.cells (([x.to,⟨#[116,97,98,108,101]⟩,x.fr]:List BAr).map Value.string).toArray 9))
 generalize (W.alloc (.cells (([x.to,⟨#[116,97,98,108,101]⟩,x.fr]:List BAr).map Value.string).toArray 9))=V at hO eV ⊢
 have E1:=e1.trans eV
 rw [hp1] at hO
 have lp:p1≤w0.heap.size:=C1
 refine Xu (λ a i w=>∃ k:Nat,i = .int .i64 k∧k≤x.table.length∧Ext w0 w∧VO w p1 a ([x.to,⟨#[116,97,98,108,101]⟩,x.fr]++(x.table.take k).map KD)) (λ _ i _=>x.table.length - (intOf i).toNat) ⟨0,rfl,by omega,E1,by simpa using hO⟩ ?_
 rintro a _ w ⟨k,rfl,hk,e,hO⟩
 rcases ZY hk with ⟨y,hy,_,Yo,ZT⟩ | ⟨hk,_,ZT⟩
 · obtain ⟨b,o,cs,rfl,_,hA,rfl⟩:=Xj k y hy
   obtain ⟨g,cap,rfl,hg1,hg2,_⟩:=ZM.row hO (λ _=>rfl) (by simp)
   generalize hll:([x.to,⟨#[116,97,98,108,101]⟩,x.fr]++(x.table.take k).map KD).length=n at hO ⊢
   obtain ⟨j1,j2,j3⟩:=i3 y (List.mem_of_getElem? hy)
   have YJ:([x.to,⟨#[116,97,98,108,101]⟩,x.fr]++(x.table.take k).map KD).length≤1048576:=by
    rw [List.length_append,List.length_map,List.length_take]
    simp only [List.length_cons,List.length_nil]
    omega
   refine Qqh ZT ?_
   unfold ZcB
   refine Qqh (hA.c3 e) ?_
   have oV:=Zt w (ZW y).toArray 78
   have eV:Ext w (w.alloc (.cells (ZW y).toArray 78)):=(Ext.refl w).alloc _
   have sV:(w.alloc (.cells (ZW y).toArray 78)).heap.size=w.heap.size+1:=World.size_alloc ..
   generalize (w.alloc (.cells (ZW y).toArray 78))=V1 at oV eV sV ⊢
   have n5:w.heap.size≠g:=C1
   obtain ⟨p5,hp5⟩:∃ p5,w.heap.size=p5:=⟨_,rfl⟩
   rw [hp5] at oV n5 ⊢
   refine YX g g (w1:=V1) (λ _ _ _ _=>rfl) ?_
   haveI:Yk (KB V1 g g):=⟨⟨V1,λ _ _ _ _=>rfl⟩⟩
   have hKD:KB V1 g g (drew V1):=λ _ _ _ _=>rfl
   have eD:Ext V1 (drew V1):=(Ext.refl V1).drew
   generalize (drew V1)=D at hKD eD ⊢
   have cV:=(Za oV).1
   have z1:=Q1 j1.1 j1.2
   have z2:=Q1 j2.1 j2.2
   have z3:=Q1 j3.1 j3.2
   have g45:(⟨#[45]⟩:BAr).size=1:=rfl
   have g58:(⟨#[58]⟩:BAr).size=1:=rfl
   unfold ZcA
   refine Qqh cV ?_
   have ED:=e.trans (eV.trans eD)
   refine zcr (KT (hE.ext ED).env.tab y.low j1.1 j1.2) λ w1 f1=>?_
   have K1:KB V1 g g w1:=λ b hb h1 h2=>(f1.block b (by have:=eD.size;omega)).trans (hKD b hb h1 h2)
   refine ⟨K1,?_⟩
   unfold Zcz
   rw [XZ _ _ _ _ (by rw [g45];omega)]
   have E1:=ED.trans f1
   refine zcr (KT (hE.ext E1).env.tab y.high j2.1 j2.2) λ w2 f2=>?_
   have K2:KB V1 g g w2:=λ b hb h1 h2=>(f2.block b (by have:=eD.size;have:=f1.size;omega)).trans (K1 b hb h1 h2)
   refine ⟨K2,?_⟩
   unfold Zcy
   rw [XZ _ _ _ _ (by rw [size_append,g45];omega),XZ _ _ _ _ (by rw [size_append,size_append,g45,g58];omega)]
   have E2:=E1.trans f2
   refine zcr (KT (hE.ext E2).env.tab y.to j3.1 j3.2) λ w3 f3=>?_
   have K3:KB V1 g g w3:=λ b hb h1 h2=>(f3.block b (by have:=eD.size;have:=f1.size;have:=f2.size;omega)).trans (K2 b hb h1 h2)
   refine ⟨K3,?_⟩
   unfold Zcx
   rw [XZ _ _ _ _ (by rw [size_append,size_append,size_append,g45,g58];omega)]
   have E3:=E2.trans f3
   have f03:=(eV.trans eD).trans ((f1.trans f2).trans f3)
   refine Qqv ?_
   rw [TN]
   have K4:KB V1 g g (w3.alloc (.cells #[.string (KD y)] 9)):=λ b hb h1 h2=>(((Ext.refl w3).alloc _).block b (by have:=eD.size;have:=f1.size;have:=f2.size;have:=f3.size;omega)).trans (K3 b hb h1 h2)
   have oY:(w3.alloc (.cells #[.string (KD y)] 9)).cell? ⟨w3.heap.size,0,none⟩=some (.string (KD y)):=by rw [QN];rfl
   have eY:Ext w3 (w3.alloc (.cells #[.string (KD y)] 9)):=(Ext.refl w3).alloc _
   refine ⟨K4,?_⟩
   generalize (w3.alloc (.cells #[.string (KD y)] 9))=Y at K4 oY eY ⊢
   have fY:=f03.trans eY
   refine VP (KD y) (hO.ext fY) oY (by have:=(E3.trans eY).size;omega) YJ ?_
   intro v' w' hO' hg
   have hlo:∀ b,(Value.slice (some ⟨g,0,none⟩) n cap).ownBlock=some b→p1≤b:=λ b hb=>(World.ownsRow.lt hO b hb).1
   refine ⟨λ b hb h1 h2=>(hg.block b (by have:=(eD.trans ((f1.trans f2).trans (f3.trans eY))).size;omega) (λ e=>by injection e with e;exact h1 e)).trans (K4 b hb h1 h2),?_⟩
   refine Qqv ?_
   refine ⟨⟨k+1,rfl,Yo,(E3.trans eY).grown hg λ b hb=>by have:=hlo b hb;omega,?_⟩,Yh (kd := .i64) Yo⟩
   rw [YU hy,List.map_append,← List.append_assoc]
   exact hO'
 · subst hk
   rw [List.take_length] at hO
   refine Qqh ZT ?_
   exact ⟨by rw [hW];exact hO,e⟩
def Zb2 a b c d (QV:Vl→Vl→Vl→Wd→Prop) R w:=
 opV Pg (buildSlice 94 1 #[(0,c)]) (Zc R) w λ e w=>
 opV Pg (Builtin.append_ #[94,94] 94 #[d,e]) (Zc R) w λ f w=>
 B0 .add 3 true a (QqQ 1) R w λ g w=>
 QV b f g w
def Zb3 a b c d e (QV:Vl→Vl→Vl→Wd→Prop) R w:=
 Zx d c (.bool false) λ f=>
 L0 43 a R w λ g w=>
 C0 60 #[g] R w λ h w=>
 ZU Pg 59 #[h,(.string { data := #[32] })] (Zc R) w λ i w=>
 Zb2 b f i e QV R w
def RC a b c (Zz:Vl→Vl→Vl→Wd→Prop) R w:=
 opV Pg (buildSlice 94 1 #[(0,(.string { data := #[101,110,100] }))]) (Zc R) w λ d w=>
 opV Pg (Builtin.append_ #[94,94] 94 #[c,d]) (Zc R) w λ e w=>
 B0 .add 3 true a (QqQ 1) R w λ f w=>
 Zz b e f w
def RD f c d g (QV:Vl→Vl→Vl→Wd→Prop) R w:=
 X0 58 f c R w λ h w=>
 L0 43 h R w λ i w=>
 opV Pg (alloc 43 true (.tuple #[])) (Zc R) w λ a w=>
 S0 43 a i R w λ w=>
 Zp (λ (b:Vl) (w:Wd)=>
 Zb3 a c b d g QV R w) λ e=>
 Zm d true (
 L0 43 a R w λ j w=>
 C0 58 #[j] R w λ b w=>
 e b w) (
 e undef w)
def Zb4 f g a h i (Zz:Vl→Vl→Vl→Wd→Prop) R w:=
 Zx f i (.bool false) λ j=>
 F0 60 a 0 R w λ k w=>
 L0 9 k R w λ l w=>
 opV Pg (ZA .add 9 true (.string { data := #[109,97,112,32] }) l) (Zc R) w λ m w=>
 opV Pg (ZA .add 9 true m (.string { data := #[32] })) (Zc R) w λ n w=>
 F0 60 a 1 R w λ o w=>
 L0 9 o R w λ p w=>
 B0 .add 9 false n p R w λ q w=>
 opV Pg (buildSlice 94 1 #[(0,q)]) (Zc R) w λ r w=>
 opV Pg (Builtin.append_ #[94,94] 94 #[g,r]) (Zc R) w λ s w=>
 F0 60 a 2 R w λ t w=>
 L0 58 t R w λ b w=>
 G0 58 3 b R w λ u w=>
 GC (λ c d e w QV=>
 B0 .lss 3 false e u R w λ v w=>
 Zr v (
 RD b e c d QV R w) (
 RC h c d Zz R w)) j s (QqQ 0) w
def Zb5 a R w:=
 ZU Pg 59 #[a,(.string { data := #[10] })] (Zc R) w λ b w=>
 opV Pg (ZA .add 9 true b (.string { data := #[10] })) (Zc R) w λ c w=>
 R (.returned (.tuple #[c,(QqQ 0)])) w
def Zb6 c f g d (Zz:Vl→Vl→Vl→Wd→Prop) R w:=
 X0 22 g d R w λ h w=>
 L0 60 h R w λ i w=>
 opV Pg (alloc 60 true (.tuple #[])) (Zc R) w λ a w=>
 S0 60 a i R w λ w=>
 Zp (λ (b:Vl) (w:Wd)=>
 Zb4 c f a d b Zz R w) λ e=>
 Zm c true (
 F0 60 a 0 R w λ j w=>
 L0 9 j R w λ k w=>
 F0 60 a 1 R w λ l w=>
 L0 9 l R w λ m w=>
 opV Pg (buildSlice 94 2 #[(0,k),(1,m)]) (Zc R) w λ n w=>
 C0 52 #[n] R w λ b w=>
 e b w) (
 e undef w)
def Zb7 a b d e c (Zz:Vl→Vl→Vl→Wd→Prop) R w:=
 B0 .lss 3 false c e R w λ f w=>
 Zr f (
 Zb6 a b d c Zz R w) (
 N0 a R w λ g w=>
 Zr g (
 R (.returned (.tuple #[(.string { data := #[] }),(QqQ 2)])) w) (
 Zb5 b R w))
def Zb8 a c R w:=
 F0 24 a 0 R w λ d w=>
 L0 9 d R w λ e w=>
 opV Pg (ZA .add 9 true (.string { data := #[109,97,112,112,105,110,103,32] }) e) (Zc R) w λ f w=>
 opV Pg (buildSlice 94 1 #[(0,f)]) (Zc R) w λ g w=>
 F0 24 a 1 R w λ h w=>
 L0 22 h R w λ b w=>
 G0 22 3 b R w λ i w=>
 GC (λ j k l w Zz=>
 Zb7 j k b i l Zz R w) c g (QqQ 0) w
def n20 b R w:=
 opV Pg (box 24 b) (Zc R) w λ a w=>
 F0 24 a 0 R w λ c w=>
 L0 9 c R w λ d w=>
 opV Pg (buildSlice 94 1 #[(0,d)]) (Zc R) w λ e w=>
 C0 52 #[e] R w λ f w=>
 Zb8 a f R w
def ZkE:QqX1 25 n20:=λ h=>by
 refine yD func25 ?_
 refine zs<|zr<|yv h λ h=>zm<|zm<|zn<|zk<|zs<|zr<|yv h λ h=>yv h λ h=>yS h λ h=>yc h c52 λ h=>zm<|zn ?_
 refine zk<|zs<|zr<|yv h λ h=>yv h λ h=>yb h λ h=>yS h λ h=>zm<|zn<|zk<|zs<|zs<|zr<|yv h λ h=>yv h λ h=>?_
 refine yx h λ h=>zm<|zn<|zk<|Zl<|yl3 [4,5,7,9,21,22,23,24,25,26,27,28,29,30,31,32,33,34,35,36,37,38,39,40,41,42,43,44,45,46,47,48,49,50,51,52,53,54,55,56,57,58,59,60,61,62,63,64,65,66] 4 5 21 h λ σ w next h=>zs<|zr<|yb h λ h=>zn<|zk<|zs<|yC h (λ h=>?_) λ h=>?_
 · refine Zk<|zk<|zs<|Zl<|zs<|zr<|yv h λ h=>yv h λ h=>yv h λ h=>yu h λ h=>zn<|zk<|zs<|Zq<|yG 2 ?_
   refine zm<|zm<|zn<|yg1 6 1 true [27,28,29,30,31,32] 32 h (λ _ T hT h=>?_) λ σ w h=>?_
   · refine yv h λ h=>yv h λ h=>yv h λ h=>yv h λ h=>yS h λ h=>yc h c52 λ h=>zn ?_
     exact zt hT h
   refine yG 2<|yp h λ h=>zm<|zn<|ZG<|zk<|zs<|zr<|zm<|yv h λ h=>yv h λ h=>yb h λ h=>yb h λ h=>yv h λ h=>yv h λ h=>?_
   refine yb h λ h=>yS h λ h=>yx h λ h=>zm<|zn<|zk<|zs<|zs<|zr<|yv h λ h=>yv h λ h=>yx h λ h=>zm<|zn<|zk ?_
   refine Zl<|yl3 [4,5,9,47,48,49,50,51,52,53,54,55,56,57,58,59,60,61,62] 4 5 47 h λ σ w next h=>zs<|zr<|yb h λ h=>zn<|zk<|zs<|yC h (λ h=>?_) λ h=>?_
   · refine Zk<|zk<|zs<|Zl<|zs<|zr<|yv h λ h=>yv h λ h=>yv h λ h=>yu h λ h=>zn<|zk<|zs<|Zq<|yG 2 ?_
     refine zm<|zm<|zn<|yg1 2 1 true [53,54] 54 h (λ _ T hT h=>?_) λ σ w h=>?_
     · refine yv h λ h=>yc h c58 λ h=>zn ?_
       exact zt hT h
     refine yG 2<|yp h λ h=>zm<|zn<|ZG<|zk<|zr<|zm<|yv h λ h=>yc h c60 λ h=>yc h c59 λ h=>yS h λ h=>yx h λ h=>zm<|zn ?_
     exact Zf<|zk<|zr<|yb h λ h=>zm<|zn<|zk<|⟨rfl,h⟩
   refine ZN<|Ze<|Ze<|Zs<|zk<|zr<|zm<|yS h λ h=>yx h λ h=>zm<|zn<|Zf<|zk<|zr<|yb h λ h=>?_
   exact zm<|zn<|zk<|⟨rfl,h⟩
 refine ZN<|Ze<|Ze<|Zs<|zk<|zs<|zs<|zr<|zm<|yv h λ h=>zn<|zk<|yC h (λ h=>zs<|zr<|zm<|zm<|zn<|zk<|Zg<|Zb<|Yg rfl rfl rfl h) λ h=>Zk ?_
 exact zk<|zs<|zr<|zm<|yc h c59 λ h=>yb h λ h=>zm<|zm<|zn<|zk<|Zg<|Yg rfl rfl rfl h
def PV (sep:UInt8) (xs:List (List UInt8)):Kx ⟨#[sep]⟩ (xs.map mkB)=mkB (Go.Lib.join xs [sep]):=by
 unfold Kx mkB
 rw [List.map_map]
 have:((λ x:BAr=>x.data.toList) ∘ λ l:List UInt8=>(⟨l.toArray⟩:BAr))=id:=by funext x;rfl
 rw [this,List.map_id]
def Ym (l:List UInt8):(mkB l).size=l.length:=by unfold mkB ByteArray.size;simp
def FJ {w w0:Wd} {QP:PEn} {k:KV} {base:Nat} {v:Vl} {l:List BAr} (s:BAr) (hO:VO w base v l) (hb:base≤w.heap.size) (hl:l.length≤1000000) (e:Ext w0 w) (h0:w0.heap.size≤base)
 (hk:∀ v' w',VO w' base v' (l++[s])→Ext w0 w'→base≤w'.heap.size→k v' w') :
 opV Pg (buildSlice 94 1 #[(0,.string s)]) QP w λ t w=>opV Pg (Builtin.append_ #[94,94] 94 #[v,t]) QP w k:=by
 refine Qqv ?_
 generalize hY:World.alloc w _=Y
 have eY:Ext w Y:=by rw [← hY];exact (Ext.refl w).alloc _
 have oY:Y.cell? ⟨w.heap.size,0,none⟩=some (.string s):=by rw [← hY,(Za (Zt _ _ _)).1];rfl
 clear hY
 have sY:=eY.size
 refine VP s (hO.ext eY) oY C1 C1 ?_
 intro v' w' hO' hg
 have hlo:∀ b,v.ownBlock=some b→base≤b:=λ b hb=>(World.ownsRow.lt hO b hb).1
 exact hk v' w' hO' ((e.trans eY).grown hg λ b hb=>Nat.le_trans h0 (hlo b hb)) (by have:=hg.size;omega)
section
variable {P:Program} {QP:PEn} {w:Wd} {k:KV}
def Zbh {t:TypeId} (hu:P.underlying t=some .string) (l:List UInt8) (a b:Nat) (h1:a≤b) (h2:b≤l.length):opV P (sliceAt t (.string ⟨l.toArray⟩) (some (.int .i64 (a:Int))) (some (.int .i64 (b:Int))) none) QP w k=k (.string ⟨((l.drop a).take (b - a)).toArray⟩) w:=by
 have g1:(a:Int)≤(b:Int):=C1
 have g2:(b:Int)≤((⟨l.toArray⟩:BAr).size:Int):=by simp [ByteArray.size];omega
 have g3:(⟨l.toArray⟩:BAr).extract a b=⟨((l.drop a).take (b - a)).toArray⟩:=by
  apply ByteArray.ext
  simp [List.take_drop]
 refine ZV ?_
 simp [sliceAt,run_underlying hu,Instr.slice,Instr.sliceBounds,run_sliceBound,g1,g2,g3]
def Zbf {t:TypeId} (hu:P.underlying t=some .string) (l:List UInt8) (a:Nat) (h1:a≤l.length):opV P (sliceAt t (.string ⟨l.toArray⟩) (some (.int .i64 (a:Int))) none none) QP w k=k (.string ⟨(l.drop a).toArray⟩) w:=by
 have g2:(a:Int)≤((⟨l.toArray⟩:BAr).size:Int):=by simp [ByteArray.size];omega
 have g3:(⟨l.toArray⟩:BAr).extract a (⟨l.toArray⟩:BAr).size=⟨(l.drop a).toArray⟩:=by
  apply ByteArray.ext
  simp [ByteArray.size,List.take_drop]
  rw [List.take_of_length_le C1]
 refine ZV ?_
 simp [sliceAt,run_underlying hu,Instr.slice,Instr.sliceBounds,run_sliceBound,g2,g3]
def Zbg {t:TypeId} (hu:P.underlying t=some .string) (l:List UInt8) (b:Nat) (h2:b≤l.length):opV P (sliceAt t (.string ⟨l.toArray⟩) none (some (.int .i64 (b:Int))) none) QP w k=k (.string ⟨(l.take b).toArray⟩) w:=by
 have g2:(b:Int)≤((⟨l.toArray⟩:BAr).size:Int):=by simp [ByteArray.size];omega
 have g3:(⟨l.toArray⟩:BAr).extract 0 b=⟨(l.take b).toArray⟩:=by
  apply ByteArray.ext
  simp [List.take_drop]
 refine ZV ?_
 simp [sliceAt,run_underlying hu,Instr.slice,Instr.sliceBounds,run_sliceBound,g2,g3]
def ZnS (l:List UInt8) (a:Nat) (h:a≤l.length):opV Pg (sliceAt 9 (.string (mkB l)) (some (.int .i64 (a:Int))) none none) QP w k=k (.string (mkB (l.drop a))) w:=Zbf underlying9 l a h
def T8 (l:List UInt8) (a:Nat) (h:a≤l.length):opV Pg (sliceAt 9 (.string (mkB l)) none (some (.int .i64 (a:Int))) none) QP w k=k (.string (mkB (l.take a))) w:=Zbg underlying9 l a h
def ZnT (l:List UInt8) (a b:Nat) (h:a≤b) (h2:b≤l.length):opV Pg (sliceAt 9 (.string (mkB l)) (some (.int .i64 (a:Int))) (some (.int .i64 (b:Int))) none) QP w k=k (.string (mkB ((l.drop a).take (b - a)))) w:=Zbh underlying9 l a b h h2
def Ct {t:TypeId} {m:Array (String×TypeId)} (hu:P.underlying t=some (.interface m)) (d:TypeId) (v:Vl):opV P (ZA .eql t true (.iface d v) .nilIface) QP w k=k (.bool false) w:=ZV (jL (MU 9999 hu d v))
def Cr {t:TypeId} {m:Array (String×TypeId)} (hu:P.underlying t=some (.interface m)):opV P (ZA .eql t true .nilIface .nilIface) QP w k=k (.bool true) w:=ZV (jL (MV 9999 hu))
end
def XT (l:List UInt8):Int:=match Go.Lib.atoiAll l with
 | .ok v=>v
 | Go.Lib.NumEnd.syntax=>0
 | .range=>Go.Lib.atoiSat l
def IB {l:List UInt8} {v:Int} (h:Go.Lib.atoiAll l = .ok v) : -9223372036854775808≤v∧v≤9223372036854775807:=by
 have key:∀ (o:Go.Lib.NumEnd Nat),(Go.Lib.signless o = .ok v∨Go.Lib.signed o = .ok v) → -9223372036854775808≤v∧v≤9223372036854775807:=by
  intro o ho
  match o,ho with
  | Go.Lib.NumEnd.syntax,ho=>rcases ho with h | h<;>cases h
  | .range,ho=>rcases ho with h | h<;>cases h
  | .ok u,ho=>
   rcases ho with h | h
   · unfold Go.Lib.signless at h
     simp only at h
     split at h
     · cases h
     · injection h with h;omega
   · unfold Go.Lib.signed at h
     simp only at h
     split at h
     · cases h
     · injection h with h;omega
 cases l with
 | nil=>cases h
 | cons c r=>
  by_cases h45:c=45
  · subst h45
    rw [Go.Lib.atoiAll_minus] at h
    exact key _ (.inr h)
  by_cases h43:c=43
  · subst h43
    rw [Go.Lib.atoiAll_plus] at h
    exact key _ (.inl h)
  rw [Go.Lib.atoiAll_plain c r (λ e=>h43 (UInt8.toNat.inj (by rw [e];rfl))) (λ e=>h45 (UInt8.toNat.inj (by rw [e];rfl)))] at h
  exact key _ (.inl h)
def KX (l:List UInt8):Xz (XT l)=true:=by
 unfold Xz XT
 simp only [Bool.and_eq_true,decide_eq_true_eq]
 split
 · rename_i h;exact IB h
 · omega
 · exact Go.Lib.atoiSat_bounds l
def Kb {l:List UInt8} {v:Int} (h:UT l=some v):XT l=v:=by
 unfold UT at h
 unfold XT
 match ho:Go.Lib.atoiAll l with
 | Go.Lib.NumEnd.syntax=>rw [ho] at h;cases h
 | .range=>rw [ho] at h;cases h
 | .ok u=>rw [ho] at h;injection h
def NG {w:Wd} (hE:UO w) (s:BAr) (hs:s.size≤100000):Ret Pg 125 #[.string s] w λ r w'=>Ext w w'∧∃ e,r = .tuple #[.int .i64 (XT s.data.toList),e]∧(((UT s.data.toList).isSome=true∧e = .nilIface)∨((UT s.data.toList).isSome=false∧∃ t x,e = .iface t x)):=by
 unfold XT UT
 match h:Go.Lib.atoiAll s.data.toList with
 | .ok v=>
  refine Calls.mono (zF s C1 v h w) ?_
  rintro e w' ⟨rfl,rfl | ⟨t,rfl⟩⟩
  · exact ⟨_,rfl,Ext.refl _,_,rfl,.inl ⟨rfl,rfl⟩⟩
  · exact ⟨_,rfl,Ext.of_below (Go.Lib.bytesWorld_below w 5 t),_,rfl,.inl ⟨rfl,rfl⟩⟩
 | Go.Lib.NumEnd.syntax=>
  obtain ⟨ev,h1,h2⟩:=hE.syn
  refine Calls.mono (Kt s C1 h ev w h1 h2) ?_
  rintro e w' ⟨N,rfl,_,_,hb⟩
  exact ⟨_,rfl,Ext.of_below hb,_,rfl,.inr ⟨rfl,_,_,rfl⟩⟩
 | Go.Lib.NumEnd.range=>
  obtain ⟨ev,h1,h2⟩:=hE.rng
  refine Calls.mono (KN s C1 h ev w h1 h2) ?_
  rintro e w' ⟨N,rfl,_,_,hb⟩
  exact ⟨_,rfl,Ext.of_below hb,_,rfl,.inr ⟨rfl,_,_,rfl⟩⟩
def jN {α:Type} (p:α→Bool):∀ (l:List α) (k:Nat),k≤(l.takeWhile p).length→(k < (l.takeWhile p).length∧∃ c,l[k]?=some c∧p c=true)∨(k=(l.takeWhile p).length∧(l[k]?=none∨∃ c,l[k]?=some c∧p c=false))
 | [],k,h=>by
  have:k=0:=by simpa using h
  subst this
  exact .inr ⟨rfl,.inl rfl⟩
 | a::l,k,h=>by
  cases hp:p a with
  | false=>
   rw [List.takeWhile_cons,hp] at h ⊢
   have:k=0:=by simpa using h
   subst this
   exact .inr ⟨rfl,.inr ⟨a,rfl,hp⟩⟩
  | true=>
   rw [List.takeWhile_cons,hp] at h ⊢
   simp only [if_true,List.length_cons] at h ⊢
   cases k with
   | zero=>exact .inl ⟨by omega,a,rfl,hp⟩
   | succ k=>
    rcases jN p l k C1 with ⟨h1,h2⟩ | ⟨h1,h2⟩
    · exact .inl ⟨by omega,h2⟩
    · exact .inr ⟨by omega,h2⟩
def jO {α:Type} (p:α→Bool):∀ (l:List α),l.take (l.takeWhile p).length=l.takeWhile p
 | []=>rfl
 | a::l=>by
  cases hp:p a with
  | false=>rw [List.takeWhile_cons,hp];rfl
  | true=>
   rw [List.takeWhile_cons,hp]
   simp only [if_true,List.length_cons,List.take_succ_cons,jO p l]
def qg {l:List UInt8} (h:l.head?≠some 45):ZI l=l.takeWhile QG:=by
 unfold ZI
 split
 · exact absurd rfl h
 · rfl
def TB (l:List UInt8) (k:Nat) (hk:k≤(ZI l).length):(k < (ZI l).length∧∃ c,l[k]?=some c∧(QG c=true∨(QG c=false∧k=0∧c=45)))∨(k=(ZI l).length∧(l[k]?=none∨∃ c,l[k]?=some c∧QG c=false∧¬ (k=0∧c=45))):=by
 by_cases h:l.head?=some 45
 · obtain ⟨r,rfl⟩:∃ r,l=45::r:=by
    cases l with
    | nil=>cases h
    | cons a r=>injection h with h;subst h;exact ⟨r,rfl⟩
   have hp:ZI (45::r)=45::r.takeWhile QG:=rfl
   rw [hp,List.length_cons] at hk ⊢
   cases k with
   | zero=>exact .inl ⟨by omega,45,rfl,.inr ⟨by decide,rfl,rfl⟩⟩
   | succ k=>
    rcases jN QG r k C1 with ⟨h1,c,h2,h3⟩ | ⟨h1,h2⟩
    · exact .inl ⟨by omega,c,h2,.inl h3⟩
    · refine .inr ⟨by omega,?_⟩
      rcases h2 with h2 | ⟨c,h2,h3⟩
      · exact .inl h2
      · exact .inr ⟨c,h2,h3,by omega⟩
 · rw [qg h] at hk ⊢
   rcases jN QG l k hk with ⟨h1,c,h2,h3⟩ | ⟨h1,h2⟩
   · exact .inl ⟨h1,c,h2,.inl h3⟩
   · refine .inr ⟨h1,?_⟩
     rcases h2 with h2 | ⟨c,h2,h3⟩
     · exact .inl h2
     · refine .inr ⟨c,h2,h3,?_⟩
       rintro ⟨rfl,rfl⟩
       apply h
       cases l with
       | nil=>cases h2
       | cons a r=>exact h2
def HZ (l:List UInt8):l.take (ZI l).length=ZI l:=by
 by_cases h:l.head?=some 45
 · obtain ⟨r,rfl⟩:∃ r,l=45::r:=by
    cases l with
    | nil=>cases h
    | cons a r=>injection h with h;subst h;exact ⟨r,rfl⟩
   show (45::r).take ((r.takeWhile QG).length+1)=45::r.takeWhile QG
   rw [List.take_succ_cons,jO]
 · rw [qg h];exact jO _ _
def Mj (l:List UInt8):(ZI l).length≤l.length:=by
 have:=congrArg List.length (HZ l)
 rw [List.length_take] at this
 omega
def Cn (l:List UInt8):Vl := .tuple #[.int .i64 (XT (ZI l)),.string (mkB (l.drop (ZI l).length)),.bool (UT (ZI l)).isSome]
def Vg (w0:Wd) (hE:UO w0) (l:List UInt8) (hl:l.length≤100000):Ret Pg 87 #[.string (mkB l)] w0 λ r w'=>r=Cn l∧Ext w0 w':=by
 refine ZkU (R:=ZE _) ?_;unfold n38
 refine ZL (λ i w=>∃ k:Nat,i = .int .i64 k∧k≤(ZI l).length∧w=w0) (λ i _=>(ZI l).length - (intOf i).toNat) ⟨0,rfl,by omega,rfl⟩ ?_
 rintro _ W ⟨k,rfl,hk,hW⟩
 rw [hW]
 clear hW
 have hpl:=Mj l
 have Vs:=Ym l
 have hkl':k≤l.length:=C1
 have fin:k=(ZI l).length→ZU Pg 125 #[.string (mkB (l.take k))] (Zc (ZE λ r w'=>r=Cn l∧Ext w0 w')) w0 λ t39 w=>RV (.string (mkB l)) (.int .i64 (k:Int)) t39 (ZE λ r w'=>r=Cn l∧Ext w0 w') w:=by
  intro hke
  have hz:(mkB (l.take k)).size≤100000:=by rw [Ym,List.length_take];omega
  refine Zi (NG hE (mkB (l.take k)) hz) ?_
  rintro _ w1 ⟨e1,ev,rfl,hev⟩
  have hp:(mkB (l.take k)).data.toList=ZI l:=by rw [XL,hke,HZ]
  rw [hp] at hev ⊢
  unfold RV
  refine Qqv ?_
  refine ZB ?_
  rw [Yc λ QP w' k'=>ZnS (k:=k') l k hkl']
  have hV:∀ b,b=(UT (ZI l)).isSome→Value.tuple #[.int .i64 (XT (ZI l)),.string (mkB (l.drop k)),.bool b]=Cn l:=by
   rintro b rfl
   unfold Cn
   rw [hke]
  rcases hev with ⟨h1,rfl⟩ | ⟨h1,t,x,rfl⟩
  · rw [Yc λ QP w' k'=>Cr (k:=k') underlying162]
    exact ⟨_,rfl,hV _ h1.symm,e1.drew⟩
  · rw [Yc λ QP w' k'=>Ct (k:=k') underlying162 t x]
    exact ⟨_,rfl,hV _ h1.symm,e1.drew⟩
 unfold Zcn
 rcases TB l k hk with ⟨Yo,c,hc,hd⟩ | ⟨hke,hno⟩
 · have hkl:k < l.length:=(Qqx hc).1
   have hix:(mkB l).data.toList[k]?=some c:=by rw [XL];exact hc
   have d0:decide ((k:Int) < ((mkB l).size:Int))=true:=by rw [Vs];simpa using hkl
   rcases hd with hd | ⟨hd,hk0,rfl⟩
   · have hd':=hd
     rw [QQ] at hd'
     have d1:decide ((c.toNat:Int)≥48)=true:=by simp;omega
     have d2:decide ((c.toNat:Int)≤57)=true:=by simp;omega
     simp (disch:=try exact DI) only [↓PR,QR,simprocAttr,d0,d1,d2,YP underlying9 (mkB l) .i64 k hix,qZ,qY,qX,qU,qT]
     exact ⟨⟨k+1,rfl,Yo,by trivial⟩,Yh (kd := .i64) Yo⟩
   · have d1:decide (((45:UInt8).toNat:Int)≥48)=false:=K7
     have e45:((((45:UInt8).toNat:Nat):Int) == 45)=true:=K7
     have e0:((k:Int) == 0)=true:=by rw [hk0];rfl
     have hix0:(mkB l).data.toList[0]?=some 45:=by rw [← hk0];exact hix
     simp (disch:=try exact DI) only [↓PR,QR,simprocAttr,d0,d1,e45,e0,YP underlying9 (mkB l) .i64 k hix,Ub underlying9 (mkB l) .i64 hix0,qZ,qY,qX,qU,qT]
     exact ⟨⟨k+1,rfl,Yo,by trivial⟩,Yh (kd := .i64) Yo⟩
 · have fin:=fin hke
   rcases hno with hno | ⟨c,hc,hd,hn⟩
   · have hkl:l.length≤k:=List.getElem?_eq_none_iff.1 hno
     have d0:decide ((k:Int) < ((mkB l).size:Int))=false:=by rw [Vs];simpa using hkl
     simp (disch:=try exact DI) only [↓PR,QR,simprocAttr,d0,qZ,qY,qX,qU,qT,T8 l k hkl']
     exact fin
   · have hkl:k < l.length:=(Qqx hc).1
     have hix:(mkB l).data.toList[k]?=some c:=by rw [XL];exact hc
     have d0:decide ((k:Int) < ((mkB l).size:Int))=true:=by rw [Vs];simpa using hkl
     have hd':¬ (48≤c.toNat∧c.toNat≤57):=λ h=>by rw [QQ.2 h] at hd;cases hd
     by_cases hk0:k=0
     · have hc45:¬ c=45:=λ h=>hn ⟨hk0,h⟩
       have e0:((k:Int) == 0)=true:=by rw [hk0];rfl
       have hix0:(mkB l).data.toList[0]?=some c:=by rw [← hk0];exact hix
       have e45:((c.toNat:Int) == 45)=false:=by
        rw [beq_eq_false_iff_ne]
        intro h
        exact hc45 (UInt8.toNat.inj (by rw [show (45:UInt8).toNat=45 from rfl];omega))
       by_cases h1:48≤c.toNat
       · have d1:decide ((c.toNat:Int)≥48)=true:=by simp;omega
         have d2:decide ((c.toNat:Int)≤57)=false:=by simp;omega
         simp (disch:=try exact DI) only [↓PR,QR,simprocAttr,d0,d1,d2,e0,e45,YP underlying9 (mkB l) .i64 k hix,Ub underlying9 (mkB l) .i64 hix0,qZ,qY,qX,qU,qT,T8 l k hkl']
         exact fin
       · have d1:decide ((c.toNat:Int)≥48)=false:=by simp;omega
         simp (disch:=try exact DI) only [↓PR,QR,simprocAttr,d0,d1,e0,e45,YP underlying9 (mkB l) .i64 k hix,Ub underlying9 (mkB l) .i64 hix0,qZ,qY,qX,qU,qT,T8 l k hkl']
         exact fin
     · have e0:((k:Int) == 0)=false:=by rw [beq_eq_false_iff_ne];omega
       by_cases h1:48≤c.toNat
       · have d1:decide ((c.toNat:Int)≥48)=true:=by simp;omega
         have d2:decide ((c.toNat:Int)≤57)=false:=by simp;omega
         simp (disch:=try exact DI) only [↓PR,QR,simprocAttr,d0,d1,d2,e0,YP underlying9 (mkB l) .i64 k hix,qZ,qY,qX,qU,qT,T8 l k hkl']
         exact fin
       · have d1:decide ((c.toNat:Int)≥48)=false:=by simp;omega
         simp (disch:=try exact DI) only [↓PR,QR,simprocAttr,d0,d1,e0,YP underlying9 (mkB l) .i64 k hix,qZ,qY,qX,qU,qT,T8 l k hkl']
         exact fin
def Gx (w:Wd) (l:List UInt8) (c:UInt8):Ret Pg 128 #[.string (mkB l),.string ⟨#[c]⟩] w λ r w'=>r = .tuple #[.string (mkB (Go.Lib.trimPrefix l [c])),.bool (Go.Lib.hasPrefix l [c])]∧w'=w:=by
 refine Calls.mono (JZ (mkB l) ⟨#[c]⟩ w) ?_
 rintro e w' ⟨rfl,h⟩
 exact ⟨_,rfl,rfl,h⟩
def Ce (w:Wd) (l:List UInt8) (c:UInt8) (hl:l.length≤1000000000):Ret Pg 49 #[.string (mkB l),.string ⟨#[c]⟩] w λ r w'=>r = .tuple #[.string (mkB (Go.Lib.trimSuffix l [c])),.bool (Go.Lib.hasSuffix l [c])]∧w'=w:=by
 refine Calls.mono (J1 (mkB l) ⟨#[c]⟩ w (by rw [Ym];omega)) ?_
 rintro e w' ⟨rfl,h⟩
 exact ⟨_,rfl,rfl,h⟩
def l1R (l:List UInt8):List UInt8:=l.drop (ZI l).length
def l2R (l:List UInt8):List UInt8:=Go.Lib.trimPrefix (l1R l) [45]
def l3R (l:List UInt8):List UInt8:=Go.Lib.trimPrefix (l1R (l2R l)) [58]
def BK (l:List UInt8):Qd×Bool:=(⟨XT (ZI l),XT (ZI (l2R l)),XT (ZI (l3R l))⟩,
 (((((UT (ZI l)).isSome&&Go.Lib.hasPrefix (l1R l) [45])&&(UT (ZI (l2R l))).isSome)&&Go.Lib.hasPrefix (l1R (l2R l)) [58])&&(UT (ZI (l3R l))).isSome)&&decide (l1R (l3R l)=[]))
def Zbp (l:List UInt8):Wg (BK l).1=true:=by
 unfold Wg BK
 simp only [KX,Bool.and_self]
def Eu {n:Int} {rest:List UInt8} (hr:j0 rest):l1R (Go.Lib.itoa n++rest)=rest:=by
 unfold l1R
 rw [WN n hr,List.drop_left]
def Kq (c:UInt8) (l:List UInt8):Go.Lib.hasPrefix (c::l) [c]=true∧Go.Lib.trimPrefix (c::l) [c]=l:=by
 have h:Go.Lib.hasPrefix (c::l) [c]=true:=by simp [Go.Lib.hasPrefix]
 refine ⟨h,?_⟩
 unfold Go.Lib.trimPrefix
 rw [h]
 rfl
def Zbq {x:Qd} (h:Wg x=true):BK (QH x)=(x,true):=by
 unfold Wg at h
 simp only [Bool.and_eq_true] at h
 have d1:j0 (45::(Go.Lib.itoa x.high++58::Go.Lib.itoa x.to)) := .inr ⟨45,_,rfl,by decide⟩
 have d2:j0 (58::Go.Lib.itoa x.to) := .inr ⟨58,_,rfl,by decide⟩
 have d3:j0 ([]:List UInt8) := .inl rfl
 have e1:l1R (QH x)=45::(Go.Lib.itoa x.high++58::Go.Lib.itoa x.to):=Eu d1
 have e2:l2R (QH x)=Go.Lib.itoa x.high++58::Go.Lib.itoa x.to:=by unfold l2R;rw [e1,(Kq _ _).2]
 have e3:l1R (l2R (QH x))=58::Go.Lib.itoa x.to:=by rw [e2];exact Eu d2
 have e4:l3R (QH x)=Go.Lib.itoa x.to:=by unfold l3R;rw [e3,(Kq _ _).2]
 have e5:l1R (l3R (QH x))=[]:=by rw [e4];have:=Eu (n:=x.to) d3;rwa [List.append_nil] at this
 have p1:ZI (QH x)=Go.Lib.itoa x.low:=WN _ d1
 have p2:ZI (l2R (QH x))=Go.Lib.itoa x.high:=by rw [e2];exact WN _ d2
 have p3:ZI (l3R (QH x))=Go.Lib.itoa x.to:=by rw [e4];have:=WN x.to d3;rwa [List.append_nil] at this
 have a1:=VQ h.1
 have a2:=VQ h.2.1
 have a3:=VQ h.2.2
 unfold BK
 rw [e5,e3,e1,p1,p2,p3,a1,a2,a3,Kb a1,Kb a2,Kb a3,(Kq _ _).1,(Kq _ _).1]
 rfl
def DT (l p:List UInt8):(Go.Lib.trimPrefix l p).length≤l.length:=by
 unfold Go.Lib.trimPrefix
 split
 · rw [List.length_drop];omega
 · omega
def P0 (l:List UInt8):(l1R l).length≤l.length:=by unfold l1R;rw [List.length_drop];omega
def M4 (l:List UInt8):decide (mkB l=⟨#[]⟩)=decide (l=[]):=by
 rw [decide_eq_decide]
 constructor
 · intro h
   have:=congrArg (λ b:BAr=>b.data.toList) h
   simpa [mkB] using this
 · rintro rfl;rfl
def Zbt (w0:Wd) (hE:UO w0) (l:List UInt8) (hl:l.length≤100000):Ret Pg 89 #[.string (mkB l)] w0 λ r w'=>r = .tuple #[.agg (ZW (BK l).1).toArray,.bool (BK l).2]∧Ext w0 w':=by
 have z1:=P0 l
 have z2:=DT (l1R l) [45]
 have z3:=P0 (l2R l)
 have z4:=DT (l1R (l2R l)) [58]
 change (l2R l).length≤_ at z2
 change (l3R l).length≤_ at z4
 refine Zk1 (R:=ZE _) ?_;unfold n46
 refine Qqv ?_
 have oV:=Zt w0 #[.int .i64 0,.int .i64 0,.int .i64 0] 78
 have eV:Ext w0 (w0.alloc (.cells #[.int .i64 0,.int .i64 0,.int .i64 0] 78)):=(Ext.refl w0).alloc _
 generalize (w0.alloc (.cells #[.int .i64 0,.int .i64 0,.int .i64 0] 78))=V at oV eV ⊢
 obtain ⟨p,hp⟩:∃ p,w0.heap.size=p:=⟨_,rfl⟩
 rw [hp] at oV ⊢
 have lp:w0.heap.size≤p:=C1
 refine zcr (Vg V (hE.ext eV) l hl) λ w1 e1=>?_
 have E1:=eV.trans e1
 have o1:=e1.obj oV
 unfold Cn ZcI
 change _ at *
 refine Qqb (Za o1).1 (Za o1).2 ?_
 have o2:=Zy (o:=0) o1 (.int .i64 (XT (ZI l)))
 have E2:=E1.setCell (p:=⟨p,0,none⟩) lp (.int .i64 (XT (ZI l)))
 generalize (w1.setCell ⟨p,0,none⟩ (.int .i64 (XT (ZI l))))=w2 at o2 E2 ⊢
 refine Zi (Gx w2 (l1R l) 45) ?_
 rintro _ W ⟨rfl,hW⟩
 rw [hW]
 clear hW
 unfold ZcH
 refine Qqv ?_
 refine zcr (Vg w2 (hE.ext E2) (l2R l) C1) λ w3 e3=>?_
 have E3:=E2.trans e3
 have o3:=e3.obj o2
 unfold Cn ZcG ZcF
 refine Qqb (Za o3).1 (Za o3).2 ?_
 have o4:=Zy (o:=1) o3 (.int .i64 (XT (ZI (l2R l))))
 have E4:=E3.setCell (p:=⟨p,1,none⟩) lp (.int .i64 (XT (ZI (l2R l))))
 generalize (w3.setCell ⟨p,1,none⟩ (.int .i64 (XT (ZI (l2R l)))))=w4 at o4 E4 ⊢
 refine Zi (Gx w4 (l1R (l2R l)) 58) ?_
 rintro _ W ⟨rfl,hW⟩
 rw [hW]
 clear hW
 unfold ZcE
 refine Qqv ?_
 refine zcr (Vg w4 (hE.ext E4) (l3R l) C1) λ w5 e5=>?_
 have E5:=E4.trans e5
 have o5:=e5.obj o4
 have o6:=Zy (o:=2) o5 (.int .i64 (XT (ZI (l3R l))))
 have E6:=E5.setCell (p:=⟨p,2,none⟩) lp (.int .i64 (XT (ZI (l3R l))))
 unfold Cn ZcD ZcC
 simp only [List.setIfInBounds_toArray,List.set_cons_zero,List.set_cons_succ] at o6
 refine Qqp (Za o5).1 (Za o5).2 (Za o6).1 (Za o6).2 ?_
 refine ⟨?_,(((E6.setCell (p:=⟨p,0,none⟩) lp _).setCell (p:=⟨p,1,none⟩) lp _).setCell (p:=⟨p,2,none⟩) lp _)⟩
 rw [M4]
 rfl
section
variable {P:Program} {QP:PEn} {w:Wd} {k:KV}
def Ox (t:TypeId) (c:Bool) (kd:IntKind) (a b:Int):opV P (ZA .or t c (.int kd a) (.int kd b)) QP w k=k (.int kd (kd.wrap ((BitVec.ofInt kd.bits a ||| BitVec.ofInt kd.bits b).toNat:Nat))) w:=ZV (by rw [Y8 _ _ _ _ _ _ rfl];rfl)
def Zbe (t:TypeId) (c:Bool) (kd:IntKind) (x y:Int) (h0:0≤y):opV P (ZA .shl t c (.int kd x) (.int .u64 y)) QP w k=k (.int kd (kd.wrap (x*2 ^ min y.toNat kd.bits))) w:=ZV (by
 have h0:¬ (y < 0):=C1
 simp [ZA,go_sem,Op.shift,h0])
end
def lwC (c:UInt8):Int:=IntKind.u8.wrap ((BitVec.ofInt IntKind.u8.bits (c.toNat:Int) ||| BitVec.ofInt IntKind.u8.bits 32).toNat:Nat)
def xu (w0:Wd) (c:UInt8):Ret Pg 188 #[.int .u8 c.toNat] w0 λ r w'=>r = .int .u8 (lwC c)∧w'=w0:=by
 refine Zkz (R:=ZE _) ?_;unfold n13
 refine Qqh @Ox ?_
 exact ⟨by trivial,by trivial⟩
def PO:∀ n:Fin 256,(VY (UInt8.ofNat n.1)=if 48≤n.1∧n.1≤57 then some (n.1 - 48) else if 97≤lwC (UInt8.ofNat n.1)∧lwC (UInt8.ofNat n.1)≤102 then some ((lwC (UInt8.ofNat n.1)).toNat - 87) else none):=by decide +kernel
def ZaR (c:UInt8):VY c=if 48≤c.toNat∧c.toNat≤57 then some (c.toNat - 48) else if 97≤lwC c∧lwC c≤102 then some ((lwC c).toNat - 87) else none:=by
 have:=PO ⟨c.toNat,c.toNat_lt⟩
 simpa only [UInt8.ofNat_toNat] using this
def ZaS {c:UInt8} {d:Nat} (h:VY c=some d):d < 16:=by
 unfold VY at h
 split at h
 · injection h with h;omega
 · split at h
   · injection h with h;omega
   · split at h
     · injection h with h;omega
     · cases h
def FF (o:Option Nat) (c:UInt8):Option Nat:=o.bind λ m=>(VY c).map λ d=>16*m+d
def QA (l:List UInt8):Option Nat:=l.foldl FF (some 0)
def F9 (l:List UInt8) (c:UInt8):QA (l++[c])=FF (QA l) c:=by unfold QA;simp
def F8 (l r:List UInt8) (h:QA l=none):QA (l++r)=none:=by
 unfold QA at h ⊢
 rw [List.foldl_append,h]
 clear h
 induction r with
 | nil=>rfl
 | cons c r ih=>exact ih
def DW (w0:Wd) (t:List UInt8) (r:Vl) (w':Wd):Prop:=Ext w0 w'∧((∃ m,QA t=some m∧m < 256∧r = .tuple #[.int .u64 m,.nilIface])∨(QA t=none∧r = .tuple #[.int .u64 0,.iface 239 (.int .i64 2)]))
def Ay (w0:Wd) (t:List UInt8) (h1:1≤t.length) (h2:t.length≤2):Ret Pg 155 #[.string (mkB t),.int .i64 16,.int .i64 8] w0 (DW w0 t):=by
 have Y7:decide (mkB t=⟨#[]⟩)=false:=by rw [M4];simp;rintro rfl;simp at h1
 refine n8s (R:=ZE _) ?_;unfold n8
 simp (disch:=try exact DI) only [↓PR,QR,simprocAttr,Y7,Zd4,Zd3,Zd2,Zd1,Zd0,ZdZ]
 try unfold B0
 rw [Zbe _ _ _ _ _ K7,show IntKind.u64.wrap (1*2 ^ min (IntKind.u64.wrap 8).toNat IntKind.u64.bits)=256 by decide,Ff,show IntKind.u64.wrap (256 - 1)=255 by decide]
 refine Bw underlying9 underlying40 underlying5 (mkB t) (by rw [Ym];omega) ?_
 rintro _ V eV ⟨A,c,rfl,_,_,b,rfl,Xj⟩
 rw [XL] at Xj
 rw [Ym]
 refine Qqv ?_
 refine Ur (λ x y z w'=>∃ k m:Nat,x = .bool false∧y = .int .u64 m∧z = .int .i64 k∧k≤t.length∧w'=V∧QA (t.take k)=some m∧m < 16 ^ k) (λ _ _ z _=>t.length - (intOf z).toNat) ⟨0,0,rfl,rfl,rfl,by omega,rfl,rfl,by decide⟩ ?_
 rintro _ _ _ W ⟨k,m,rfl,rfl,rfl,hk,hW,hm,hmk⟩
 rw [hW]
 clear hW
 rcases ZY hk with ⟨x,hx,_,Yo,ZT⟩ | ⟨hk,_,ZT⟩
 · have hc:=Xj k x hx
   have hk1:k≤1:=C1
   have hm16:m < 16:=by
    have:(16:Nat) ^ k≤16 ^ 1:=Nat.pow_le_pow_right K7 hk1
    omega
   have hx256:x.toNat < 256:=x.toNat_lt
   have hsn:QA (t.take (k+1))=FF (some m) x:=by rw [YU hx,F9,hm]
   have bad:VY x=none→∀ w',Ext V w'→DW w0 t (.tuple #[.int .u64 0,.iface 239 (.int .i64 2)]) w':=by
    intro hn w' e'
    refine ⟨eV.trans e',.inr ⟨?_,rfl⟩⟩
    have h0:QA (t.take (k+1))=none:=by rw [hsn];unfold FF;rw [hn];rfl
    have:=F8 _ (t.drop (k+1)) h0
    rwa [List.take_append_drop] at this
   have good:∀ (K6:KW),(∀ d,VY x=some d→d < 16→K6 (.bool false) (.int .u64 ((16*m+d:Nat):Int)) V)→∀ (d:Nat),VY x=some d→LI (.int .u64 1152921504606846976) (.bool false) (.int .u64 m) (.int .u8 d) (.int .u64 255) (.int .i64 16) K6 (ZE (DW w0 t)) V:=by
    intro K6 hK6 d hd
    have hd16:=ZaS hd
    have u1:IntKind.u8.wrap 16=16:=K7
    have u2:IntKind.u64.wrap 16=16:=K7
    have wr:∀ n:Nat,n < 65536→IntKind.u64.wrap (n:Int)=(n:Int):=λ n hn=>IntWalk.u64_in _ ⟨by omega,by omega⟩
    have f1:decide ((d:Int)≥16)=false:=by simp;omega
    have f2:decide ((m:Int)≥1152921504606846976)=false:=by simp;omega
    unfold LI
    simp (disch:=try exact DI) only [↓PR,QR,simprocAttr,u1,f1,f2,Zic,Zh8]
    have e1:IntKind.u64.wrap (IntKind.u64.wrap ((m:Int)*IntKind.u64.wrap 16)+IntKind.u64.wrap (d:Int))=((16*m+d:Nat):Int):=by
     rw [u2,wr d C1,show (m:Int)*16=((16*m:Nat):Int) by omega,wr (16*m) C1,show ((16*m:Nat):Int)+(d:Int)=((16*m+d:Nat):Int) by omega,wr _ C1]
    have e2:IntKind.u64.wrap ((m:Int)*IntKind.u64.wrap 16)=((16*m:Nat):Int):=by
     rw [u2,show (m:Int)*16=((16*m:Nat):Int) by omega,wr (16*m) C1]
    rw [e1,e2]
    have g1:decide (((16*m+d:Nat):Int) < ((16*m:Nat):Int))=false:=by simp only [decide_eq_false_iff_not];omega
    have g2:decide ((255:Int) < ((16*m+d:Nat):Int))=false:=by simp only [decide_eq_false_iff_not];omega
    rw [g1,g2]
    refine Qqv ?_
    exact hK6 d hd hd16
   have next:∀ d,VY x=some d→d < 16→(∃ k' m':Nat,Value.bool false = .bool false∧Value.int .u64 ((16*m+d:Nat):Int) = .int .u64 m'∧Value.int .i64 ((k+1:Nat):Int) = .int .i64 k'∧k'≤t.length∧V=V∧QA (t.take k')=some m'∧m' < 16 ^ k')∧t.length - (intOf (Value.int .i64 ((k+1:Nat):Int))).toNat < t.length - (intOf (Value.int IntKind.i64 k)).toNat:=by
    intro d hd hd16
    refine ⟨⟨k+1,16*m+d,rfl,rfl,rfl,Yo,rfl,by rw [hsn];unfold FF;rw [hd];rfl,?_⟩,Yh (kd := .i64) Yo⟩
    rw [Nat.pow_succ]
    omega
   have worse:∀ (d:Nat),16≤d→d < 256→VY x=none→∀ K6,LI (.int .u64 1152921504606846976) (.bool false) (.int .u64 m) (.int .u8 d) (.int .u64 255) (.int .i64 16) K6 (ZE (DW w0 t)) V:=by
    intro d hd hd2 hn K6
    have u1:IntKind.u8.wrap 16=16:=K7
    have f1:decide ((d:Int)≥16)=true:=by simp;omega
    unfold LI
    refine Qqb u1 f1 ?_
    exact bad hn V (Ext.refl _)
   have hc':V.cell? ⟨b,k*1,none⟩=some (.int .u8 x.toNat):=by rw [Nat.mul_one];exact hc
   have rest:∀ K6,(∀ d,VY x=some d→LI (.int .u64 1152921504606846976) (.bool false) (.int .u64 m) (.int .u8 d) (.int .u64 255) (.int .i64 16) K6 (ZE (DW w0 t)) V)→ZeQ (.int .u64 1152921504606846976) (.bool false) (.int .u64 m) (.int .u64 255) (.int .u8 x.toNat) (.int .i64 16) K6 (ZE (DW w0 t)) V:=by
    intro K6 good
    have hv:=ZaR x
    have lwr:0≤lwC x∧lwC x < 256:=by
     have:∀ n:Fin 256,0≤lwC (UInt8.ofNat n.1)∧lwC (UInt8.ofNat n.1) < 256:=by decide +kernel
     have:=this ⟨x.toNat,hx256⟩
     simpa only [UInt8.ofNat_toNat] using this
    unfold ZeQ
    have not_digit:¬ (48≤x.toNat∧x.toNat≤57)→ZU Pg 188 #[.int .u8 x.toNat] (Zc (ZE (DW w0 t))) V λ t123 w=>ZeP (.int .u8 x.toNat) t123 (λ t16 w=>LI (.int .u64 1152921504606846976) (.bool false) (.int .u64 m) t16 (.int .u64 255) (.int .i64 16) K6 (ZE (DW w0 t)) w) (ZE (DW w0 t)) w:=by
     intro hn
     rw [if_neg hn] at hv
     refine Zi (xu V x) ?_
     rintro _ W ⟨rfl,hW⟩
     rw [hW]
     clear hW
     unfold ZeP
     by_cases l1:97≤lwC x
     · have g1:decide (97≤lwC x)=true:=by simpa using l1
       refine Qqh g1 ?_
       refine Zi (xu V x) ?_
       rintro _ W ⟨rfl,hW⟩
       rw [hW]
       clear hW
       by_cases l2:lwC x≤122
       · have g2:decide (lwC x≤122)=true:=by simpa using l2
         simp (disch:=try exact DI) only [↓PR,QR,simprocAttr,g1,g2,Za4,Zij]
         refine Zi (xu V x) ?_
         rintro _ W ⟨rfl,hW⟩
         rw [hW]
         clear hW
         refine Qqv ?_
         have hd:IntKind.u8.wrap (IntKind.u8.wrap (lwC x - 97)+10)=(((lwC x).toNat - 87:Nat):Int):=by
          rw [IntWalk.u8_in (lwC x - 97) ⟨by omega,by omega⟩,IntWalk.u8_in _ ⟨by omega,by omega⟩]
          omega
         rw [hd]
         by_cases l3:lwC x≤102
         · rw [if_pos ⟨l1,l3⟩] at hv
           exact good _ hv
         · rw [if_neg C1] at hv
           exact worse _ C1 C1 hv _
       · have g2:decide (lwC x≤122)=false:=by simpa using l2
         rw [if_neg C1] at hv
         simp (disch:=try exact DI) only [↓PR,QR,simprocAttr,g1,g2,Za4]
         exact bad hv V (Ext.refl _)
     · have g1:decide (97≤lwC x)=false:=by simpa using l1
       rw [if_neg C1] at hv
       simp (disch:=try exact DI) only [↓PR,QR,simprocAttr,g1,Za4]
       exact bad hv V (Ext.refl _)
    by_cases a1:48≤x.toNat
    · have d1:decide (48≤(x.toNat:Int))=true:=by simp;omega
      by_cases a2:x.toNat≤57
      · have d2:decide ((x.toNat:Int)≤57)=true:=by simp;omega
        rw [if_pos ⟨a1,a2⟩] at hv
        have hd:IntKind.u8.wrap ((x.toNat:Int) - 48)=((x.toNat - 48:Nat):Int):=by rw [IntWalk.u8_in _ ⟨by omega,by omega⟩];omega
        simp (disch:=try exact DI) only [↓PR,QR,simprocAttr,d1,d2,Za5,hd]
        exact good _ hv
      · have d2:decide ((x.toNat:Int)≤57)=false:=by simp;omega
        simp (disch:=try exact DI) only [↓PR,QR,simprocAttr,d1,d2,Za5]
        exact not_digit C1
    · have d1:decide (48≤(x.toNat:Int))=false:=by simp;omega
      simp (disch:=try exact DI) only [↓PR,QR,simprocAttr,d1,Za5]
      exact not_digit C1
   unfold Tb
   refine Qqh ZT ?_
   unfold ZdY
   by_cases h95:((x.toNat:Int) == 95)=true
   · refine Qqb hc' h95 ?_
     exact rest _ (good _ next)
   · have h95:((x.toNat:Int) == 95)=false:=by simpa using h95
     refine Qqb hc' h95 ?_
     exact rest _ (good _ next)
 · subst hk
   rw [List.take_length] at hm
   refine Qqh ZT ?_
   unfold Tb
   simp (disch:=try exact DI) only [↓PR,QR,simprocAttr,ZT,ZdX,Zik]
   have:(16:Nat) ^ t.length≤16 ^ 2:=Nat.pow_le_pow_right K7 h2
   exact ⟨eV,.inl ⟨m,hm,by omega,rfl⟩⟩
def Cg (w0:Wd) (hE:UO w0) (t:List UInt8) (h1:1≤t.length) (h2:t.length≤2):Ret Pg 127 #[.string (mkB t),.int .i64 16,.int .i64 8] w0 λ r w'=>Ext w0 w'∧((∃ m,QA t=some m∧m < 256∧r = .tuple #[.int .u64 m,.nilIface])∨(QA t=none∧∃ n tt x,r = .tuple #[.int .u64 n,.iface tt x])):=by
 refine Zh1 (R:=ZE _) ?_;unfold Zh0
 refine Zi (Ay w0 t h1 h2) ?_
 rintro _ w1 ⟨e1,⟨m,hm,Yo,rfl⟩ | ⟨hn,rfl⟩⟩
 · unfold Ld
   refine Qqv ?_
   exact ⟨e1,.inl ⟨m,hm,Yo,rfl⟩⟩
 · unfold Ld
   refine Qqv ?_
   obtain ⟨ev,g1,g2⟩:=(hE.ext e1).syn
   refine Calls.mono (Any.strconv_toError_syntax (P:=Pg) (ρ:=KE) { Uz with } ⟨#[80,97,114,115,101,85,105,110,116]⟩ (mkB t) 16 8 ev w1 (by rw [Ym];omega) g1 g2) ?_
   rintro e w' ⟨N,rfl,_,_,hb⟩
   exact ⟨_,rfl,e1.trans (Ext.of_below hb),.inr ⟨hn,_,_,_,rfl⟩⟩
section
variable {P:Program} {QP:PEn} {w:Wd} {k:KV}
def JQ {t e:TypeId} {agg:Bool} {n m:Nat} {z:Vl} (hu:P.underlying t=some (.slice e)) (ht:ZF P e agg n m z) (b o len cap:Nat) (l:Nat) (hl:l≤len) (hc:len≤cap) :
 opV P (sliceAt t (.slice (some ⟨b,o,none⟩) len cap) (some (.int .i64 (l:Int))) none none) QP w k=k (.slice (some ⟨b,if cap=l then o else o+l*n,none⟩) (len - l) (cap - l)) w:=by
 refine ZV ?_
 have h2:(l:Int)≤(len:Int):=C1
 have h3:(0:Int)≤(l:Int):=C1
 by_cases h:cap=l
 · simp [sliceAt,run_underlying hu,Instr.slice,Instr.sliceBounds,run_sliceBound,h2,h3,h,Sw.run_sizeOf ht,Addr.add_lit]
 · simp [sliceAt,run_underlying hu,Instr.slice,Instr.sliceBounds,run_sliceBound,h2,h3,h,Sw.run_sizeOf ht,Addr.add_lit]
def HV {t e:TypeId} {agg:Bool} {n m:Nat} {z:Vl} (hu:P.underlying t=some (.slice e)) (ht:ZF P e agg n m z) (b o len cap:Nat) (l h:Nat) (hl:l < h) (hh:h≤cap) :
 opV P (sliceAt t (.slice (some ⟨b,o,none⟩) len cap) (some (.int .i64 (l:Int))) (some (.int .i64 (h:Int))) (some (.int .i64 (h:Int)))) QP w k=k (.slice (some ⟨b,o+l*n,none⟩) (h - l) (h - l)) w:=by
 refine ZV ?_
 have h1:(l:Int)≤(h:Int):=C1
 have h2:(h:Int)≤(cap:Int):=C1
 have h3:(0:Int)≤(l:Int):=C1
 have h4:(0:Int)≤(h:Int):=C1
 have h5:h≠l:=C1
 simp [sliceAt,run_underlying hu,Instr.slice,Instr.sliceBounds,run_sliceBound,h1,h2,h3,h4,h5,Sw.run_sizeOf ht,Addr.add_lit]
end
def Bz (b len:Nat) (k:Nat):Vl := .slice (some ⟨b,2*k,none⟩) (min 2 (len - 2*k)) (min 2 (len - 2*k))
def D0 (w:Wd) (p1 p2 b len cap:Nat):Prop:=w.heap[p1]?=some (.cells #[.slice (some ⟨b,0,none⟩) len cap] 40 (0,0))∧w.heap[p2]?=some (.cells #[.int .i64 2] 3 (0,0))
def NI (p1 p2 b len cap:Nat) (hc:len≤cap) (hl:len≤1000000000):MP Pg 154 #[Qq5 p1,Qq5 p2] ((len+1) / 2) (Bz b len) (λ w=>D0 w p1 p2 b len cap):=by
 intro yv J Jx Jp w hFP hJe hJx XY h0
 refine Zhg (t0:=yv) (t1 := Qq5 p1) (t2 := Qq5 p2) ?_
 unfold Zhf
 refine ZL (λ i w=>∃ k:Nat,i = .int .i64 ((2*k:Nat):Int)∧k≤(len+1) / 2∧J k w) (λ i _=>len+2 - (intOf i).toNat) ⟨0,rfl,by omega,h0⟩ ?_
 rintro i w' ⟨k,rfl,hk,hJ⟩
 obtain ⟨c1,c2⟩:=hFP k w' hJ
 have q1:=(Za c1).1
 have q2:=(Za c2).1
 unfold Rj
 by_cases Yo:2*k < len
 · have d0:decide (((2*k:Nat):Int) < (len:Int))=true:=by simp only [decide_eq_true_eq];omega
   refine Qqb q1 d0 ?_
   refine ZB ?_
   have eD:Ext w' (drew w'):=(Ext.refl w').drew
   have hJ2:=hJe k w' _ hJ eD
   generalize (drew w')=D at eD hJ2 ⊢
   have q1:=(Za (eD.obj c1)).1
   have q2:=(Za (eD.obj c2)).1
   unfold Ri
   have hmin:(if ((len - 2*k:Nat):Int) < 2 then ((len - 2*k:Nat):Int) else 2)=((min 2 (len - 2*k):Nat):Int):=by split<;>omega
   have hadd:IntKind.i64.wrap (((2*k:Nat):Int)+((min 2 (len - 2*k):Nat):Int))=((2*k+min 2 (len - 2*k):Nat):Int):=by rw [Z0 C1 C1];omega
   have hv:Bz b len k = .slice (some ⟨b,0+2*k*1,none⟩) (2*k+min 2 (len - 2*k) - 2*k) (2*k+min 2 (len - 2*k) - 2*k):=by
    unfold Bz
    rw [show 2*k+min 2 (len - 2*k) - 2*k=min 2 (len - 2*k) by omega,show 0+2*k*1=2*k by omega]
   refine Qqb q1 q2 ?_
   rw [Yc λ QP w k'=>JQ (k:=k') underlying40 ty5 b 0 len cap (2*k) C1 hc]
   refine Qqh q1 ?_
   rw [hmin]
   simp only [hadd]
   rw [HV underlying40 ty5 b 0 len cap (2*k) (2*k+min 2 (len - 2*k)) C1 C1,← hv]
   refine Kc (XY k C1 D hJ2) (λ ch w h=>h) ?_
   rintro v w2 (⟨rfl,h2⟩ | ⟨rfl,h2⟩)
   · obtain ⟨_,c2'⟩:=hFP (k+1) w2 h2
     have hadd2:IntKind.i64.wrap (((2*k:Nat):Int)+2)=((2*(k+1):Nat):Int):=by rw [Z0 C1 C1];omega
     unfold La
     refine Qqh (Za c2').1 ?_
     simp only [hadd2]
     refine ⟨⟨k+1,rfl,by omega,h2⟩,?_⟩
     show len+2 - (((2*(k+1):Nat):Int)).toNat < len+2 - (((2*k:Nat):Int)).toNat
     rw [Int.toNat_natCast,Int.toNat_natCast]
     omega
   · unfold La
     refine Qqv ?_
     exact .inr h2
 · have d0:decide (((2*k:Nat):Int) < (len:Int))=false:=by simp only [decide_eq_false_iff_not];omega
   have hke:k=(len+1) / 2:=C1
   refine Qqb q1 d0 ?_
   subst hke
   exact .inl hJ
abbrev Xp (c:UInt8):List Vl:=[.int .u8 c.toNat]
def qx {w:Wd} {QP:PEn} {k:KV} {base:Nat} {v:Vl} {l:List UInt8} (x:UInt8) {b:Nat} (G4:ZM w base 5 1 Xp v l) (hc:w.cell? ⟨b,0,none⟩=some (.int .u8 x.toNat)) (VX:base≤w.heap.size) (hl:l.length≤1048576)
 (hk:∀ v' w',ZM w' base 5 1 Xp v' (l++[x])→w.grownBy w' v.ownBlock→k v' w') :
 opV Pg (Builtin.append_ #[40,40] 40 #[v,.slice (some ⟨b,0,none⟩) 1 1]) QP w k:=by
 have hby:=by5
 refine W8 (l':=[x]) underlying40 ty5 rfl K7 (λ _=>rfl) (λ x _ u hu=>by simp at hu;subst hu;rfl) G4 (λ j x hx=>?_) VX ?_ (by simp;omega) hk
 · cases j with
   | zero=>
    simp at hx;subst hx
    intro j v hv
    cases j with
    | zero=>simp at hv;subst hv;simpa using hc
    | succ j=>simp at hv
   | succ j=>simp at hx
 · simp only [List.length_cons,List.length_nil]
   exact Nat.le_trans (Nat.mul_le_mul (Nat.add_le_add_right hl 1) hby) K7
def IZ {α:Type} {B base n:Nat} {T:TypeId} {enc:α→List Vl} {v:Vl} {l:List α}:ZQ B (λ w=>ZM w base T n enc v l):=⟨λ _ _ h e=>h.ext e,λ w q r r' _ h hq=>by
 refine ⟨h.1,?_⟩
 rcases h.2 with h2 | ⟨g,cap,cur,h1,h2,h3,h4⟩
 · exact .inl h2
 · refine .inr ⟨g,cap,cur,h1,h2,(World.putObj_heap_other (by rintro rfl;rw [h3] at hq;cases hq)).trans h3,h4⟩⟩
def Mb {α:Type} {w:Wd} {base n B:Nat} {T:TypeId} {enc:α→List Vl} {v:Vl} {l:List α} {o:Obj} (h:ZM w base T n enc v l) (hm:Z9 B w):ZM (w.putObj B o) base T n enc v l:=by
 refine ⟨h.1,?_⟩
 rcases h.2 with h2 | ⟨g,cap,cur,h1,h2,h3,h4⟩
 · exact .inl h2
 · refine .inr ⟨g,cap,cur,h1,h2,(World.putObj_heap_other (by rintro rfl;unfold Z9 at hm;rw [h3] at hm;cases hm)).trans h3,h4⟩
def B7 {r:List UInt8} (h:r≠[]):(∃ m,QA (r.take 2)=some m∧XQ r=(XQ (r.drop 2)).map (UInt8.ofNat m::·))∨(QA (r.take 2)=none∧XQ r=none):=by
 match r,h with
 | [a],_=>
  have hv:QA ([a].take 2)=(VY a).map λ d=>16*0+d:=rfl
  rw [hv]
  unfold XQ
  cases VY a with
  | none=>exact .inr ⟨rfl,rfl⟩
  | some d=>exact .inl ⟨_,rfl,by simp [XQ]⟩
 | a::b::l,_=>
  have hv:QA ((a::b::l).take 2)=FF (FF (some 0) a) b:=rfl
  rw [hv]
  show (∃ m,_∧XQ (a::b::l)=(XQ l).map (UInt8.ofNat m::·))∨_
  rw [XQ]
  unfold FF
  cases ha:VY a with
  | none=>exact .inr ⟨rfl,rfl⟩
  | some x=>
   cases hb:VY b with
   | none=>exact .inr ⟨rfl,rfl⟩
   | some y=>
    refine .inl ⟨16*x+y,by simp,?_⟩
    cases XQ l<;>rfl
def O4 (w0:Wd) (hE:UO w0) (s:List UInt8) (hl:s.length≤1000000):Ret Pg 88 #[.string (mkB s)] w0 λ r w'=>ZM w' w0.heap.size 5 1 Xp r (Q0 s)∧Ext w0 w':=by
 refine Zk3 (R:=ZE _) ?_;unfold n48
 refine Qqv ?_
 have o2:=Zt w0 #[.slice none 0 0] 40
 have e1:Ext w0 (w0.alloc (.cells #[.slice none 0 0] 40)):=(Ext.refl w0).alloc _
 have s1:(w0.alloc (.cells #[.slice none 0 0] 40)).heap.size=w0.heap.size+1:=World.size_alloc ..
 generalize (w0.alloc (.cells #[.slice none 0 0] 40))=w1 at o2 e1 s1 ⊢
 obtain ⟨p2,hp2⟩:∃ p2,w0.heap.size=p2:=⟨_,rfl⟩
 rw [hp2] at o2 s1 ⊢
 have l2:w0.heap.size≤p2:=C1
 refine Bw underlying9 underlying40 underlying5 (mkB s) (by rw [Ym];omega) ?_
 rintro _ w2 e2 ⟨A,c,rfl,hsc,hcm,b,rfl,Xj⟩
 rw [XL] at Xj
 rw [Ym] at hsc ⊢
 have chunk:Ret Pg 126 #[.slice (some ⟨b,0,none⟩) s.length c,.int .i64 2] w2 λ r w'=>Ext w2 w'∧∃ q1 q2,r = .func (.func 154) #[] #[Qq5 q1,Qq5 q2]∧D0 w' q1 q2 b s.length c:=by
  refine Zhe (R:=ZE _) ?_;unfold Zhd
  refine Qqv ?_
  refine ⟨ee,_,_,rfl,?_,CX (World.size_alloc ..).symm _⟩
  rw [CY (by rw [World.size_alloc];omega)]
  exact Zt _ _ _
 refine Zi chunk ?_
 rintro _ w3 ⟨e3,q1,q2,rfl,hP⟩
 have o2:=(e2.trans e3).obj o2
 have E3:=e1.trans (e2.trans e3)
 have hel3:∀ j x,s[j]?=some x→w3.cell? ⟨b,j,none⟩=some (.int .u8 x.toNat):=λ j x h=>e3.cell (Xj j x h)
 have lp2:=(Qqj o2).1
 have lq1:=(Qqj hP.1).1
 have lq2:=(Qqj hP.2).1
 have nb:s≠[]→b≠p2∧b < w3.heap.size:=by
  intro hs
  cases s with
  | nil=>exact absurd rfl hs
  | cons x s=>
   have h0:=hel3 0 x rfl
   refine ⟨?_,World.block_lt_of_cell? _ _ h0⟩
   rintro rfl
   rw [(Za o2).1] at h0
   cases h0
 have nq1:q1≠p2:=by
  rintro rfl
  have h:=hP.1
  rw [o2] at h
  cases h
 have nq2:q2≠p2:=by
  rintro rfl
  have h:=hP.2
  rw [o2] at h
  cases h
 unfold ZcQ
 let I:Nat→Wd→Prop:=λ j w=>Ext w0 w∧w3.heap.size≤w.heap.size∧D0 w q1 q2 b s.length c∧(∀ i x,s[i]?=some x→w.cell? ⟨b,i,none⟩=some (.int .u8 x.toNat))∧∃ (rv:Vl) (acc:List UInt8),w.heap[p2]?=some (.cells #[rv] 40 (0,0))∧ZM w w3.heap.size 5 1 Xp rv acc∧acc.length≤j∧XQ s=(XQ (s.drop (2*j))).map (acc++·)
 let Ix:Nat→Wd→Prop:=λ x w=>x=0∧Ext w0 w∧w.heap[p2]?=some (.cells #[.slice none 0 0] 40 (0,0))∧Q0 s=[]
 have lall:∀ {α β:Type} {Q:α→β→Prop} {F:α→β→Wd→Prop},(∀ x y,ZQ w3.heap.size (F x y))→ZQ w3.heap.size (λ w=>∀ x y,Q x y→F x y w):=λ h=>⟨λ w w' hw e x y q=>(h x y).ext _ _ (hw x y q) e,λ w l r r' hl hw hr x y q=>(h x y).loop _ _ _ _ hl (hw x y q) hr⟩
 have hLI:∀ k,ZQ w3.heap.size (I k):=λ k=>ZQ.and (ZQ.from E3.size) (ZQ.and ⟨λ _ _ h e=>Nat.le_trans h e.size,λ _ _ _ _ _ h _=>by rw [World.putObj_size];exact h⟩ (ZQ.and (ZQ.and (ZQ.has _ (by simp)) (ZQ.has _ (by simp))) (ZQ.and (lall λ x y=>ZQ.cell _) (ZQ.ex λ rv=>ZQ.ex λ acc=>ZQ.and (ZQ.has _ (by simp)) (ZQ.and IZ (ZQ.and (ZQ.const _ _) (ZQ.const _ _)))))))
 have hLX:∀ k,ZQ w3.heap.size (Ix k):=λ k=>ZQ.and (ZQ.const _ _) (ZQ.and (ZQ.from E3.size) (ZQ.and (ZQ.has _ (by simp)) (ZQ.const _ _)))
 refine ⟨_,_,(s.length+1) / 2,Bz b s.length,λ w=>D0 w q1 q2 b s.length c,I,Ix,λ _ _=>False,rfl,ZjC,NI q1 q2 b s.length c hsc C1,⟨E3,Nat.le_refl _,hP,hel3,_,[],o2,ZM.nil _ _ _ _ _,Nat.le_refl _,by rw [Nat.mul_zero,List.drop_zero];cases XQ s<;>rfl⟩,λ k w h=>h.2.2.1,hLI,hLX,?_,?_,?_,?_⟩
 · intro rec j w4 hj hI4 hrec hready
   refine ⟨hready,λ w5 hbz=>?_⟩
   have hrec5:=hrec.busied hbz
   have hI5:=(hLI j).busied hbz (Nat.le_succ _) hI4
   clear hI4 hrec hready hbz
   obtain ⟨e5,z5,hP5,hel5,rv,acc,o5,hO5,hal,hacc⟩:=hI5
   have Oc:2*j < s.length:=C1
   have Y7:s.drop (2*j)≠[]:=by
    intro h
    rw [List.drop_eq_nil_iff] at h
    omega
   have hsn:s≠[]:=by rintro rfl;simp at Oc
   obtain ⟨nb1,nb2⟩:=nb hsn
   have YJ:((s.drop (2*j)).take 2).length=min 2 (s.length - 2*j):=by rw [List.length_take,List.length_drop]
   have hB:Ga w5 (Bz b s.length j) ((s.drop (2*j)).take 2):=by
    refine ⟨_,_,by unfold Bz;rw [YJ],by omega,by omega,λ _=>⟨b,2*j,rfl,λ i x hx=>⟨[.int .u8 x.toNat],rfl,λ q v hv=>?_,rfl⟩⟩⟩
    cases q with
    | zero=>
     simp only [List.getElem?_cons_zero,Option.some.injEq] at hv
     subst hv
     rw [List.getElem?_take] at hx
     split at hx
     · rw [List.getElem?_drop] at hx
       have:=hel5 (2*j+i) x hx
       rwa [Nat.mul_one,Nat.add_zero]
     · cases hx
    | succ q=>simp at hv
   show opV Pg (Go.convert 40 9 (Bz b s.length j)) _ w5 _
   rw [Qf hB]
   refine Zi (Cg w5 (hE.ext e5) ((s.drop (2*j)).take 2) C1 C1) ?_
   rintro _ w6 ⟨e6,hR⟩
   have o6:=e6.obj o5
   have c6:=Za o6
   unfold ZcO
   rcases hR with ⟨m,hm,hm256,rfl⟩ | ⟨hn,n,tt,x,rfl⟩
   · have XY:=B7 Y7
     rw [hm] at XY
     rcases XY with ⟨m',hm',hu⟩ | ⟨hcon,_⟩
     case inr=>cases hcon
     injection hm' with hm'
     subst hm'
     have hnat:(UInt8.ofNat m).toNat=m:=by simp;omega
     have hwr:IntKind.u8.wrap (m:Int)=(((UInt8.ofNat m).toNat:Nat):Int):=by rw [hnat];exact IntWalk.u8_in _ ⟨by omega,by omega⟩
     refine Qqh c6.1 ?_
     unfold ZcN
     refine Qqh c6.1 ?_
     rw [hwr]
     have oY:(w6.alloc (.cells #[.int .u8 ((UInt8.ofNat m).toNat:Int)] 5)).cell? ⟨w6.heap.size,0,none⟩=some (.int .u8 ((UInt8.ofNat m).toNat:Int)):=by rw [QN];rfl
     have eY:Ext w6 (w6.alloc (.cells #[.int .u8 ((UInt8.ofNat m).toNat:Int)] 5)):=(Ext.refl w6).alloc _
     generalize (w6.alloc (.cells #[.int .u8 ((UInt8.ofNat m).toNat:Int)] 5))=Y at oY eY ⊢
     have e56:=e6.trans eY
     have o7:=eY.obj o6
     refine qx (UInt8.ofNat m) (hO5.ext e56) oY (by have:=e56.size;omega) C1 ?_
     intro v' w7 hO7 hg
     have hlo:∀ b,rv.ownBlock=some b→w3.heap.size≤b:=λ b hb=>(World.ownsRow.lt hO5 b hb).1
     have Vs:=e56.size
     have blk:∀ g o,g < w3.heap.size→w5.heap[g]?=some o→w7.heap[g]?=some o:=λ g o hg3 ho=>(hg.block g C1 λ e=>by have:=hlo g e.symm;omega).trans (e56.obj ho)
     have o8:=blk p2 _ lp2 o5
     have e8:Ext w0 w7:=(e5.trans e56).grown hg λ b hb=>by have:=hlo b hb;have:=E3.size;omega
     have v1:v'.oneCell'=true:=Zd.oneCell (hO7.slice (E:=λ _ cs c=>cs=Xp c) (λ _=>rfl) (λ _ _=>rfl))
     refine Qqb (Za o8).1 (Za o8).2 ?_
     have hrec7:Xk rec w3.heap.size w7:=by
      have hr:=hrec5.ext e56
      obtain ⟨hmk,st,pd,hlp⟩:=hr
      have nrow:∀ g o,Y.heap[g]?=some o→(∀ cs T f,o ≠ .cells cs T f)→rv.ownBlock≠some g:=by
       intro g o ho hn hrv
       obtain ⟨cs,T,f,hc⟩:=ZM.cellsAt (hO5.ext e56) g hrv
       rw [ho] at hc
       injection hc with hc
       exact hn _ _ _ hc
      refine ⟨(hg.block _ (Qqj hmk).1 λ e=>nrow _ _ hmk (by simp) e.symm).trans hmk,st,pd,(hg.block _ (Qqj hlp).1 λ e=>nrow _ _ hlp (by simp) e.symm).trans hlp⟩
     refine ⟨hrec7.setCell _ _,e8.setCell (p:=⟨p2,0,none⟩) l2 _,?_,⟨?_,?_⟩,?_,v',acc++[UInt8.ofNat m],Zy (o:=0) o8 v',ZM.keep hO7 λ g hgo=>?_,?_,?_⟩
     · rw [World.size_setCell]
       have:=hg.size
       omega
     · exact (YA.setCell _ p2 _ _ q1 nq1).trans (blk q1 _ lq1 hP5.1)
     · exact (YA.setCell _ p2 _ _ q2 nq2).trans (blk q2 _ lq2 hP5.2)
     · intro i x hx
       rw [Xd (.inl nb1)]
       have h5:=hel5 i x hx
       have lb:=World.block_lt_of_cell? _ _ h5
       have hb:w7.heap[b]?=w5.heap[b]?:=(hg.block b C1 λ e=>by have:=hlo b e.symm;omega).trans (e56.block b lb)
       rw [← h5]
       exact World.cell?_of_block hb
     · have:=(World.ownsRow.lt hO7 g hgo).1
       exact YA.setCell _ p2 _ _ g C1
     · simp;omega
     · rw [hacc,hu,List.drop_drop,show 2*j+2=2*(j+1) by omega,Option.map_map]
       congr 1
       funext l
       simp
   · have XY:=B7 Y7
     rw [hn] at XY
     rcases XY with ⟨m',hm',_⟩ | ⟨_,hu⟩
     · cases hm'
     refine Qqb c6.1 c6.2 ?_
     refine ⟨(hrec5.ext e6).setCell _ _,by trivial,(e5.trans e6).setCell (p:=⟨p2,0,none⟩) l2 _,Zy (o:=0) o6 _,?_⟩
     unfold Q0
     rw [hacc,hu]
     rfl
 · intro w4 hI4 hmk
   obtain ⟨e4,z4,hP4,hel4,rv,acc,o4,hO4,hal,hacc⟩:=hI4
   have c4:=Za o4
   have hn:s.drop (2*((s.length+1) / 2))=[]:=by rw [List.drop_eq_nil_iff];omega
   have hun:Q0 s=acc:=by
    unfold Q0
    rw [hacc,hn]
    simp [XQ]
   have o5:=Zy (o:=0) o4 rv
   have rv1:rv.oneCell'=true:=Zd.oneCell (hO4.slice (E:=λ _ cs c=>cs=Xp c) (λ _=>rfl) (λ _ _=>rfl))
   unfold ZcP
   refine Qqb c4.1 c4.2 ?_
   have hmk5:Z9 w3.heap.size (w4.setCell ⟨p2,0,none⟩ rv):=hmk.setCell _ _
   have hO5:ZM (w4.setCell ⟨p2,0,none⟩ rv) w3.heap.size 5 1 Xp rv acc:=ZM.keep hO4 λ g hgo=>YA.setCell _ p2 _ _ g (by have:=(World.ownsRow.lt hO4 g hgo).1;omega)
   have e5:Ext w0 (w4.setCell ⟨p2,0,none⟩ rv):=e4.setCell (p:=⟨p2,0,none⟩) l2 _
   generalize (w4.setCell ⟨p2,0,none⟩ rv)=w5 at o5 hmk5 hO5 e5 ⊢
   refine WA hmk5 ?_
   have o6:(w5.putObj w3.heap.size (.deferred none)).heap[p2]?=some (.cells #[rv] 40 (0,0)):=by
    rw [World.putObj_heap_other C1]
    exact o5
   simp (disch:=try exact DI) only [↓PR,QR,simprocAttr,WM,y1,XV,(Za o6).1]
   exact ⟨by rw [hun];exact (Mb hO5 hmk5).base (by have:=E3.size;omega),e5.putObj E3.size _⟩
 · intro x w4 hX hmk
   obtain ⟨rfl,e4,o4,hun⟩:=hX
   show Ul _ _ _ _ _
   refine WA hmk ?_
   have o6:(w4.putObj w3.heap.size (.deferred none)).heap[p2]?=some (.cells #[.slice none 0 0] 40 (0,0)):=by
    rw [World.putObj_heap_other C1]
    exact o4
   simp (disch:=try exact DI) only [↓PR,QR,simprocAttr,WM,y1,XV,(Za o6).1]
   exact ⟨by rw [hun];exact ZM.nil _ _ _ _ _,e4.putObj E3.size _⟩
 · exact λ _ _ h=>h.elim
def QX:List (List UInt8)→Option (List Qd)
 | []=>some []
 | w::l=>if (BK w).2=true then (QX l).map ((BK w).1::·) else none
def H7:∀ {l:List Qd},l.all Wg=true→QX (l.map QH)=some l
 | [],_=>rfl
 | x::l,h=>by
  rw [List.all_cons,Bool.and_eq_true] at h
  rw [List.map_cons,QX,Zbq h.1,if_pos rfl,H7 h.2]
  rfl
def H6:∀ {l:List (List UInt8)} {r:List Qd},QX l=some r→r.all Wg=true∧r.length=l.length
 | [],r,h=>by injection h with h;subst h;exact ⟨rfl,rfl⟩
 | w::l,r,h=>by
  rw [QX] at h
  split at h
  · cases ho:QX l with
    | none=>rw [ho] at h;cases h
    | some q=>
     rw [ho] at h
     injection h with h
     subst h
     obtain ⟨h1,h2⟩:=H6 ho
     exact ⟨by rw [List.all_cons,Zbp,h1];rfl,by rw [List.length_cons,List.length_cons,h2]⟩
  · cases h
def Zaw:List (List UInt8)→Option FrD
 | t::k::rest=>
  let a:=rest[0]?.getD []
  let b:=rest[1]?.getD []
  if k=kwW 1 then some ⟨mkB t,1,mkB a,0,0,[],[]⟩
  else if k=kwW 2 then some ⟨mkB t,2,mkB a,XT (ZI b),0,[],[]⟩
  else if k=kwW 3 then some ⟨mkB t,3,⟨#[]⟩,0,XT (ZI a),[],[]⟩
  else if k=kwW 4 then some ⟨mkB t,4,⟨#[]⟩,0,0,Q0 a,[]⟩
  else if k=kwW 5 then (QX rest.tail).map λ l=>⟨mkB t,5,mkB a,0,0,[],l⟩
  else if k=kwW 6 then some ⟨mkB t,6,mkB a,0,0,[],[]⟩
  else if k=kwW 7 then some ⟨mkB t,7,⟨#[]⟩,0,0,[],[]⟩
  else none
 | _=>none
def HO {n:Int} (h:Xz n=true):XT (ZI (Go.Lib.itoa n))=n:=by
 have h1:=WN n (rest:=[]) (.inl rfl)
 rw [List.append_nil] at h1
 rw [h1]
 exact Kb (VQ h)
def Zax {r:FrD} (h:okF r=true):Zaw (Xh r)=some r:=by
 unfold okF at h
 rw [Bool.and_eq_true] at h
 obtain ⟨h,hi⟩:=h
 unfold inF at hi
 simp only [Bool.and_eq_true] at hi
 obtain ⟨i1,i2,i3⟩:=hi
 obtain ⟨to,kind,fr,add,value,bytes,table⟩:=r
 unfold Yz at h
 simp only at i1 i2 i3 h
 cases hu:Xg kind with
 | none=>rw [hu] at h;cases h
 | some u=>
  rw [hu] at h
  simp only [Bool.and_eq_true] at h
  obtain ⟨c1,c2,c3,c4,c5⟩:=Ah h.1
  simp only at c1 c2 c3 c4 c5
  unfold Xg at hu
  unfold Xh WS
  simp only
  by_cases k1:kind=1
  · subst k1
    rw [if_pos rfl] at hu
    injection hu with hu
    subst hu
    rw [c2 rfl,c3 rfl,c4 rfl,c5 rfl]
    rfl
  by_cases k2:kind=2
  · subst k2
    rw [if_neg K7,if_pos rfl] at hu
    injection hu with hu
    subst hu
    rw [c3 rfl,c4 rfl,c5 rfl,if_neg K7,if_pos rfl]
    show some (FrD.mk (mkB to.data.toList) 2 (mkB fr.data.toList) (XT (ZI (Go.Lib.itoa add))) 0 [] [])=_
    rw [HO i1]
    rfl
  by_cases k3:kind=3
  · subst k3
    rw [if_neg K7,if_neg K7,if_pos rfl] at hu
    injection hu with hu
    subst hu
    rw [c1 rfl,c2 rfl,c4 rfl,c5 rfl,if_neg K7,if_neg K7,if_pos rfl]
    show some (FrD.mk (mkB to.data.toList) 3 ⟨#[]⟩ 0 (XT (ZI (Go.Lib.itoa value))) [] [])=_
    rw [HO i2]
    rfl
  by_cases k4:kind=4
  · subst k4
    rw [if_neg K7,if_neg K7,if_neg K7,if_pos rfl] at hu
    injection hu with hu
    subst hu
    rw [c1 rfl,c2 rfl,c3 rfl,c5 rfl,if_neg K7,if_neg K7,if_neg K7,if_pos rfl]
    show some (FrD.mk (mkB to.data.toList) 4 ⟨#[]⟩ 0 0 (Q0 (YE bytes)) [])=_
    rw [GR]
    rfl
  by_cases k5:kind=5
  · subst k5
    rw [if_neg K7,if_neg K7,if_neg K7,if_neg K7,if_pos rfl] at hu
    injection hu with hu
    subst hu
    rw [c2 rfl,c3 rfl,c4 rfl,if_neg K7,if_neg K7,if_neg K7,if_neg K7,if_neg K7,if_neg K7]
    show (QX (table.map QH)).map _=_
    rw [H7 i3]
    rfl
  by_cases k6:kind=6
  · subst k6
    rw [if_neg K7,if_neg K7,if_neg K7,if_neg K7,if_neg K7,if_pos rfl] at hu
    injection hu with hu
    subst hu
    rw [c2 rfl,c3 rfl,c4 rfl,c5 rfl]
    rfl
  by_cases k7:kind=7
  · subst k7
    rw [if_neg K7,if_neg K7,if_neg K7,if_neg K7,if_neg K7,if_neg K7,if_pos rfl] at hu
    injection hu with hu
    subst hu
    rw [c1 rfl,c2 rfl,c3 rfl,c4 rfl,c5 rfl]
    rfl
  · rw [if_neg k1,if_neg k2,if_neg k3,if_neg k4,if_neg k5,if_neg k6,if_neg k7] at hu
    cases hu
def Og (s:List UInt8):Xt s=NB s (Zaw (Ye 32 s)):=by
 refine AD λ r hr hs=>?_
 have hp:Yz r=true:=by unfold okF at hr;rw [Bool.and_eq_true] at hr;exact hr.1
 rw [← hs,yf hp]
 exact Zax hr
def yd (sep:UInt8):∀ xs:List (List UInt8),(Go.Lib.join xs [sep]).length≤(xs.map λ x=>x.length+1).sum
 | []=>by simp [Go.Lib.join]
 | [x]=>by rw [Go.Lib.join_one];simp
 | x::y::r=>by
  rw [Hd,List.length_append,List.length_cons]
  have:=yd sep (y::r)
  rw [List.map_cons,List.sum_cons]
  omega
def Jf {n:Int} (h:Xz n=true):(Go.Lib.itoa n).length≤21:=Go.Lib.itoa_length_le n (QW h).1 (QW h).2
def H8:∀ {l:List Qd},l.all Wg=true→((l.map QH).map λ x=>x.length+1).sum≤66*l.length
 | [],_=>by simp
 | x::l,h=>by
  rw [List.all_cons,Bool.and_eq_true] at h
  have ih:=H8 h.2
  have hx:=h.1
  unfold Wg at hx
  simp only [Bool.and_eq_true] at hx
  have h1:=Jf hx.1
  have h2:=Jf hx.2.1
  have h3:=Jf hx.2.2
  have:(QH x).length≤65:=by
   unfold QH
   simp only [List.length_append,List.length_cons]
   omega
  rw [List.map_cons,List.map_cons,List.sum_cons,List.length_cons]
  omega
def Vb (s:BAr):s.data.toList.length=s.size:=by unfold ByteArray.size;simp
def IK (l:List UInt8):(YE l).length≤2*l.length+1:=by
 unfold YE
 split
 · simp
 · rw [Je];omega
def Hh {x:FrD} (h:inF x=true):(XC x).length≤x.to.size+x.fr.size+2*x.bytes.length+66*x.table.length+60:=by
 unfold inF at h
 simp only [Bool.and_eq_true] at h
 obtain ⟨h1,h2,h3⟩:=h
 have a1:=Jf h1
 have a2:=Jf h2
 have a3:=H8 h3
 have a4:=IK x.bytes
 have kw:(kwW x.kind).length≤6:=by
  unfold kwW
  repeat' split
  all_goals decide
 have:=yd 32 (Xh x)
 unfold XC
 refine Nat.le_trans this ?_
 unfold Xh
 rw [List.map_cons,List.map_cons,List.sum_cons,List.sum_cons,Vb]
 have ht:((WS x).map λ x=>x.length+1).sum≤x.fr.size+2*x.bytes.length+66*x.table.length+30:=by
  unfold WS
  repeat' split
  all_goals simp only [List.map_cons,List.map_nil,List.sum_cons,List.sum_nil,Vb]
  all_goals omega
 omega
def ZbG (w:Wd) (base:Nat) (v:Vl) (x:FrD):Prop:=∃ bv tv,v = .agg (Zo x bv tv).toArray∧ZM w base 5 1 Xp bv x.bytes∧ZM w base 78 3 ZW tv x.table
def Vy {w:Wd} {base:Nat} {v:Vl} {l:List UInt8} (h:ZM w base 5 1 Xp v l):zJ w v l:=h.slice (λ _=>rfl) (λ _ _=>rfl)
def Qv {w:Wd} {base:Nat} {v:Vl} {l:List Qd} (h:ZM w base 78 3 ZW v l):Q9 w v l:=h.slice (λ _=>rfl) (λ _ _=>rfl)
def Uy {b:Nat}:∀ (vs:List Vl) (w:Wd) (o:Nat),(Yn w b o vs).os=w.os∧(Yn w b o vs).tape=w.tape∧(Yn w b o vs).output=w.output
 | [],_,_=>⟨rfl,rfl,rfl⟩
 | v::vs,w,o=>Uy vs (w.setCell ⟨b,o,none⟩ v) (o+1)
def UY {a w:Wd} {b:Nat} {vs:List Vl} {T:TypeId} (e:Ext a w) (ho:w.heap[b]?=some (.cells vs.toArray T (0,0))):Ext a (Yn w b 0 vs):=by
 obtain ⟨h1,h2,h3⟩:=Uy vs w 0 (b:=b)
 refine ⟨h1.trans e.os,h2.trans e.tape,h3.trans e.output,by rw [Wl];exact e.size,λ k hk=>?_⟩
 rw [← e.block k hk]
 by_cases hb:k=b
 · subst hb
   rw [X3 vs 0 ho,JW (by simp),ho]
 · exact Qw vs w 0 k hb
def IW {w:Wd} {base:Nat} {v:Vl} {x:FrD} (hO:VO w base v (Xb x)) (h1:x.table.length≤90000) (h2:(XC x).length≤1000000000):Ret Pg 59 #[v,.string ⟨#[32]⟩] w λ r w'=>r = .string (mkB (XC x))∧Ext w w':=by
 have hj:Kx ⟨#[32]⟩ (Xb x)=mkB (XC x):=by unfold Xb;rw [PV];rfl
 have hl:(Xb x).length≤90004:=by
  unfold Xb Xh WS
  rw [List.length_map]
  repeat' split
  all_goals simp only [List.length_cons,List.length_nil,List.length_map]
  all_goals omega
 have:=jW hO ⟨#[32]⟩ (by unfold Xb Xh;simp) C1 (by rw [hj,Ym];omega)
 rwa [hj] at this
def QK (w0:Wd) (s:List UInt8) (r:Vl) (w':Wd):Prop:=Ext w0 w'∧∃ v x b,r = .tuple #[v,.bool b]∧ZbG w' w0.heap.size v x∧((b=true∧Xt s=some x)∨(b=false∧Xt s=none))
section
variable {w0 w:Wd} {p2:Nat} {s:List UInt8} {x:FrD} {bv tv:Vl}
structure WU (w0 w:Wd) (p2:Nat) (x:FrD) (bv tv:Vl):Prop where
 e:Ext w0 w
 lp:w0.heap.size≤p2
 obj:w.heap[p2]?=some (.cells (Zo x bv tv).toArray 43 (0,0))
 ob:ZM w w0.heap.size 5 1 Xp bv x.bytes
 ot:ZM w w0.heap.size 78 3 ZW tv x.table
def WU.go {w':Wd} (h:WU w0 w p2 x bv tv) (e:Ext w w'):WU w0 w' p2 x bv tv:=⟨h.e.trans e,h.lp,e.obj h.obj,h.ob.ext e,h.ot.ext e⟩
def WU.ones (h:WU w0 w p2 x bv tv):bv.oneCell'=true∧tv.oneCell'=true:=⟨Zd.oneCell (Vy h.ob),Zd.oneCell (Qv h.ot)⟩
def WU.set (h:WU w0 w p2 x bv tv) (o:Nat) (u:Vl) (x':FrD) (bv' tv':Vl) (hc:(Zo x bv tv).set o u=Zo x' bv' tv') (hb:ZM w w0.heap.size 5 1 Xp bv' x'.bytes) (ht:ZM w w0.heap.size 78 3 ZW tv' x'.table):WU w0 (w.setCell ⟨p2,o,none⟩ u) p2 x' bv' tv':=by
 have key:∀ {α:Type} {n:Nat} {T:TypeId} {enc:α→List Vl} {v:Vl} {l:List α},T≠43→ZM w w0.heap.size T n enc v l→ZM (w.setCell ⟨p2,o,none⟩ u) w0.heap.size T n enc v l:=by
  intro α n T enc v l hT hO
  refine ZM.keep hO λ g hg=>YA.setCell _ p2 _ _ g ?_
  rintro rfl
  rcases hO.2 with ⟨rfl,_⟩ | ⟨g',cap,cur,rfl,_,hg',_⟩
  · cases hg
  · have:g'=g:=by simpa [Value.ownBlock] using hg
    subst this
    rw [h.obj] at hg'
    injection hg' with hg'
    injection hg' with _ hg'
    exact hT hg'.symm
 refine ⟨h.e.setCell (p:=⟨p2,o,none⟩) h.lp _,h.lp,?_,key K7 hb,key K7 ht⟩
 have:=Zy (o:=o) h.obj u
 rw [this,List.setIfInBounds_toArray,hc]
def OK (hE:UN w0) (h:WU w0 w p2 x bv tv) (hin:inF x=true) (hb:x.bytes.length≤100000) (ht:x.table.length≤90000) (h1:x.to.size≤100000) (h2:x.fr.size≤100000) (hs:Xt s=NB s (some x)) :
 Z4 w λ C2 w=>M9 (.string (mkB s)) (Qq5 p2) C2 (ZE (QK w0 s)) w:=by
 obtain ⟨o1,o2⟩:=h.ones
 refine ZB ?_
 have h:=h.go (Ext.refl w).drew
 generalize (drew w)=D at h ⊢
 have hll:=Hh hin
 unfold M9
 refine Qqh (Za h.obj).1 ?_
 refine zcr (GI D _ x ⟨_,_,rfl,Vy h.ob,Qv h.ot⟩) λ w1 e1=>?_
 refine ⟨e1,?_⟩
 have hC1:=h.go e1
 have fin:∀ (w2:Wd) (b:Bool),Ext D w2→((b=true∧Xt s=some x)∨(b=false∧Xt s=none))→opU Pg (storeAt 43 (Qq5 p2) (.agg (Zo x bv tv).toArray)) (Zc (ZE (QK w0 s))) w2 λ w=>EC D w∧qW Pg 43 (Qq5 p2) w λ r0=>ZE (QK w0 s) (.returned (.tuple #[r0,.bool b])) w:=by
  intro w2 b e2 hr
  have h2':=h.go e2
  rw [Va Vr h2'.obj (vs:=Zo x bv tv) rfl (Nat.le_refl _) (by intro v hv;simp only [List.mem_cons,List.not_mem_nil,or_false] at hv;rcases hv with rfl | rfl | rfl | rfl | rfl | rfl | rfl<;>first | rfl | assumption)]
  have e3:=UY e2 h2'.obj (vs:=Zo x bv tv)
  have h3:=h2'.go (UY (Ext.refl w2) h2'.obj (vs:=Zo x bv tv))
  generalize (Yn w2 p2 0 (Zo x bv tv))=w3 at e3 h3 ⊢
  refine ⟨e3,?_⟩
  refine Qqh (Za h3.obj).1 ?_
  exact ⟨h3.e,_,x,b,rfl,⟨bv,tv,rfl,h3.ob,h3.ot⟩,hr⟩
 have hok:okF x=Yz x:=by unfold okF;rw [hin,Bool.and_true]
 have hs':Xt s=if Yz x=true∧XC x=s then some x else none:=by rw [hs,← hok];rfl
 unfold ZcJ
 cases hp:Yz x with
 | false=>
  have hno:Xt s=none:=by rw [hs',hp,if_neg (by simp)]
  refine Qqv ?_
  exact fin w1 false e1 (.inr ⟨rfl,hno⟩)
 | true=>
  refine Qqh (Za h.obj).1 ?_
  refine Zi (H0 w1 (hE.ext hC1.e) _ x ⟨_,_,rfl,Vy hC1.ob,Qv hC1.ot⟩ hin C1 C1) ?_
  rintro u w2 ⟨hu,e2⟩
  refine ⟨e1.trans e2,?_⟩
  refine zcr (IW hu ht C1) λ w3 e3=>?_
  have E3:=e1.trans (e2.trans e3)
  refine ⟨E3,?_⟩
  have ZT:decide (mkB (XC x)=mkB s)=decide (XC x=s):=by
   rw [decide_eq_decide]
   constructor
   · intro h
     have:=congrArg (λ b:BAr=>b.data.toList) h
     simpa [mkB] using this
   · rintro rfl;rfl
  refine Qqv ?_
  rw [ZT]
  refine fin w3 _ E3 ?_
  by_cases hl:XC x=s
  · exact .inl ⟨by simp [hl],by rw [hs',if_pos ⟨hp,hl⟩]⟩
  · exact .inr ⟨by simp [hl],by rw [hs',if_neg (λ h=>hl h.2)]⟩
end
section
variable {P:Program} {QP:PEn} {w:Wd} {k:KV}
def HU {t e:TypeId} {agg:Bool} {n m:Nat} {z:Vl} (hu:P.underlying t=some (.slice e)) (ht:ZF P e agg n m z) (b o len cap:Nat) (l h:Nat) (hl:l≤h) (hh:h≤cap) :
 opV P (sliceAt t (.slice (some ⟨b,o,none⟩) len cap) (some (.int .i64 (l:Int))) (some (.int .i64 (h:Int))) (some (.int .i64 (h:Int)))) QP w k=k (.slice (some ⟨b,if h=l then o else o+l*n,none⟩) (h - l) (h - l)) w:=by
 refine ZV ?_
 have h1:(l:Int)≤(h:Int):=C1
 have h2:(h:Int)≤(cap:Int):=C1
 have h3:(0:Int)≤(l:Int):=C1
 have h4:(0:Int)≤(h:Int):=C1
 by_cases h5:h=l
 · subst h5
   simp [sliceAt,run_underlying hu,Instr.slice,Instr.sliceBounds,run_sliceBound,h2,h3,Sw.run_sizeOf ht,Addr.add_lit]
 · simp [sliceAt,run_underlying hu,Instr.slice,Instr.sliceBounds,run_sliceBound,h1,h2,h3,h4,h5,Sw.run_sizeOf ht,Addr.add_lit]
end
def Aq (l:List BAr):(l.flatMap YQ).length=l.length*1:=by
 induction l with
 | nil=>rfl
 | cons x l ih=>rw [List.flatMap_cons,List.length_append,ih,List.length_cons];simp;omega
def D5 {w:Wd} {QP:PEn} {k:KV} {g o:Nat} {u:Vl} {l l':List BAr} (hs:∀ j x,l[j]?=some x→Yr w g (o+j*1) (YQ x)) (hu:UQ w u l') (Y7:l'≠[]) (h1:l.length≤200000) (h2:l'.length≤100000)
 (hk:∀ v' w',VO w' w.heap.size v' (l++l')→Ext w w'→k v' w') :
 opV Pg (Builtin.append_ #[94,94] 94 #[.slice (some ⟨g,o,none⟩) l.length l.length,u]) QP w k:=by
 obtain ⟨⟨i,hi,Vs,hby,hzz⟩,_⟩:=ty9
 have hb4:=by9
 obtain ⟨A,c,rfl,hlc,hcm,hlm,Xj⟩:=Zd.open hu
 obtain ⟨x0,l0,rfl⟩:=List.exists_cons_of_ne_nil Y7
 obtain ⟨b,o',_,rfl,_⟩:=Xj 0 x0 rfl
 have hcells:∀ (ll:List BAr) (B O:Nat),(∀ j x,ll[j]?=some x→Yr w B (O+j*1) (YQ x))→∀ j v,(ll.flatMap YQ)[j]?=some v→w.cell? ((⟨B,O,none⟩:Addr).add j)=some v:=by
  intro ll B O hh j v hv
  have hfl:(ll.flatMap YQ).length=ll.length*1:=Aq ll
  have hj:j < ll.length:=by have:=(Qqx hv).1;omega
  obtain ⟨x,hx⟩:=getElem?_lt hj
  have hg:=Wv (enc:=YQ) (n:=1) (λ _=>rfl) ll j x 0 _ hx rfl
  rw [show j*1+0=j by omega,hv] at hg
  injection hg with hg
  rw [Addr.add_lit]
  have:=hh _ _ hx 0 _ rfl
  rw [hg,← this]
  congr 2;omega
 obtain ⟨v',w',hr,ho,hg⟩:=run_append_arg_grows (P:=Pg) w 94 94 9 i _ 1 _ underlying94 hi hzz Vs hby rfl K7 ⟨g,o,none⟩ l.length l.length (l.flatMap YQ) (Aq l) (hcells l g o hs)
  ⟨b,o',none⟩ (x0::l0).length c ((x0::l0).flatMap YQ) (Aq _) (hcells _ b o' λ j x hx=>by
   obtain ⟨b2,o2,cs,e1,_,hA,e2⟩:=Xj j x hx
   injection e1 with e1
   injection e1 with e1 e3
   subst e1 e3 e2
   exact hA) (by simp) (by simp only [maxLen];omega) (Nat.le_trans (Nat.mul_le_mul (Nat.add_le_add h1 h2) hb4) K7)
 rw [ZV hr]
 refine hk v' w' ?_ ((Ext.refl w).grown hg λ k hk=>by cases hk)
 unfold VO ZM
 rw [List.flatMap_append,List.length_append];exact ho
def Ez {a b:List UInt8}:decide (mkB a=mkB b)=decide (a=b):=by
 rw [decide_eq_decide]
 constructor
 · intro h
   have:=congrArg (λ b:BAr=>b.data.toList) h
   simpa [mkB] using this
 · rintro rfl;rfl
structure RS (w0 w:Wd) (p2 b0 n:Nat) (ws rs:List BAr) (t27:Vl) (x:FrD) (bv tv:Vl):Prop where
 bld:WU w0 w p2 x bv tv
 ws:UQ w (.slice (some ⟨b0,0,none⟩) n n) ws
 nb:b0≠p2
 rs:UQ w t27 rs
 nr:∀ A m c,t27 = .slice (some A) m c→A.block≠p2
section
variable {w0 w:Wd} {p2 b0 n:Nat} {ws rs:List BAr} {t27:Vl} {s:List UInt8} {x:FrD} {bv tv:Vl}
def RS.go {w':Wd} (h:RS w0 w p2 b0 n ws rs t27 x bv tv) (e:Ext w w'):RS w0 w' p2 b0 n ws rs t27 x bv tv:=⟨h.bld.go e,Zd.ext Gh h.ws e,h.nb,Zd.ext Gh h.rs e,h.nr⟩
def RS.set (h:RS w0 w p2 b0 n ws rs t27 x bv tv) (o:Nat) (u:Vl) (x':FrD) (bv' tv':Vl) (hc:(Zo x bv tv).set o u=Zo x' bv' tv') (hb:ZM w w0.heap.size 5 1 Xp bv' x'.bytes) (ht:ZM w w0.heap.size 78 3 ZW tv' x'.table):RS w0 (w.setCell ⟨p2,o,none⟩ u) p2 b0 n ws rs t27 x' bv' tv':=
 ⟨h.bld.set o u x' bv' tv' hc hb ht,Zd.setOther h.ws u (λ A m c e=>by injection e with e;injection e with e;subst e;exact h.nb) (λ _ _ h=>h),h.nb,Zd.setOther h.rs u h.nr (λ _ _ h=>h),h.nr⟩
def RS.first (h:RS w0 w p2 b0 n ws rs t27 x bv tv) {a:BAr} (ha:rs[0]?=some a):∃ b o m c,t27 = .slice (some ⟨b,o,none⟩) m c∧0 < m∧b≠p2∧w.cell? ⟨b,o,none⟩=some (.string a):=by
 obtain ⟨A,c,hv,_,_,_,Xj⟩:=Zd.open h.rs
 obtain ⟨b,o,cs,rfl,_,hA,rfl⟩:=Xj 0 a ha
 have:=(Qqx ha).1
 have hc:=hA.c1 (Ext.refl w)
 rw [Nat.zero_mul,Nat.add_zero] at hc
 exact ⟨b,o,_,c,hv,this,h.nr _ _ _ hv,hc⟩
def RS.second (h:RS w0 w p2 b0 n ws rs t27 x bv tv) {a:BAr} (ha:rs[1]?=some a):∃ b o m c,t27 = .slice (some ⟨b,o,none⟩) m c∧1 < m∧b≠p2∧w.cell? ⟨b,o+1,none⟩=some (.string a):=by
 obtain ⟨A,c,hv,_,_,_,Xj⟩:=Zd.open h.rs
 obtain ⟨b,o,cs,rfl,_,hA,rfl⟩:=Xj 1 a ha
 have:=(Qqx ha).1
 have hc:=hA.c1 (Ext.refl w)
 rw [Nat.one_mul] at hc
 exact ⟨b,o,_,c,hv,this,h.nr _ _ _ hv,hc⟩
def TF {K1:WPr} {R:RT} {to a:BAr} (h:RS w0 w p2 b0 n ws rs t27 ⟨to,0,ByteArray.empty,0,0,[],[]⟩ (.slice none 0 0) (.slice none 0 0)) (ha:rs[0]?=some a)
 (hK:∀ w',RS w0 w' p2 b0 n ws rs t27 ⟨to,1,a,0,0,[],[]⟩ (.slice none 0 0) (.slice none 0 0)→K1 w') :
 Z4 w λ C w=>Se (Qq5 p2) t27 C K1 R w:=by
 obtain ⟨b,o,m,c,rfl,hm,hbp,X4⟩:=h.first ha
 refine YX p2 p2 (w1:=w) (λ _ _ _ _=>rfl) ?_
 haveI:Yk (KB w p2 p2):=⟨⟨w,λ _ _ _ _=>rfl⟩⟩
 have hD:=h.go (Ext.refl w).drew
 have hKD:KB w p2 p2 (drew w):=λ _ _ _ _=>rfl
 generalize (drew w)=D at hD hKD ⊢
 have q:=Za hD.bld.obj
 unfold Se
 rw [Yc λ QP w' k'=>ZZ (k:=k') underlying94 ty9 b o m c .i64 0 K7 C1,show o+(0:Int).toNat*1=o from rfl]
 refine Qqm X4 q.1 q.2 ?_
 have h1:=hD.set 1 (.int .i64 1) ⟨to,1,ByteArray.empty,0,0,[],[]⟩ (.slice none 0 0) (.slice none 0 0) rfl hD.bld.ob hD.bld.ot
 have h2:=h1.set 2 (.string a) ⟨to,1,a,0,0,[],[]⟩ (.slice none 0 0) (.slice none 0 0) rfl h1.bld.ob h1.bld.ot
 have k1:KB w p2 p2 (D.setCell ⟨p2,1,none⟩ (.int .i64 1)):=λ b hb g1 g2=>(YA.setCell _ p2 _ _ b g1).trans (hKD b hb g1 g2)
 refine ⟨k1,Yx ?_⟩
 exact hK _ h2
def TG {K1:WPr} {R:RT} {to a:BAr} (h:RS w0 w p2 b0 n ws rs t27 ⟨to,0,ByteArray.empty,0,0,[],[]⟩ (.slice none 0 0) (.slice none 0 0)) (ha:rs[0]?=some a)
 (hK:∀ w',RS w0 w' p2 b0 n ws rs t27 ⟨to,6,a,0,0,[],[]⟩ (.slice none 0 0) (.slice none 0 0)→K1 w') :
 Z4 w λ C w=>Li (Qq5 p2) t27 C K1 R w:=by
 obtain ⟨b,o,m,c,rfl,hm,hbp,X4⟩:=h.first ha
 refine YX p2 p2 (w1:=w) (λ _ _ _ _=>rfl) ?_
 haveI:Yk (KB w p2 p2):=⟨⟨w,λ _ _ _ _=>rfl⟩⟩
 have hD:=h.go (Ext.refl w).drew
 have hKD:KB w p2 p2 (drew w):=λ _ _ _ _=>rfl
 generalize (drew w)=D at hD hKD ⊢
 have q:=Za hD.bld.obj
 unfold Li
 rw [Yc λ QP w' k'=>ZZ (k:=k') underlying94 ty9 b o m c .i64 0 K7 C1,show o+(0:Int).toNat*1=o from rfl]
 refine Qqm X4 q.1 q.2 ?_
 have h1:=hD.set 1 (.int .i64 6) ⟨to,6,ByteArray.empty,0,0,[],[]⟩ (.slice none 0 0) (.slice none 0 0) rfl hD.bld.ob hD.bld.ot
 have h2:=h1.set 2 (.string a) ⟨to,6,a,0,0,[],[]⟩ (.slice none 0 0) (.slice none 0 0) rfl h1.bld.ob h1.bld.ot
 have k1:KB w p2 p2 (D.setCell ⟨p2,1,none⟩ (.int .i64 6)):=λ b hb g1 g2=>(YA.setCell _ p2 _ _ b g1).trans (hKD b hb g1 g2)
 refine ⟨k1,Yx ?_⟩
 exact hK _ h2
def Zbm {K1:WPr} {R:RT} {to a:BAr} (h:RS w0 w p2 b0 n ws rs t27 ⟨to,0,ByteArray.empty,0,0,[],[]⟩ (.slice none 0 0) (.slice none 0 0)) (ha:rs[0]?=some a)
 (hK:∀ w',RS w0 w' p2 b0 n ws rs t27 ⟨to,2,a,0,0,[],[]⟩ (.slice none 0 0) (.slice none 0 0)→Sf (Qq5 p2) t27 K1 R w') :
 Z4 w λ C w=>Sg (Qq5 p2) t27 C K1 R w:=by
 obtain ⟨b,o,m,c,rfl,hm,hbp,X4⟩:=h.first ha
 refine YX p2 p2 (w1:=w) (λ _ _ _ _=>rfl) ?_
 haveI:Yk (KB w p2 p2):=⟨⟨w,λ _ _ _ _=>rfl⟩⟩
 have hD:=h.go (Ext.refl w).drew
 have hKD:KB w p2 p2 (drew w):=λ _ _ _ _=>rfl
 generalize (drew w)=D at hD hKD ⊢
 have q:=Za hD.bld.obj
 unfold Sg
 rw [Yc λ QP w' k'=>ZZ (k:=k') underlying94 ty9 b o m c .i64 0 K7 C1,show o+(0:Int).toNat*1=o from rfl]
 refine Qqm X4 q.1 q.2 ?_
 have h1:=hD.set 1 (.int .i64 2) ⟨to,2,ByteArray.empty,0,0,[],[]⟩ (.slice none 0 0) (.slice none 0 0) rfl hD.bld.ob hD.bld.ot
 have h2:=h1.set 2 (.string a) ⟨to,2,a,0,0,[],[]⟩ (.slice none 0 0) (.slice none 0 0) rfl h1.bld.ob h1.bld.ot
 have k1:KB w p2 p2 (D.setCell ⟨p2,1,none⟩ (.int .i64 2)):=λ b hb g1 g2=>(YA.setCell _ p2 _ _ b g1).trans (hKD b hb g1 g2)
 refine ⟨k1,Yx ?_⟩
 exact hK _ h2
def Zbn {K1:WPr} {R:RT} {to a:BAr} (h:RS w0 w p2 b0 n ws rs t27 ⟨to,0,ByteArray.empty,0,0,[],[]⟩ (.slice none 0 0) (.slice none 0 0)) (ha:rs[0]?=some a)
 (hK:∀ w',RS w0 w' p2 b0 n ws rs t27 ⟨to,5,a,0,0,[],[]⟩ (.slice none 0 0) (.slice none 0 0)→EK (Qq5 p2) (.slice (some ⟨b0,0,none⟩) n n) K1 R w') :
 Z4 w λ C w=>Lh (Qq5 p2) (.slice (some ⟨b0,0,none⟩) n n) t27 C K1 R w:=by
 obtain ⟨b,o,m,c,rfl,hm,hbp,X4⟩:=h.first ha
 refine YX p2 p2 (w1:=w) (λ _ _ _ _=>rfl) ?_
 haveI:Yk (KB w p2 p2):=⟨⟨w,λ _ _ _ _=>rfl⟩⟩
 have hD:=h.go (Ext.refl w).drew
 have hKD:KB w p2 p2 (drew w):=λ _ _ _ _=>rfl
 generalize (drew w)=D at hD hKD ⊢
 have q:=Za hD.bld.obj
 unfold Lh
 rw [Yc λ QP w' k'=>ZZ (k:=k') underlying94 ty9 b o m c .i64 0 K7 C1,show o+(0:Int).toNat*1=o from rfl]
 refine Qqm X4 q.1 q.2 ?_
 have h1:=hD.set 1 (.int .i64 5) ⟨to,5,ByteArray.empty,0,0,[],[]⟩ (.slice none 0 0) (.slice none 0 0) rfl hD.bld.ob hD.bld.ot
 have h2:=h1.set 2 (.string a) ⟨to,5,a,0,0,[],[]⟩ (.slice none 0 0) (.slice none 0 0) rfl h1.bld.ob h1.bld.ot
 have k1:KB w p2 p2 (D.setCell ⟨p2,1,none⟩ (.int .i64 5)):=λ b hb g1 g2=>(YA.setCell _ p2 _ _ b g1).trans (hKD b hb g1 g2)
 refine ⟨k1,Yx ?_⟩
 exact hK _ h2
end
def j9 {w:Wd} {QP:PEn} {k:KV} {base:Nat} {v:Vl} {l:List Qd} (x:Qd) {b:Nat} (G4:ZM w base 78 3 ZW v l) (hc:w.heap[b]?=some (.cells (ZW x).toArray 78 (0,0))) (VX:base≤w.heap.size) (hl:l.length≤1048576)
 (hk:∀ v' w',ZM w' base 78 3 ZW v' (l++[x])→w.grownBy w' v.ownBlock→k v' w') :
 opV Pg (Builtin.append_ #[41,41] 41 #[v,.slice (some ⟨b,0,none⟩) 1 1]) QP w k:=by
 have hby:=Zjh
 refine W8 (l':=[x]) underlying41 Fv rfl K7 (λ _=>rfl) (λ x _ u hu=>by simp at hu;rcases hu with rfl | rfl | rfl<;>rfl) G4 (λ j y hy=>?_) VX ?_ (by simp;omega) hk
 · cases j with
   | zero=>
    simp at hy;subst hy
    intro j v hv
    rw [(Za hc).1]
    simpa using hv
   | succ j=>simp at hy
 · simp only [List.length_cons,List.length_nil]
   exact Nat.le_trans (Nat.mul_le_mul (Nat.add_le_add_right hl 1) hby) K7
section
variable {w0 w:Wd} {p2 b0 n:Nat} {ws rs:List BAr} {t27:Vl} {s:List UInt8} {x:FrD} {bv tv:Vl}
def qj (h:WU w0 w p2 x bv tv) (hn:Xt s=none):Sh (Qq5 p2) (ZE (QK w0 s)) w:=by
 obtain ⟨o1,o2⟩:=h.ones
 unfold Sh
 refine Qqh (Za h.obj).1 ?_
 rw [Va Vr h.obj (vs:=Zo x bv tv) rfl (Nat.le_refl _) (by intro v hv;simp only [List.mem_cons,List.not_mem_nil,or_false] at hv;rcases hv with rfl | rfl | rfl | rfl | rfl | rfl | rfl<;>first | rfl | assumption)]
 have h3:=h.go (UY (Ext.refl w) h.obj (vs:=Zo x bv tv))
 generalize (Yn w p2 0 (Zo x bv tv))=w3 at h3 ⊢
 refine Qqh (Za h3.obj).1 ?_
 exact ⟨h3.e,_,x,false,rfl,⟨bv,tv,rfl,h3.ob,h3.ot⟩,.inr ⟨rfl,hn⟩⟩
def Mt {l:List (List UInt8)} {u:List UInt8} {r:List Qd} (h:QX l=some r):QX (l++[u])=if (BK u).2=true then some (r++[(BK u).1]) else none:=by
 induction l generalizing r with
 | nil=>
  injection h with h
  subst h
  rw [List.nil_append,QX]
  split
  · rfl
  · rfl
 | cons y l ih=>
  rw [QX] at h
  split at h
  · rename_i hy
    cases ho:QX l with
    | none=>rw [ho] at h;cases h
    | some q=>
     rw [ho] at h
     injection h with h
     subst h
     rw [List.cons_append,QX,if_pos hy,ih ho]
     split<;>rfl
  · cases h
def OF {l r:List (List UInt8)} (h:QX l=none):QX (l++r)=none:=by
 induction l with
 | nil=>cases h
 | cons y l ih=>
  rw [QX] at h
  rw [List.cons_append,QX]
  split
  · rename_i hy
    rw [if_pos hy] at h
    cases ho:QX l with
    | none=>rw [ih ho];rfl
    | some q=>rw [ho] at h;cases h
  · rfl
def MH (hE:UN w0) {to a:BAr} {W T:List (List UInt8)} (hT:T=W.drop (min 3 n)) (hWn:W.length=n) (hws:ws=W.map mkB) (hn:n≤90000) (hz:∀ u∈W,u.length≤100000) (h:RS w0 w p2 b0 n ws rs t27 ⟨to,5,a,0,0,[],[]⟩ (.slice none 0 0) (.slice none 0 0)) {K1:WPr}
 (hN:QX T=none→Xt s=none) (hK:∀ l tv w',QX T=some l→RS w0 w' p2 b0 n ws rs t27 ⟨to,5,a,0,0,[],l⟩ (.slice none 0 0) tv→K1 w') :
 EK (Qq5 p2) (.slice (some ⟨b0,0,none⟩) n n) K1 (ZE (QK w0 s)) w:=by
 have hmin:(if (n:Int) < 3 then (n:Int) else 3)=((min 3 n:Nat):Int):=by split<;>omega
 have hTl:T.length=n - min 3 n:=by rw [hT,List.length_drop,hWn]
 unfold EK
 refine Qqv ?_
 rw [hmin,JQ underlying94 ty9 b0 0 n n (min 3 n) C1 (Nat.le_refl _)]
 have hoff:∃ off,(if n=min 3 n then 0 else 0+min 3 n*1)=off∧(min 3 n < n→off=min 3 n):=⟨_,rfl,λ h=>by rw [if_neg C1];omega⟩
 obtain ⟨off,hoff,hoff2⟩:=hoff
 rw [hoff]
 refine Qqv ?_
 have lp2:=(Qqj h.bld.obj).1
 have lB:w0.heap.size≤w.heap.size:=h.bld.e.size
 have lb0:0 < ws.length→b0 < w.heap.size:=by
  intro Y7
  obtain ⟨x,hx⟩:=getElem?_lt Y7
  obtain ⟨A,c,hv,_,_,_,Xj⟩:=Zd.open h.ws
  obtain ⟨b,o,cs,hA,_,Xj,rfl⟩:=Xj 0 x hx
  injection hv with hv1 _ _
  rw [← hv1] at hA
  injection hA with hA
  injection hA with hb _
  subst hb
  exact World.block_lt_of_cell? _ _ (Xj.c1 (Ext.refl w))
 have lb3:0 < rs.length→∀ A m c,t27 = .slice (some A) m c→A.block < w.heap.size:=by
  intro Y7 A m c hv
  obtain ⟨x,hx⟩:=getElem?_lt Y7
  obtain ⟨A',c',hv',_,_,_,Xj⟩:=Zd.open h.rs
  obtain ⟨b,o,cs,hA,_,Xj,rfl⟩:=Xj 0 x hx
  rw [hv] at hv'
  injection hv' with hv1 _ _
  rw [← hv1] at hA
  injection hA with hA
  subst hA
  exact World.block_lt_of_cell? _ _ (Xj.c1 (Ext.refl w))
 refine ZL (λ i w'=>∃ (k:Nat) (l:List Qd) (tv:Vl),i = .int .i64 k∧k≤T.length∧QX (T.take k)=some l∧l.length=k∧ZM w' w.heap.size 78 3 ZW tv l∧w.heap.size≤w'.heap.size∧RS w0 w' p2 b0 n ws rs t27 ⟨to,5,a,0,0,[],l⟩ (.slice none 0 0) tv) (λ i _=>T.length - (intOf i).toNat) ⟨0,[],_,rfl,by omega,rfl,rfl,ZM.nil _ _ _ _ _,Nat.le_refl _,h⟩ ?_
 rintro _ w1 ⟨k,l,tv,rfl,hk,hrl,hll,hO1,hz1,hR⟩
 rw [← hTl]
 rcases ZY hk with ⟨u,hu,hdr,Yo,ZT⟩ | ⟨hk,_,ZT⟩
 · have hWu:W[min 3 n+k]?=some u:=by rw [hT,List.getElem?_drop] at hu;exact hu
   have hsu:ws[min 3 n+k]?=some (mkB u):=by rw [hws,List.getElem?_map,hWu];rfl
   have hlt':k < n - min 3 n:=C1
   have huz:=hz u (List.mem_of_getElem? hWu)
   obtain ⟨A,c,hv,_,_,_,Xj⟩:=Zd.open hR.ws
   obtain ⟨b',o',cs,hA',_,hA,rfl⟩:=Xj _ _ hsu
   injection hv with hv1 _ _
   rw [← hv1] at hA'
   injection hA' with hA'
   injection hA' with hb ho
   subst hb ho
   have X4:w1.cell? ⟨b0,off+k*1,none⟩=some (.string (mkB u)):=by
    have:=hA.c1 (Ext.refl w1)
    rw [hoff2 C1]
    rw [← this]
    congr 2
    omega
   have XY:=Mt (u:=u) hrl
   rw [← YU hu] at XY
   refine Qqh ZT ?_
   unfold R3
   refine Qqh X4 ?_
   refine zcr (Zbt w1 (hE.ext hR.bld.e).env u huz) λ w2 e2=>?_
   obtain ⟨y,ok,hyo⟩:∃ y ok,BK u=(y,ok):=⟨_,_,rfl⟩
   rw [hyo] at XY ⊢
   simp only at XY ⊢
   have hR2:=hR.go e2
   unfold R2
   refine Qqv ?_
   generalize hV:World.setCell (World.setCell (World.setCell (World.alloc w2 _) _ _) _ _) _ _=V
   have eV:Ext w2 V:=by rw [← hV];exact ((((Ext.refl w2).alloc _).setCell (Nat.le_refl _) _).setCell (Nat.le_refl _) _).setCell (Nat.le_refl _) _
   have oV:V.heap[w2.heap.size]?=some (.cells (ZW y).toArray 78 (0,0)):=by rw [← hV];exact Zy (o:=2) (Zy (o:=1) (Zy (o:=0) (Zt w2 _ _) (.int .i64 y.low)) (.int .i64 y.high)) (.int .i64 y.to)
   clear hV
   obtain ⟨p8,hp8⟩:∃ p8,w2.heap.size=p8:=⟨_,rfl⟩
   rw [hp8] at oV ⊢
   have hRV:=hR2.go eV
   cases ok with
   | false=>
    rw [if_neg (by simp)] at XY
    have hno:Xt s=none:=hN (by
     have:=OF (r:=T.drop (k+1)) XY
     rwa [List.take_append_drop] at this)
    refine Qqv ?_
    exact qj hRV.bld hno
   | true=>
    rw [if_pos rfl] at XY
    unfold R1
    refine Qqb (Za hRV.bld.obj).1 (Za oV).1 ?_
    have oY:=Zt V (ZW y).toArray 78
    have eY:Ext V (V.alloc (.cells (ZW y).toArray 78)):=(Ext.refl V).alloc _
    generalize (V.alloc (.cells (ZW y).toArray 78))=Y at oY eY ⊢
    have hRY:=hRV.go eY
    have e1Y:=e2.trans (eV.trans eY)
    have hOY:=hO1.ext e1Y
    have hzY:w.heap.size≤Y.heap.size:=Nat.le_trans hz1 e1Y.size
    refine j9 y hOY oY hzY C1 ?_
    intro v' w' hO' hg
    have hlo:∀ b,tv.ownBlock=some b→w.heap.size≤b:=λ b hb=>(World.ownsRow.lt hOY b hb).1
    have e':Ext w0 w':=hRY.bld.e.grown hg λ b hb=>Nat.le_trans lB (hlo b hb)
    have blk:∀ g,g < w.heap.size→w'.heap[g]?=Y.heap[g]?:=λ g hg1=>hg.block g C1 λ e=>by have:=hlo g e.symm;omega
    have sl:∀ {v:Vl} {ll:List BAr},(0 < ll.length→∀ A m c,v = .slice (some A) m c→A.block < w.heap.size)→UQ Y v ll→UQ w' v ll:=by
     intro v ll hty hs
     obtain ⟨A,c,hv,h2,h3,h4⟩:=hs
     refine ⟨A,c,hv,h2,h3,λ Y7=>?_⟩
     obtain ⟨b,o,hA,Xj⟩:=h4 Y7
     subst hA
     have hb:=blk b (hty (List.length_pos_iff.2 Y7) _ _ _ hv)
     exact ⟨b,o,rfl,λ i x hx=>by
      obtain ⟨cs',l1,hA',hE'⟩:=Xj i x hx
      exact ⟨cs',l1,λ j v hv=>(World.cell?_of_block hb).trans (hA' j v hv),hE'⟩⟩
    have o8:=(blk p2 lp2).trans hRY.bld.obj
    have v1:v'.oneCell'=true:=Zd.oneCell (Qv hO')
    have hR':RS w0 w' p2 b0 n ws rs t27 ⟨to,5,a,0,0,[],l⟩ (.slice none 0 0) tv→True:=λ _=>trivial
    refine Qqb (Za o8).1 (Za o8).2 ?_
    have hO2:ZM (w'.setCell ⟨p2,6,none⟩ v') w.heap.size 78 3 ZW v' (l++[y]):=ZM.keep hO' λ g hgo=>YA.setCell _ p2 _ _ g (by have:=(World.ownsRow.lt hO' g hgo).1;omega)
    have wsl:=sl (v := .slice (some ⟨b0,0,none⟩) n n) (λ Y7 A m c e=>by injection e with e;injection e with e;subst e;exact lb0 Y7) hRY.ws
    have rsl:=sl lb3 hRY.rs
    refine ⟨⟨k+1,l++[y],v',rfl,Yo,XY,by simp [hll],hO2,by have:=hg.size;first | omega | (rw [World.size_setCell];omega),⟨⟨e'.setCell (p:=⟨p2,6,none⟩) h.bld.lp _,h.bld.lp,?_,ZM.nil _ _ _ _ _,hO2.base lB⟩,Zd.setOther wsl _ (λ A m c e=>by injection e with e;injection e with e;subst e;exact h.nb) (λ _ _ h=>h),h.nb,Zd.setOther rsl _ h.nr (λ _ _ h=>h),h.nr⟩⟩,Yh (kd := .i64) Yo⟩
    have:=Zy (o:=6) o8 v'
    rw [this]
    rfl
 · subst hk
   rw [List.take_length] at hrl
   refine Qqh ZT ?_
   exact hK l tv w1 hrl hR
end
def Ak (c:UInt8):∀ l:List UInt8,(Ye c l).length≤l.length+1
 | []=>by simp [Ye]
 | b::l=>by
  have ih:=Ak c l
  by_cases h:b=c
  · subst h
    rw [Wu,List.length_cons,List.length_cons]
    omega
  · cases hL:Ye c l with
    | nil=>exact absurd hL (QE _ _)
    | cons x r=>
     rw [hL] at ih
     rw [Y4 h hL]
     simp only [List.length_cons] at ih ⊢
     omega
def DV {w:Wd} (hE:UO w) (s:List UInt8) (c:UInt8) (hs:s.length≤100000):Ret Pg 50 #[.string (mkB s),.string ⟨#[c]⟩] w λ r w'=>Ext w w'∧r = .slice (some ⟨w.heap.size,0,none⟩) (Ye c s).length (Ye c s).length∧UQ w' r ((Ye c s).map mkB):=by
 refine (NL hE (mkB s) c (by rw [Ym];exact hs)).mono ?_
 rintro _ w' ⟨e,n,rfl,h⟩
 rw [OW] at h
 unfold Zeo at h
 rw [XL] at h
 obtain ⟨A,cc,hv,_⟩:=Zd.open h
 injection hv with _ hn _
 rw [List.length_map] at hn
 subst hn
 exact ⟨e,rfl,h⟩
def ZfX (k:List UInt8) (i:Int):decide (mkB k=mkB (kwW i))=decide (k=kwW i):=Ez
def B4:∀ (a r:List UInt8),XQ a=some r→r.length≤a.length
 | [],r,h=>by injection h with h;subst h;simp
 | [x],r,h=>by
  unfold XQ at h
  cases hx:VY x with
  | none=>rw [hx] at h;cases h
  | some d=>rw [hx] at h;injection h with h;subst h;simp
 | x::y::l,r,h=>by
  unfold XQ at h
  cases hx:VY x with
  | none=>rw [hx] at h;cases h
  | some d=>
   cases hy:VY y with
   | none=>rw [hx,hy] at h;cases h
   | some d2=>
    cases hl:XQ l with
    | none=>rw [hx,hy,hl] at h;cases h
    | some q=>
     rw [hx,hy,hl] at h
     injection h with h
     subst h
     have:=B4 l q hl
     simp only [List.length_cons]
     omega
def O3 (a:List UInt8):(Q0 a).length≤a.length:=by
 unfold Q0
 cases h:XQ a with
 | none=>simp
 | some r=>exact B4 a r h
def Mu (w0:Wd) (hE:UN w0) (s:List UInt8) (hs:s.length≤80000):Ret Pg 51 #[.string (mkB s)] w0 (QK w0 s):=by
 have hlb:=Og s
 have hcl:=Ak 32 s
 have hcs:∀ u∈Ye 32 s,u.length≤80000:=λ u hu=>Nat.le_trans (VS hu) hs
 refine Zk2 (R:=ZE _) ?_;unfold n47
 refine Qqv ?_
 have oV:=Zt w0 #[.string Qqk,.int .i64 0,.string Qqk,.int .i64 0,.int .i64 0,.slice none 0 0,.slice none 0 0] 43
 have eV:Ext w0 (w0.alloc (.cells #[.string Qqk,.int .i64 0,.string Qqk,.int .i64 0,.int .i64 0,.slice none 0 0,.slice none 0 0] 43)):=(Ext.refl w0).alloc _
 have sV:(w0.alloc (.cells #[.string Qqk,.int .i64 0,.string Qqk,.int .i64 0,.int .i64 0,.slice none 0 0,.slice none 0 0] 43)).heap.size=w0.heap.size+1:=World.size_alloc ..
 generalize (w0.alloc (.cells #[.string Qqk,.int .i64 0,.string Qqk,.int .i64 0,.int .i64 0,.slice none 0 0,.slice none 0 0] 43))=V at oV eV sV ⊢
 obtain ⟨p2,hp2⟩:∃ p2,w0.heap.size=p2:=⟨_,rfl⟩
 rw [hp2] at oV sV ⊢
 have hB0:WU w0 V p2 ⟨ByteArray.empty,0,ByteArray.empty,0,0,[],[]⟩ (.slice none 0 0) (.slice none 0 0):=⟨eV,by omega,oV,ZM.nil _ _ _ _ _,ZM.nil _ _ _ _ _⟩
 refine Zi (DV (hE.ext eV).env s 32 C1) ?_
 rintro _ w1 ⟨e1,rfl,hW⟩
 have hB1:=hB0.go e1
 have nb:V.heap.size≠p2:=C1
 obtain ⟨b0,hb0⟩:∃ b0,V.heap.size=b0:=⟨_,rfl⟩
 rw [hb0] at hW nb ⊢
 unfold Sd
 have Y7:=QE 32 s
 generalize hWW:Ye 32 s=W at hW hcl hcs hlb Y7 ⊢
 match W,Y7,hW,hcl,hcs,hlb with
 | [y],_,hW,hcl,hcs,hlb=>
  have hno:Xt s=none:=hlb
  refine Qqv ?_
  exact qj hB1 hno
 | t::k::rest,_,hW,hcl,hcs,hlb=>
  have hn2:2≤(t::k::rest).length:=by simp
  have d2:decide (((t::k::rest).length:Int) < 2)=false:=by simp only [decide_eq_false_iff_not];omega
  obtain ⟨A,c,hv,_,_,_,Xj⟩:=Zd.open hW
  injection hv with hv1 _ _
  obtain ⟨b',o',cs,hA0,_,hA,rfl⟩:=Xj 0 (mkB t) rfl
  obtain ⟨b'',o'',cs,hA1,_,hAk,rfl⟩:=Xj 1 (mkB k) rfl
  rw [← hv1] at hA0 hA1
  injection hA0 with hA0
  injection hA0 with g1 g2
  subst g1 g2
  injection hA1 with hA1
  injection hA1 with g1 g2
  subst g1 g2
  have ct:w1.cell? ⟨b0,0,none⟩=some (.string (mkB t)):=hA.c1 (Ext.refl w1)
  have ck:w1.cell? ⟨b0,1,none⟩=some (.string (mkB k)):=hAk.c1 (Ext.refl w1)
  have htz:=hcs t (List.mem_cons_self ..)
  have X4:∀ j x,(rest.map mkB)[j]?=some x→Yr w1 b0 (2+j*1) (YQ x):=by
   intro j x hx
   obtain ⟨b3,o3,cs,hA3,_,hA4,rfl⟩:=Xj (j+2) x hx
   rw [← hv1] at hA3
   injection hA3 with hA3
   injection hA3 with g1 g2
   subst g1 g2
   rw [show 2+j*1=0+(j+2)*1 by omega]
   exact hA4
  generalize hn:(t::k::rest).length=n at hn2 d2 hcl hW ⊢
  refine Qqh d2 ?_
  unfold Sc
  try unfold X0
  rw [ZZ underlying94 ty9 b0 0 n n .i64 0 K7 C1,show 0+(0:Int).toNat*1=0 from rfl]
  refine Qqm ct (Za hB1.obj).1 (Za hB1.obj).2 ?_
  have hBX:=hB1.set 0 (.string (mkB t)) ⟨mkB t,0,ByteArray.empty,0,0,[],[]⟩ (.slice none 0 0) (.slice none 0 0) rfl hB1.ob hB1.ot
  have hWX:UQ (w1.setCell ⟨p2,0,none⟩ (.string (mkB t))) (.slice (some ⟨b0,0,none⟩) n n) ((t::k::rest).map mkB):=Zd.setOther hW _ (λ A m c e=>by injection e with e;injection e with e;subst e;exact nb) (λ _ _ h=>h)
  have ckX:(w1.setCell ⟨p2,0,none⟩ (.string (mkB t))).cell? ⟨b0,1,none⟩=some (.string (mkB k)):=by rw [Xd (.inl nb)];exact ck
  have hcX:∀ j x,(rest.map mkB)[j]?=some x→Yr (w1.setCell ⟨p2,0,none⟩ (.string (mkB t))) b0 (2+j*1) (YQ x):=λ j x hx i v hv=>by rw [Xd (.inl nb)];exact X4 j x hx i v hv
  generalize (w1.setCell ⟨p2,0,none⟩ (.string (mkB t)))=X at hBX hWX ckX hcX ⊢
  have YJ:(rest.map mkB).length=n - 2:=by rw [List.length_map,← hn];simp
  obtain ⟨o,ho,ho2⟩:∃ o,(if n=2 then 0 else 0+2*1)=o∧(2 < n→o=2):=⟨_,rfl,λ h=>by rw [if_neg C1]⟩
  refine (HU underlying94 ty9 b0 0 n n 2 n hn2 (Nat.le_refl _)).mpr ?_
  rw [ho]
  refine Qqv ?_
  have hE2:=Uh X [ByteArray.empty,ByteArray.empty] (by simp) (Nat.le_refl _)
  have eY:Ext X (X.alloc (.cells (([ByteArray.empty,ByteArray.empty]:List BAr).map Value.string).toArray 9)):=(Ext.refl X).alloc _
  change opV _ _ _ (X.alloc (.cells (([ByteArray.empty,ByteArray.empty]:List BAr).map Value.string).toArray 9)) _
  generalize (X.alloc (.cells (([ByteArray.empty,ByteArray.empty]:List BAr).map Value.string).toArray 9))=Y at hE2 eY ⊢
  rw [← YJ]
  refine D5 (l:=rest.map mkB) (l':=[ByteArray.empty,ByteArray.empty]) (λ j x hx=>?_) (y0 hE2) (by simp) C1 (by simp) ?_
  · have:=(Qqx hx).1
    rw [ho2 C1]
    exact λ i v hv=>eY.cell (hcX j x hx i v hv)
  intro t27 Z hO27 eZ
  have eXZ:=eY.trans eZ
  have lX2:=(Qqj hBX.obj).1
  have hRS:RS w0 Z p2 b0 n ((t::k::rest).map mkB) (rest.map mkB++[ByteArray.empty,ByteArray.empty]) t27 ⟨mkB t,0,ByteArray.empty,0,0,[],[]⟩ (.slice none 0 0) (.slice none 0 0):=by
   refine ⟨hBX.go eXZ,Zd.ext Gh hWX eXZ,nb,y0 hO27,λ A m c e=>?_⟩
   subst e
   have:=(World.ownsRow.lt hO27 A.block rfl).1
   have:=eY.size
   omega
  have ckZ:=eXZ.cell ckX
  try unfold X0
  rw [ZZ underlying94 ty9 b0 0 n n .i64 1 K7 C1,show 0+(1:Int).toNat*1=1 from rfl]
  have dk:∀ (i:Int) (b:BAr),b=mkB (kwW i)→decide (mkB k=b)=decide (k=kwW i):=λ i b hb=>by rw [hb];exact ZfX k i
  have dk1:=dk 1 ⟨#[99,111,112,121]⟩ rfl
  have dk2:=dk 2 ⟨#[97,100,100]⟩ rfl
  have dk3:=dk 3 ⟨#[118,97,108,117,101]⟩ rfl
  have dk4:=dk 4 ⟨#[98,121,116,101,115]⟩ rfl
  have dk5:=dk 5 ⟨#[116,97,98,108,101]⟩ rfl
  have dk6:=dk 6 ⟨#[110,101,115,116,101,100]⟩ rfl
  have dk7:=dk 7 ⟨#[102,105,116]⟩ rfl
  obtain ⟨a,ha,ha1⟩:∃ a,rest[0]?.getD []=a∧(rest.map mkB++[ByteArray.empty,ByteArray.empty])[0]?=some (mkB a):=by
   cases rest with
   | nil=>exact ⟨[],rfl,rfl⟩
   | cons y r=>exact ⟨y,rfl,rfl⟩
  obtain ⟨b,hb,hb1⟩:∃ b,rest[1]?.getD []=b∧(rest.map mkB++[ByteArray.empty,ByteArray.empty])[1]?=some (mkB b):=by
   match rest with
   | []=>exact ⟨[],rfl,rfl⟩
   | [_]=>exact ⟨[],rfl,rfl⟩
   | _::y::r=>exact ⟨y,rfl,rfl⟩
  have haz:a.length≤80000:=by
   rw [← ha]
   cases rest with
   | nil=>simp
   | cons y r=>exact hcs y (by simp)
  have hbz:b.length≤80000:=by
   rw [← hb]
   match rest with
   | []=>simp
   | [_]=>simp
   | _::y::r=>exact hcs y (by simp)
  have hbld:Zaw (t::k::rest)=if k=kwW 1 then some ⟨mkB t,1,mkB a,0,0,[],[]⟩ else if k=kwW 2 then some ⟨mkB t,2,mkB a,XT (ZI b),0,[],[]⟩ else if k=kwW 3 then some ⟨mkB t,3,⟨#[]⟩,0,XT (ZI a),[],[]⟩ else if k=kwW 4 then some ⟨mkB t,4,⟨#[]⟩,0,0,Q0 a,[]⟩ else if k=kwW 5 then (QX rest.tail).map λ l=>⟨mkB t,5,mkB a,0,0,[],l⟩ else if k=kwW 6 then some ⟨mkB t,6,mkB a,0,0,[],[]⟩ else if k=kwW 7 then some ⟨mkB t,7,⟨#[]⟩,0,0,[],[]⟩ else none:=by
   rw [← ha,← hb];rfl
  have tz:(mkB t).size≤100000:=by rw [Ym];omega
  have az:(mkB a).size≤100000:=by rw [Ym];omega
  have ez:(⟨#[]⟩:BAr).size=0:=rfl
  have fin:∀ (x:FrD) (bv tv:Vl) (w':Wd),WU w0 w' p2 x bv tv→inF x=true→x.bytes.length≤100000→x.table.length≤90000→x.to.size≤100000→x.fr.size≤100000→Zaw (t::k::rest)=some x→Z4 w' λ C2 w=>M9 (.string (mkB s)) (Qq5 p2) C2 (ZE (QK w0 s)) w:=λ x bv tv w' h h1 h2 h3 h4 h5 h6=>OK hE h h1 h2 h3 h4 h5 (by rw [hlb,h6])
  have in0:∀ (to fr:BAr) (kd ad vl:Int) (by_:List UInt8),Xz ad=true→Xz vl=true→inF ⟨to,kd,fr,ad,vl,by_,[]⟩=true:=λ to fr kd ad vl by_ h1 h2=>by unfold inF;simp only [h1,h2,List.all_nil,Bool.and_self]
  refine Qqb ckZ dk1 ?_
  by_cases k1:k=kwW 1
  · rw [decide_eq_true k1]
    rw [if_pos k1] at hbld
    refine Qqv ?_
    exact TF hRS ha1 λ w' h=>fin _ _ _ _ h.bld (in0 _ _ _ _ _ _ K7 K7) (by simp) (by simp) tz az hbld
  rw [decide_eq_false k1]
  rw [if_neg k1] at hbld
  simp (disch:=try exact DI) only [↓PR,QR,simprocAttr,Sb,dk2]
  by_cases k2:k=kwW 2
  · rw [decide_eq_true k2]
    rw [if_pos k2] at hbld
    refine Qqv ?_
    refine Zbm hRS ha1 λ w' h=>?_
    obtain ⟨b3,o3,m,c3,rfl,hm,hbp,X4⟩:=h.second hb1
    unfold Sf
    try unfold X0
    rw [ZZ underlying94 ty9 b3 o3 m c3 .i64 1 K7 C1,show o3+(1:Int).toNat*1=o3+1 from rfl]
    refine Qqh X4 ?_
    refine zcr (Vg w' (hE.ext h.bld.e).env b C1) λ w4 e4=>?_
    have hB4:=h.bld.go e4
    unfold Cn ZcK
    refine Qqb (Za hB4.obj).1 (Za hB4.obj).2 ?_
    have h5:=hB4.set 3 (.int .i64 (XT (ZI b))) ⟨mkB t,2,mkB a,XT (ZI b),0,[],[]⟩ (.slice none 0 0) (.slice none 0 0) rfl hB4.ob hB4.ot
    exact fin _ _ _ _ h5 (in0 _ _ _ _ _ _ (KX _) K7) (by simp) (by simp) tz az hbld
  rw [decide_eq_false k2]
  rw [if_neg k2] at hbld
  simp (disch:=try exact DI) only [↓PR,QR,simprocAttr,Sa,dk3]
  by_cases k3:k=kwW 3
  · rw [decide_eq_true k3]
    rw [if_pos k3] at hbld
    obtain ⟨b3,o3,m,c3,rfl,hm,hbp,X4⟩:=hRS.first ha1
    have q:=Za hRS.bld.obj
    simp (disch:=try exact DI) only [↓PR,QR,simprocAttr,R8,q.1,q.2]
    have h1:=hRS.bld.set 1 (.int .i64 3) ⟨mkB t,3,ByteArray.empty,0,0,[],[]⟩ (.slice none 0 0) (.slice none 0 0) rfl hRS.bld.ob hRS.bld.ot
    have hc1:(Z.setCell ⟨p2,1,none⟩ (.int .i64 3)).cell? ⟨b3,o3,none⟩=some (.string (mkB a)):=by rw [Xd (.inl hbp)];exact X4
    generalize (Z.setCell ⟨p2,1,none⟩ (.int .i64 3))=Z1 at h1 hc1 ⊢
    try unfold X0
    rw [ZZ underlying94 ty9 b3 o3 m c3 .i64 0 K7 C1,show o3+(0:Int).toNat*1=o3 from rfl]
    refine Qqh hc1 ?_
    refine zcr (Vg Z1 (hE.ext h1.e).env a C1) λ w4 e4=>?_
    have hB4:=h1.go e4
    unfold Cn ZcL
    refine Qqb (Za hB4.obj).1 (Za hB4.obj).2 ?_
    have h5:=hB4.set 4 (.int .i64 (XT (ZI a))) ⟨mkB t,3,ByteArray.empty,0,XT (ZI a),[],[]⟩ (.slice none 0 0) (.slice none 0 0) rfl hB4.ob hB4.ot
    exact fin _ _ _ _ h5 (in0 _ _ _ _ _ _ K7 (KX _)) (by simp) (by simp) tz (by show (⟨#[]⟩:BAr).size≤_;rw [ez];omega) hbld
  rw [decide_eq_false k3]
  rw [if_neg k3] at hbld
  simp (disch:=try exact DI) only [↓PR,QR,simprocAttr,R9,dk4]
  by_cases k4:k=kwW 4
  · rw [decide_eq_true k4]
    rw [if_pos k4] at hbld
    obtain ⟨b3,o3,m,c3,rfl,hm,hbp,X4⟩:=hRS.first ha1
    refine Qqv ?_
    unfold R6
    try unfold X0
    rw [ZZ underlying94 ty9 b3 o3 m c3 .i64 0 K7 C1,show o3+(0:Int).toNat*1=o3 from rfl]
    refine Qqh X4 ?_
    refine Zi (O4 Z (hE.ext hRS.bld.e).env a C1) ?_
    rintro u w4 ⟨hu,e4⟩
    have hB4:=hRS.bld.go e4
    have hu0:ZM w4 w0.heap.size 5 1 Xp u (Q0 a):=hu.base (hRS.bld.e.size)
    have u1:u.oneCell'=true:=Zd.oneCell (Vy hu0)
    unfold ZcM
    refine Qqb (Za hB4.obj).1 (Za hB4.obj).2 ?_
    have h5:=hB4.set 1 (.int .i64 4) ⟨mkB t,4,ByteArray.empty,0,0,[],[]⟩ (.slice none 0 0) (.slice none 0 0) rfl hB4.ob hB4.ot
    have hu5:ZM (w4.setCell ⟨p2,1,none⟩ (.int .i64 4)) w0.heap.size 5 1 Xp u (Q0 a):=by
     have:=(hu.range.only (YA.setCell w4 p2 1 (.int .i64 4)) (.inr (.inl (by have:=(Qqj hRS.bld.obj).1;omega)))).1
     exact this.base hRS.bld.e.size
    have h6:=h5.set 5 u ⟨mkB t,4,ByteArray.empty,0,0,Q0 a,[]⟩ u (.slice none 0 0) rfl hu5 h5.ot
    exact fin _ _ _ _ h6 (in0 _ _ _ _ _ _ K7 K7) (Nat.le_trans (O3 a) C1) (by simp) tz (by show (⟨#[]⟩:BAr).size≤_;rw [ez];omega) hbld
  rw [decide_eq_false k4]
  rw [if_neg k4] at hbld
  simp (disch:=try exact DI) only [↓PR,QR,simprocAttr,R7,dk5]
  by_cases k5:k=kwW 5
  · rw [decide_eq_true k5]
    rw [if_pos k5] at hbld
    have hT:rest.tail=(t::k::rest).drop (min 3 n):=by
     rw [← hn]
     cases rest with
     | nil=>rfl
     | cons y r=>
      rw [show min 3 (t::k::y::r).length=3 by simp only [List.length_cons];omega]
      rfl
    have htl:rest.tail.length≤n:=by rw [← hn,List.length_tail];simp only [List.length_cons];omega
    refine Qqv ?_
    refine Zbn hRS ha1 λ w' h=>?_
    refine MH hE hT hn rfl C1 (λ u hu=>by have:=hcs u hu;omega) h (λ hno=>by rw [hlb,hbld,hno];rfl) λ l tv w'' hl h''=>?_
    have hin:=H6 hl
    refine fin _ _ _ _ h''.bld ?_ (by simp) (by show l.length≤_;omega) tz az (by rw [hbld,hl];rfl)
    unfold inF
    simp only [hin.1,Bool.and_true]
    decide
  rw [decide_eq_false k5]
  rw [if_neg k5] at hbld
  simp (disch:=try exact DI) only [↓PR,QR,simprocAttr,R5,dk6]
  by_cases k6:k=kwW 6
  · rw [decide_eq_true k6]
    rw [if_pos k6] at hbld
    refine Qqv ?_
    exact TG hRS ha1 λ w' h=>fin _ _ _ _ h.bld (in0 _ _ _ _ _ _ K7 K7) (by simp) (by simp) tz az hbld
  rw [decide_eq_false k6]
  rw [if_neg k6] at hbld
  simp (disch:=try exact DI) only [↓PR,QR,simprocAttr,R4,dk7]
  by_cases k7:k=kwW 7
  · rw [decide_eq_true k7]
    rw [if_pos k7] at hbld
    have q:=Za hRS.bld.obj
    refine Qqb q.1 q.2 ?_
    have h1:=hRS.bld.set 1 (.int .i64 7) ⟨mkB t,7,ByteArray.empty,0,0,[],[]⟩ (.slice none 0 0) (.slice none 0 0) rfl hRS.bld.ob hRS.bld.ot
    exact fin _ _ _ _ h1 (in0 _ _ _ _ _ _ K7 K7) (by simp) (by simp) tz (by show (⟨#[]⟩:BAr).size≤_;rw [ez];omega) hbld
  rw [decide_eq_false k7]
  rw [if_neg k7] at hbld
  refine Qqv ?_
  exact qj hRS.bld (by rw [hlb,hbld];rfl)
def j6 {w:Wd} (hE:UO w) (s:List UInt8) (c:UInt8) (hs:s.length≤1000000000):Ret Pg 48 #[.string (mkB s),.string ⟨#[c]⟩] w λ r w'=>Ext w w'∧r = .slice (some ⟨w.heap.size,0,none⟩) (Ye c s).length (Ye c s).length∧w'.heap[w.heap.size]?=some (.cells (((XJ c (Ye c s)).map mkB).map Value.string).toArray 9 (0,0)):=by
 obtain ⟨m,hm⟩:=hE.len
 have h1:1≤(⟨#[c]⟩:BAr).size:=Nat.le_refl _
 have hle:=Go.Lib.countB_le ⟨#[c]⟩ h1 (mkB s).size (mkB s) (Nat.le_refl _)
 have hl:=Go.Lib.splitB_all ⟨#[c]⟩ h1 1 _ (mkB s) rfl
 have hz:=Ym s
 refine Zh3 (R:=ZE _) ?_;unfold Zh2
 refine Qqv ?_
 refine Zi (Φ:=λ r w'=>Ext w w'∧r = .slice (some ⟨w.heap.size,0,none⟩) (Ye c s).length (Ye c s).length∧w'.heap[w.heap.size]?=some (.cells (((XJ c (Ye c s)).map mkB).map Value.string).toArray 9 (0,0))) ?_ λ v w' h=>⟨v,rfl,h⟩
 have hk:=Gw (mkB s) ⟨#[c]⟩ 1 (-1) (Go.Lib.countB (mkB s) ⟨#[c]⟩+1) m w C1 hm h1 h1 K7 K7 (by rw [if_pos K7];omega)
 rw [Nat.add_sub_cancel,hl] at hk
 refine Calls.mono hk ?_
 rintro e w' ⟨rfl,rfl⟩
 have hsp:=Ij c (mkB s)
 rw [XL] at hsp
 rw [hsp] at hl ⊢
 rw [List.length_map,GW] at hl
 refine ⟨_,rfl,(Ext.refl w).alloc _,by rw [hl],?_⟩
 have e2:Go.Lib.cellsOf ((XJ c (Ye c s)).map mkB) (Go.Lib.countB (mkB s) ⟨#[c]⟩+1)=(((XJ c (Ye c s)).map mkB).map Value.string).toArray:=by
  have:Go.Lib.countB (mkB s) ⟨#[c]⟩+1=((XJ c (Ye c s)).map mkB).length:=by rw [List.length_map,GW,hl]
  rw [this]
  exact Go.Lib.cellsOf_full _
 rw [e2]
 exact Zt _ _ _
structure Chg (g:Nat) (w w':Wd):Prop where
 size:w.heap.size≤w'.heap.size
 block:∀ b,b < w.heap.size→b≠g→w'.heap[b]?=w.heap[b]?
def Xq {α:Type} {w w':Wd} {g lo n:Nat} {T:TypeId} {enc:α→List Vl} {v:Vl} {l:List α} (h:ZM w lo T n enc v l) (hc:Chg g w w') (hg:v.ownBlock≠some g):ZM w' lo T n enc v l:=
 ZM.keep h λ b hb=>hc.block b (World.ownsRow.lt h b hb).2 λ e=>hg (by rw [hb,e])
def YT {α:Type} {w:Wd} {g lo n:Nat} {T T':TypeId} {enc:α→List Vl} {v:Vl} {l:List α} {cs:AVl} {f:Nat×Nat} (h:ZM w lo T n enc v l) (ho:w.heap[g]?=some (.cells cs T' f)) (hT:T≠T'):v.ownBlock≠some g:=by
 intro hg
 rcases h.2 with ⟨rfl,_⟩ | ⟨g',cap,cur,rfl,_,hg',_⟩
 · cases hg
 · have:g'=g:=by simpa [Value.ownBlock] using hg
   subst this
   rw [ho] at hg'
   injection hg' with hg'
   injection hg' with _ hg'
   exact hT hg'.symm
def E7 (w:Wd) (b0:Nat) (cs:List Vl) (x:FrD):Prop:=∃ bv tv,cs=Zo x bv tv∧ZM w b0 5 1 Xp bv x.bytes∧ZM w b0 78 3 ZW tv x.table
def VE (w:Wd) (b0 lo hi:Nat) (fv:Vl) (fs:List FrD):Prop:=∃ css:List (Cs 7),ZM w lo 43 7 Subtype.val fv css∧(∀ b,fv.ownBlock=some b→b < hi)∧VM 7 (E7 w b0) css fs
def Cf (w:Wd) (b0 lo hi:Nat) (cs:List Vl) (r:MrD):Prop:=∃ fv,cs=YZ r fv∧VE w b0 lo hi fv r.fields
section
variable {w w':Wd} {b0 lo hi g:Nat} {fv:Vl} {fs:List FrD} {cs:List Vl} {x:FrD} {r:MrD} {T:TypeId} {oc:AVl} {f:Nat×Nat}
def E7.ext (h:E7 w b0 cs x) (e:Ext w w'):E7 w' b0 cs x:=by obtain ⟨bv,tv,h1,h2,h3⟩:=h;exact ⟨bv,tv,h1,h2.ext e,h3.ext e⟩
def E7.chg (h:E7 w b0 cs x) (hc:Chg g w w') (ho:w.heap[g]?=some (.cells oc T f)) (h1:5≠T) (h2:78≠T):E7 w' b0 cs x:=by
 obtain ⟨bv,tv,a1,a2,a3⟩:=h
 exact ⟨bv,tv,a1,Xq a2 hc (YT a2 ho h1),Xq a3 hc (YT a3 ho h2)⟩
def E7.fr (h:E7 w b0 cs x):EFr w cs x:=by obtain ⟨bv,tv,a1,a2,a3⟩:=h;exact ⟨bv,tv,a1,Vy a2,Qv a3⟩
def VE.ext (h:VE w b0 lo hi fv fs) (e:Ext w w'):VE w' b0 lo hi fv fs:=by obtain ⟨css,h1,h2,h3⟩:=h;exact ⟨css,h1.ext e,h2,h3.imp λ _ _ h=>h.ext e⟩
def VE.toHi {hi':Nat} (h:VE w b0 lo hi fv fs) (hh:hi≤hi'):VE w b0 lo hi' fv fs:=by obtain ⟨css,h1,h2,h3⟩:=h;exact ⟨css,h1,λ b hb=>Nat.lt_of_lt_of_le (h2 b hb) hh,h3⟩
def VE.toLo {lo':Nat} (h:VE w b0 lo hi fv fs) (hh:lo'≤lo):VE w b0 lo' hi fv fs:=by obtain ⟨css,h1,h2,h3⟩:=h;exact ⟨css,h1.base hh,h2,h3⟩
def VE.chg (h:VE w b0 lo hi fv fs) (hc:Chg g w w') (ho:w.heap[g]?=some (.cells oc T f)) (h1:5≠T) (h2:78≠T) (hg:fv.ownBlock≠some g):VE w' b0 lo hi fv fs:=by
 obtain ⟨css,a1,a2,a3⟩:=h
 exact ⟨css,Xq a1 hc hg,a2,a3.imp λ _ _ h=>h.chg hc ho h1 h2⟩
def VE.chgT (h:VE w b0 lo hi fv fs) (hc:Chg g w w') (ho:w.heap[g]?=some (.cells oc T f)) (h1:5≠T) (h2:78≠T) (h3:43≠T):VE w' b0 lo hi fv fs:=by
 have h':=h
 obtain ⟨css,a1,a2,a3⟩:=h'
 exact h.chg hc ho h1 h2 (YT a1 ho h3)
def VE.frs (h:VE w b0 lo hi fv fs):Ve w fv fs:=by
 obtain ⟨css,a1,_,a3⟩:=h
 exact a1.reads (a3.imp λ _ _ h=>h.fr)
def Cf.ext (h:Cf w b0 lo hi cs r) (e:Ext w w'):Cf w' b0 lo hi cs r:=by obtain ⟨fv,h1,h2⟩:=h;exact ⟨fv,h1,h2.ext e⟩
def Cf.mr (h:Cf w b0 lo hi cs r):EMr w cs r:=by obtain ⟨fv,h1,h2⟩:=h;exact ⟨fv,h1,h2.frs⟩
end
structure PS (b16:Nat) (lcs:AVl) (w0 w:Wd) (p2 B:Nat) (st:PsD) (rv:Vl):Prop where
 ln:w.heap[b16]?=some (.cells lcs 9 (0,0))
 e:Ext w0 w
 lp:w0.heap.size≤p2
 obj:w.heap[p2]?=some (.cells #[.string st.name,rv] 24 (0,0))
 b1:w0.heap.size≤B
 b2:B≤w.heap.size
 row:∃ css dss:List (Cs 3),ZM w w0.heap.size 60 3 Subtype.val rv (css++dss)∧VM 3 (Cf w w0.heap.size w0.heap.size B) css st.done∧VM 3 (Cf w w0.heap.size B w.heap.size) dss st.cur.toList
section
variable {b16:Nat} {lcs:AVl} {w0 w w':Wd} {p2 B:Nat} {st:PsD} {rv:Vl}
def PS.go (h:PS b16 lcs w0 w p2 B st rv) (e:Ext w w'):PS b16 lcs w0 w' p2 B st rv:=by
 obtain ⟨h0,h1,h2,h3,h4,h5,css,dss,a1,a2,a3⟩:=h
 exact ⟨e.obj h0,h1.trans e,h2,e.obj h3,h4,Nat.le_trans h5 e.size,css,dss,a1.ext e,a2.imp λ _ _ h=>h.ext e,a3.imp λ _ _ ⟨fv,g1,g2⟩=>⟨fv,g1,(g2.ext e).toHi e.size⟩⟩
def Gk {n:Nat} {α:Type} {E:List Vl→α→Prop} {c1 c2:List (Cs n)} {l1 l2:List α} (h1:VM n E c1 l1) (h2:VM n E c2 l2):VM n E (c1++c2) (l1++l2):=by
 refine ⟨by rw [List.length_append,List.length_append,h1.1,h2.1],λ k x cs hx hc=>?_⟩
 by_cases hk:k < l1.length
 · rw [List.getElem?_append_left hk] at hx
   rw [List.getElem?_append_left (by rw [h1.1];exact hk)] at hc
   exact h1.2 k x cs hx hc
 · rw [List.getElem?_append_right C1] at hx
   rw [List.getElem?_append_right (by rw [h1.1];omega),h1.1] at hc
   exact h2.2 _ x cs hx hc
def PS.read (h:PS b16 lcs w0 w p2 B st rv):Gz w rv (st.done++st.cur.toList):=by
 obtain ⟨css,dss,a1,a2,a3⟩:=h.row
 exact a1.reads (Gk (a2.imp λ _ _ h=>h.mr) (a3.imp λ _ _ h=>h.mr))
def PS.one (h:PS b16 lcs w0 w p2 B st rv):rv.oneCell'=true:=Zd.oneCell h.read
def PS.close {nm:BAr} {done:List MrD} {r:MrD} (h:PS b16 lcs w0 w p2 B ⟨nm,done,some r⟩ rv):PS b16 lcs w0 w p2 w.heap.size ⟨nm,done++[r],none⟩ rv:=by
 obtain ⟨h0,h1,h2,h3,h4,h5,css,dss,a1,a2,a3⟩:=h
 refine ⟨h0,h1,h2,h3,h1.size,Nat.le_refl _,css++dss,[],by rw [List.append_nil];exact a1,Gk (a2.imp λ _ _ ⟨fv,g1,g2⟩=>⟨fv,g1,g2.toHi h5⟩) (a3.imp λ _ _ ⟨fv,g1,g2⟩=>⟨fv,g1,g2.toLo h4⟩),rfl,λ k x cs hx=>by simp at hx⟩
def PS.named (h:PS b16 lcs w0 w p2 B st rv) (n:BAr):PS b16 lcs w0 (w.setCell ⟨p2,0,none⟩ (.string n)) p2 B { st with name:=n } rv:=by
 obtain ⟨h0,h1,h2,h3,h4,h5,css,dss,a1,a2,a3⟩:=h
 have n16:b16≠p2:=by
  rintro rfl
  rw [h0] at h3
  cases h3
 have hc:Chg p2 w (w.setCell ⟨p2,0,none⟩ (.string n)):=⟨by rw [World.size_setCell];exact Nat.le_refl _,λ b _ hb=>YA.setCell _ p2 _ _ b hb⟩
 have hz:(w.setCell ⟨p2,0,none⟩ (.string n)).heap.size=w.heap.size:=World.size_setCell ..
 refine ⟨(hc.block b16 (Qqj h0).1 n16).trans h0,h1.setCell (p:=⟨p2,0,none⟩) h2 _,h2,Zy (o:=0) h3 _,h4,by rw [hz];exact h5,css,dss,Xq a1 hc (YT a1 h3 K7),a2.imp λ _ _ ⟨fv,g1,g2⟩=>⟨fv,g1,g2.chgT hc h3 K7 K7 K7⟩,?_⟩
 rw [hz]
 exact a3.imp λ _ _ ⟨fv,g1,g2⟩=>⟨fv,g1,g2.chgT hc h3 K7 K7 K7⟩
end
def Ru a b R w:=
 opV Pg (build 24 #[]) (Zc R) w λ c w=>
 S0 24 a c R w λ w=>
 qW Pg 24 a w λ r0=>
 R (.returned (.tuple #[r0,b,(QqQ 6)])) w
def ZbZ b c d e (a:WPr) (f:KW) R w:=
 opV Pg (Builtin.append_ #[22,22] 22 #[d,e]) (Zc R) w λ g w=>
 a w∧(
 J0 24 b 1 a λ h=>
 S0 22 h g R w λ w=>
 WB w λ i w=>
 f c (.bool true) w)
def Rz b d c (a:WPr) (e:KW) R w:=
 J0 24 b 1 a λ f=>
 I0 22 f a λ g=>
 qV Pg a (indexAt 94 c (QqQ 1)) λ h=>
 I0 9 h a λ i=>
 qV Pg a (indexAt 94 c (QqQ 2)) λ j=>
 I0 9 j a λ k=>
 qV Pg a (build 60 #[(0,i),(1,k)]) λ l=>
 opV Pg (buildSlice 22 1 #[(0,l)]) (Zc R) w λ m w=>
 a w∧(
 ZbZ b d g m a e R w)
def Zb0 b c d e (a:WPr) (f:KW) R w:=
 qN Pg a (Y0 d) λ g=>
 J0 60 g 2 a λ h=>
 S0 58 h e R w λ w=>
 WB w λ i w=>
 f b c w
def Zb1 c d e b (a:WPr) (f:KW) R w:=
 qN Pg a (Y0 b) λ g=>
 J0 60 g 2 a λ h=>
 I0 58 h a λ i=>
 I0 43 e a λ j=>
 opV Pg (buildSlice 58 1 #[(0,j)]) (Zc R) w λ k w=>
 a w∧(
 opV Pg (Builtin.append_ #[58,58] 58 #[i,k]) (Zc R) w λ l w=>
 a w∧(
 Zb0 c d b l a f R w))
def RA a b c d (e:KW) R w:=
 F0 24 a 1 R w λ f w=>
 L0 22 f R w λ g w=>
 F0 24 a 1 R w λ h w=>
 L0 22 h R w λ i w=>
 G0 22 3 i R w λ j w=>
 B0 .sub 3 true j (QqQ 1) R w λ k w=>
 X0 22 g k R w λ l w=>
 Z4 w λ m w=>
 Zb1 b c d l m e R w
def RB c d a e f g (h:KV) (i:KW) R w:=
 Zp (λ (j:Vl) (w:Wd)=>
 Zx a j (.bool false) λ k=>
 Zr k (
 RA c d a e i R w) (
 B0 .add 3 true f (QqQ 1) R w λ l w=>
 h l w)) λ b=>
 Zm a true (
 b g w) (
 b undef w)
def Ho f c a g h i j (k:KV) (d:KW) R w:=
 Zp (λ (b:Vl) (w:Wd)=>
 Zx a b (.bool false) λ l=>
 Zr l (
 d c (.bool false) w) (
 RB f c a g h j k d R w)) λ e=>
 Zm a true (
 opV Pg (ZA .eql 9 true i (.string { data := #[101,110,100] })) (Zc R) w λ b w=>
 e b w) (
 e undef w)
def Dg b c h i j k d l m n (o:KV) (e:KW) R w:=
 Zx m n (.bool false) λ f=>
 Zp (λ (a:Vl) (w:Wd)=>
 Zx f a (.bool false) λ p=>
 Zr p (
 Z4 w λ q w=>
 Rz b c d q e R w) (
 Ho b c h i j k l o e R w)) λ g=>
 Zm f true (
 opV Pg (sliceAt 94 d (some (QqQ 1)) none none) (Zc R) w λ r w=>
 C0 52 #[r] R w λ a w=>
 g a w) (
 g undef w)
def AU e f g h i j b k l m (n:KV) (o:KW) R w:=
 Zx l m (.bool false) λ c=>
 Zp (λ (a:Vl) (w:Wd)=>
 Dg e f g h i j b k c a n o R w) λ d=>
 Zm c true (
 opV Pg (indexAt 94 b (QqQ 0)) (Zc R) w λ p w=>
 L0 9 p R w λ q w=>
 opV Pg (ZA .eql 9 true q (.string { data := #[109,97,112] })) (Zc R) w λ a w=>
 d a w) (
 d undef w)
def EH e f g h i j b k l m (n:KV) (o:KW) R w:=
 Zx l m (.bool false) λ c=>
 Zp (λ (a:Vl) (w:Wd)=>
 AU e f g h i j b k c a n o R w) λ d=>
 Zm c true (
 G0 94 3 b R w λ p w=>
 B0 .eql 3 true p (QqQ 3) R w λ a w=>
 d a w) (
 d undef w)
def Rv a b c d (e:KW) R w:=
 opV Pg (indexAt 94 d (QqQ 1)) (Zc R) w λ f w=>
 L0 9 f R w λ g w=>
 F0 24 a 0 R w λ h w=>
 S0 9 h g R w λ w=>
 e b c w
def AV f g b h c i j k (l:KV) (m:KW) R w:=
 B0 .gtr 3 true c (QqQ 0) R w λ d w=>
 Zp (λ (a:Vl) (w:Wd)=>
 EH f g b h c i j k d a l m R w) λ e=>
 Zm d true (
 N0 b R w λ a w=>
 e a w) (
 e undef w)
def AW c a b g d h e i j k (l:KV) (Ys:Vl→Vl→Vl→Wd→Prop) R w:=
 Zx j k (.bool false) λ m=>
 Zp (λ (a:Vl) (b:Vl) (w:Wd)=>
 B0 .add 3 true d (QqQ 1) R w λ n w=>
 Ys a b n w) λ f=>
 Zr m (
 Rv c a b e f R w) (
 AV c a b g d h e i l f R w)
def AX e f g h i j b k l m (n:KV) (Ys:Vl→Vl→Vl→Wd→Prop) R w:=
 Zx l m (.bool false) λ c=>
 Zp (λ (a:Vl) (w:Wd)=>
 AW e f g h i j b k c a n Ys R w) λ d=>
 Zm c true (
 opV Pg (indexAt 94 b (QqQ 1)) (Zc R) w λ o w=>
 L0 9 o R w λ p w=>
 opV Pg (buildSlice 94 1 #[(0,p)]) (Zc R) w λ q w=>
 C0 52 #[q] R w λ a w=>
 d a w) (
 d undef w)
def EI e f g h i j b k l m (n:KV) (Ys:Vl→Vl→Vl→Wd→Prop) R w:=
 Zx l m (.bool false) λ c=>
 Zp (λ (a:Vl) (w:Wd)=>
 AX e f g h i j b k c a n Ys R w) λ d=>
 Zm c true (
 opV Pg (indexAt 94 b (QqQ 0)) (Zc R) w λ o w=>
 L0 9 o R w λ p w=>
 opV Pg (ZA .eql 9 true p (.string { data := #[109,97,112,112,105,110,103] })) (Zc R) w λ a w=>
 d a w) (
 d undef w)
def EJ f g h i b j c k (l:KV) (Ys:Vl→Vl→Vl→Wd→Prop) R w:=
 B0 .eql 3 true b (QqQ 0) R w λ d w=>
 Zp (λ (a:Vl) (w:Wd)=>
 EI f g h i b j c k d a l Ys R w) λ e=>
 Zm d true (
 G0 94 3 c R w λ m w=>
 B0 .eql 3 true m (QqQ 2) R w λ a w=>
 e a w) (
 e undef w)
def Le a R w:=
 L0 24 a R w λ b w=>
 S0 24 a b R w λ w=>
 qW Pg 24 a w λ r0=>
 R (.returned (.tuple #[r0,(QqQ 0),(QqQ 0)])) w
def AY c d e f a g h i j (b:KV) (Ys:Vl→Vl→Vl→Wd→Prop) R w:=
 N0 h R w λ k w=>
 Zr k (
 B0 .add 3 true a (QqQ 1) R w λ l w=>
 b l w) (
 EJ c d e f a g i j b Ys R w)
def xN b f c g h i j k l m n (o:KV) (Ys:Vl→Vl→Vl→Wd→Prop) R w:=
 Zx m n (.bool false) λ d=>
 Zp (λ (a:Vl) (w:Wd)=>
 Zx d a (.bool false) λ p=>
 Zr p (
 Le b R w) (
 AY b f c g h i j k l o Ys R w)) λ e=>
 Zm d true (
 N0 c R w λ a w=>
 e a w) (
 e undef w)
def zd e f g h b i j k l m n (o:KV) (Ys:Vl→Vl→Vl→Wd→Prop) R w:=
 Zx m n (.bool false) λ c=>
 Zp (λ (a:Vl) (w:Wd)=>
 xN e f g h b i j k l c a o Ys R w) λ d=>
 Zm c true (
 B0 .gtr 3 true b (QqQ 0) R w λ a w=>
 d a w) (
 d undef w)
def Rw h i j k b c l d (m:KV) (Ys:Vl→Vl→Vl→Wd→Prop) R w:=
 E0q d 0 R w λ n w=>
 E0q d 1 R w λ o w=>
 opV Pg (alloc 43 true (.tuple #[])) (Zc R) w λ e w=>
 S0 43 e n R w λ w=>
 N0 c R w λ f w=>
 Zp (λ (a:Vl) (w:Wd)=>
 zd h i j e k b c l o f a m Ys R w) λ g=>
 Zm f true (
 opV Pg (ZA .eql 9 true b (.string { data := #[] })) (Zc R) w λ a w=>
 g a w) (
 g undef w)
def Rx c d e f b (g:KV) (Ys:Vl→Vl→Vl→Wd→Prop) R w:=
 E0q b 0 R w λ a w=>
 E0q b 1 R w λ h w=>
 ZU Pg 50 #[a,(.string { data := #[32] })] (Zc R) w λ i w=>
 C0 51 #[a] R w λ j w=>
 Rw c d e f a h i j g Ys R w
def Lf b c d e a (f:KV) (Ys:Vl→Vl→Vl→Wd→Prop) R w:=
 X0 94 e a R w λ g w=>
 L0 9 g R w λ h w=>
 ZU Pg 49 #[h,(.string { data := #[10] })] (Zc R) w λ i w=>
 Rx b c d a i f Ys R w
def Ry b c R w:=
 G0 94 3 c R w λ f w=>
 Zp (λ (a:Vl) (w:Wd)=>
 Ru b a R w) λ d=>
 GC (λ a g e w Ys=>
 B0 .lss 3 false e f R w λ h w=>
 Zr h (
 Lf b a g c e d Ys R w) (
 d a w)) (QqQ 0) (.bool false) (QqQ 0) w
def n19 a R w:=
 opV Pg (alloc 24 true (.tuple #[])) (Zc R) w λ b w=>
 ZU Pg 48 #[a,(.string { data := #[10] })] (Zc R) w λ c w=>
 Ry b c R w
def ZkD:QqX1 22 n19:=λ h=>by
 refine yD func22 ?_
 refine zs<|zr<|yv h λ h=>zm<|zm<|zn<|zk<|OU<|zs<|zr<|zm<|yc h c48 λ h=>zm<|zn<|zk ?_
 refine zs<|zr<|zm<|zn<|zk<|zs<|OT<|zk<|zs<|zs<|zr<|zm<|yx h λ h=>zm<|zn ?_
 refine zk<|yJ1 [3,4,6,7,8,9,10,11,12,13,14,19,20,21,22,23,24,25,26,27,28,29,30,31,32,33,34,35,36,37,38,39,40,41,42,43,44,45,46,47,48,49,50,51,52,53,54,55,56,57,58,59,60,61,62,63,64,65,66,67,68,69,70,71,72,73,74,75,76,77,78,79,80,81,82,83,84,85,86,87,88,89,90,91,92,93,94,95,96,97,98,99,100,101,102,103,104,105,106,107,108,109,110,111,112,113,114,115,116,117,118,119,120,121,122,123,124,125,126,127,128,129,130,131,132,133,134,135,136,137,138,139,140,141,142,143,144,145,146,147] 3 h (λ _ _ hkK1 h=>?_) λ σ w h=>?_
 · refine Zl<|yl3 [3,4,6,7,8,9,10,11,12,13,14,19,20,21,22,23,24,25,26,27,28,29,30,31,32,33,34,35,36,37,38,39,40,41,42,43,44,45,46,47,48,49,50,51,52,53,54,55,56,57,58,59,60,61,62,63,64,65,66,67,68,69,70,71,72,73,74,75,76,77,78,79,80,81,82,83,84,85,86,87,88,89,90,91,92,93,94,95,96,97,98,99,100,101,102,103,104,105,106,107,108,109,110,111,112,113,114,115,116,117,118,119,120,121,122,123,124,125,126,127,128,129,130,131,132,133,134,135,136,137,138,139,140,141,142,143,144,145,146,147] 3 6 19 h λ σ w next h=>zs<|zr<|yb h λ h=>zn<|zk<|zs<|yC h (λ h=>?_) λ h=>?_
   · refine Zk<|zk<|zs<|Zl<|zs<|zr<|zm<|yv h λ h=>yv h λ h=>zm<|zm<|zn<|zk<|zs<|zr ?_
     refine zm<|yc h c49 λ h=>zm<|yv h λ h=>yv h λ h=>zm<|zm<|zn<|zk<|zs<|zr<|zm<|yc h c50 λ h=>zm<|zn ?_
     refine zk<|zs<|zr<|zm<|yc h c51 λ h=>zm<|yv h λ h=>yv h λ h=>yv h λ h=>yu h λ h=>zm<|zn<|zk<|Zl<|zs ?_
     refine Zq<|yG 3<|zm<|yv h λ h=>zm<|zn<|yg1 2 2 true [42,43] 43 h (λ _ T hT h=>?_) λ σ w h=>?_
     · refine zm<|yb h λ h=>zn ?_
       exact zt hT h
     refine yG 2<|yp h λ h=>zm<|zn<|yg1 2 6 true [46,47] 47 h (λ _ T hT h=>?_) λ σ w h=>?_
     · refine zm<|yb h λ h=>zn ?_
       exact zt hT h
     refine yG 2<|yp h λ h=>zm<|zn<|yg1 2 10 true [50,51] 51 h (λ _ T hT h=>?_) λ σ w h=>?_
     · refine zm<|yv h λ h=>zn ?_
       exact zt hT h
     refine yG 2<|yp h λ h=>zm<|zn<|ZG<|zk<|yC h (λ h=>?_) λ h=>?_
     · refine zs<|zr<|yv h λ h=>yu h λ h=>zm<|zm<|zn<|zk<|Zg<|Zh<|Zh<|Zb<|Zb<|Zh<|Zb ?_
       exact Zb<|Wt rfl rfl rfl rfl h
     refine zs<|zr<|zm<|yv h λ h=>zm<|zn<|zk<|yC h (λ h=>?_) λ h=>?_
     · refine zs<|zr<|zm<|yb h λ h=>zm<|zn<|zk<|ZN<|QY rfl<|QY rfl<|Ze<|Ze<|Zs<|zk ?_
       exact zt hkK1 h
     refine zs<|Zq<|yG 3<|zm<|yb h λ h=>zm<|zn<|yg1 3 2 true [63,64,65] 65 h (λ _ T hT h=>?_) λ σ w h=>?_
     · refine zm<|yx h λ h=>yb h λ h=>zn ?_
       exact zt hT h
     refine yG 2<|yp h λ h=>zm<|zn<|yg1 4 7 true [68,69,70,71] 71 h (λ _ T hT h=>?_) λ σ w h=>?_
     · refine zm<|yv h λ h=>yv h λ h=>yb h λ h=>zn ?_
       exact zt hT h
     refine yG 2<|yp h λ h=>zm<|zn<|yg1 5 13 true [74,75,76,77,78] 78 h (λ _ T hT h=>?_) λ σ w h=>?_
     · refine zm<|yv h λ h=>yv h λ h=>yS h λ h=>yc h c52 λ h=>zn ?_
       exact zt hT h
     refine yG 2<|yp h λ h=>zm<|zn<|ZG<|zk<|yJ2 [3,6,14,36,37,80,81,82,83,84,85,86,87,88,89,90,91,92,93,94,95,96,97,98,99,100,101,102,103,104,105,106,107,108,109,110,111,112,113,114,115,116,117,118,119,120,121,122,123,124,125,126,127,128,129,130,131,132,133,134,135,136,137,138,139,140,141,142,143,144,145,146] 3 6 h (λ _ _ hkK9 h=>?_) λ σ w h=>?_
     · refine yC h (λ h=>?_) λ h=>?_
       · refine zr<|zm<|yv h λ h=>yv h λ h=>yv h λ h=>yu h λ h=>zn<|zk ?_
         exact zt hkK9 h
       refine zs<|Zq<|yG 3<|zm<|yb h λ h=>zm<|zn<|yg1 2 2 true [88,89] 89 h (λ _ T hT h=>?_) λ σ w h=>?_
       · refine zm<|yv h λ h=>zn ?_
         exact zt hT h
       refine yG 2<|yp h λ h=>zm<|zn<|yg1 3 6 true [92,93,94] 94 h (λ _ T hT h=>?_) λ σ w h=>?_
       · refine zm<|yx h λ h=>yb h λ h=>zn ?_
         exact zt hT h
       refine yG 2<|yp h λ h=>zm<|zn<|yg1 4 11 true [97,98,99,100] 100 h (λ _ T hT h=>?_) λ σ w h=>?_
       · refine zm<|yv h λ h=>yv h λ h=>yb h λ h=>zn ?_
         exact zt hT h
       refine yG 2<|yp h λ h=>zm<|zn<|yg1 3 17 true [103,104,105] 105 h (λ _ T hT h=>?_) λ σ w h=>?_
       · refine zm<|yv h λ h=>yc h c52 λ h=>zn ?_
         exact zt hT h
       refine yG 2<|yp h λ h=>zm<|zn<|ZG<|zk<|yC h (λ h=>?_) λ h=>?_
       · refine zs<|yh [107,108,109,110,111,112,113,114,115,116,117,118] h λ C hC h=>ye 0 hC h λ h=>?_
         refine ye 1 hC h λ h=>?_
         refine yw 2 hC ?_
         refine ye 3 hC h λ h=>?_
         refine ye 4 hC h λ h=>?_
         refine yw 5 hC ?_
         refine ye 6 hC h λ h=>?_
         refine ye 7 hC h λ h=>?_
         refine ye 8 hC h λ h=>?_
         refine yo 9 ?_
         refine yS h λ h=>zn ?_
         obtain ⟨hC,h⟩:=h
         refine ⟨hC,?_⟩
         refine yo 10 ?_
         refine yx h λ h=>zn ?_
         obtain ⟨hC,h⟩:=h
         refine ⟨hC,?_⟩
         refine ye 11 hC h λ h=>?_
         refine yq 12 1 ?_
         refine yu h λ h=>zn ?_
         obtain ⟨C15,hC,h⟩:=h
         refine ⟨C15,hC,?_⟩
         refine yz<|zk<|zr<|zm<|zn<|zk ?_
         exact zt hkK9 h
       refine zs<|Zq<|yG 2<|zm<|zm<|zn<|yg1 2 1 true [122,123] 123 h (λ _ T hT h=>?_) λ σ w h=>?_
       · refine zm<|yb h λ h=>zn ?_
         exact zt hT h
       refine yG 2<|yp h λ h=>zm<|zn<|ZG<|zk<|yC h (λ h=>?_) λ h=>?_
       · refine zr<|zm<|zn<|zk ?_
         exact zt hkK9 h
       refine zs<|Zq<|yG 2<|zm<|zm<|zn<|yg1 1 1 true [128] 128 h (λ _ T hT h=>?_) λ σ w h=>?_
       · refine zm<|zn ?_
         exact zt hT h
       refine yG 2<|yp h λ h=>zm<|zn<|ZG<|zk<|yC h (λ h=>?_) λ h=>?_
       · refine zs<|zr<|yv h λ h=>yv h λ h=>yv h λ h=>yv h λ h=>yx h λ h=>yb h λ h=>yv h λ h=>zm<|zn<|zk<|yh [137,138,139,140,141,142,143,144,145,146] h λ C hC h=>yw 0 hC ?_
         refine yw 1 hC ?_
         refine yn 2 hC h λ h=>?_
         refine ye 3 hC h λ h=>?_
         refine ye 4 hC h λ h=>?_
         refine ye 5 hC h λ h=>?_
         refine yo 6 ?_
         refine yS h λ h=>zn ?_
         obtain ⟨hC,h⟩:=h
         refine ⟨hC,?_⟩
         refine yo 7 ?_
         refine yx h λ h=>zn ?_
         obtain ⟨hC,h⟩:=h
         refine ⟨hC,?_⟩
         refine yn 8 hC h λ h=>?_
         refine ye 9 hC h λ h=>?_
         refine yq 10 2 ?_
         refine yu h λ h=>zn ?_
         obtain ⟨C19,hC,h⟩:=h
         refine ⟨C19,hC,?_⟩
         refine yz<|zk ?_
         exact zt hkK9 h
       refine zs<|zr<|zm<|yb h λ h=>zm<|zn<|zk<|ZN<|Ze<|QY rfl<|QY rfl<|Ze<|Ze<|Zs<|zk ?_
       exact zt hkK1 h
     exact Zf<|Zf<|zk<|zr<|yb h λ h=>zm<|zn<|zk<|⟨rfl,h⟩
   refine ZN<|Ze<|Ze<|Zs<|zk ?_
   exact zt hkK1 h
 exact zk<|zs<|zr<|yB h λ h=>zm<|yu h λ h=>zm<|zm<|zn<|zk<|Zg<|Wt rfl rfl rfl rfl h
def CO {w:Wd} {QP:PEn} {k:KV} {base:Nat} {v:Vl} {l:List (Cs 3)} (x:Cs 3) {b:Nat} (h1:∀ u∈x.1,u.oneCell'=true) (G4:ZM w base 60 3 Subtype.val v l) (hc:w.heap[b]?=some (.cells x.1.toArray 60 (0,0))) (VX:base≤w.heap.size) (hl:l.length≤1048576)
 (hk:∀ v' w',ZM w' base 60 3 Subtype.val v' (l++[x])→w.grownBy w' v.ownBlock→k v' w') :
 opV Pg (Builtin.append_ #[22,22] 22 #[v,.slice (some ⟨b,0,none⟩) 1 1]) QP w k:=by
 have hby:=Zjg
 refine W8 (l':=[x]) underlying22 qp rfl K7 (λ x=>x.2) (λ y hy u hu=>by rw [List.mem_singleton.1 hy] at hu;exact h1 u hu) G4 (λ j y hy=>?_) VX ?_ (by simp;omega) hk
 · cases j with
   | zero=>
    simp at hy;subst hy
    intro j v hv
    rw [(Za hc).1]
    simpa using hv
   | succ j=>simp at hy
 · simp only [List.length_cons,List.length_nil]
   exact Nat.le_trans (Nat.mul_le_mul (Nat.add_le_add_right hl 1) hby) K7
def CN {w:Wd} {QP:PEn} {k:KV} {base:Nat} {v:Vl} {l:List (Cs 7)} (x:Cs 7) {b:Nat} (h1:∀ u∈x.1,u.oneCell'=true) (G4:ZM w base 43 7 Subtype.val v l) (hc:w.heap[b]?=some (.cells x.1.toArray 43 (0,0))) (VX:base≤w.heap.size) (hl:l.length≤1048576)
 (hk:∀ v' w',ZM w' base 43 7 Subtype.val v' (l++[x])→w.grownBy w' v.ownBlock→k v' w') :
 opV Pg (Builtin.append_ #[58,58] 58 #[v,.slice (some ⟨b,0,none⟩) 1 1]) QP w k:=by
 have hby:=Zjf
 refine W8 (l':=[x]) underlying58 Vr rfl K7 (λ x=>x.2) (λ y hy u hu=>by rw [List.mem_singleton.1 hy] at hu;exact h1 u hu) G4 (λ j y hy=>?_) VX ?_ (by simp;omega) hk
 · cases j with
   | zero=>
    simp at hy;subst hy
    intro j v hv
    rw [(Za hc).1]
    simpa using hv
   | succ j=>simp at hy
 · simp only [List.length_cons,List.length_nil]
   exact Nat.le_trans (Nat.mul_le_mul (Nat.add_le_add_right hl 1) hby) K7
section
variable {α:Type} {w w':Wd} {b0 lo hi lo2 n:Nat} {fv v:Vl} {fs:List FrD} {cs:List Vl} {x:FrD} {r:MrD} {T:TypeId} {enc:α→List Vl} {l:List α}
def yZ (hO:ZM w lo2 T n enc v l) (hg:w.grownBy w' v.ownBlock):Ext w w'∨∃ g oc f,v.ownBlock=some g∧w.heap[g]?=some (.cells oc T f)∧Chg g w w':=by
 rcases hO.2 with ⟨rfl,_⟩ | ⟨g',cap,cur,rfl,_,hg',_⟩
 · exact .inl ((Ext.refl w).grown hg λ k hk=>by cases hk)
 · exact .inr ⟨g',_,_,rfl,hg',hg.size,λ b hb Y7=>hg.block b hb λ e=>Y7 (by injection e)⟩
def E7.grow (h:E7 w b0 cs x) (hO:ZM w lo2 T n enc v l) (hg:w.grownBy w' v.ownBlock) (h1:5≠T) (h2:78≠T):E7 w' b0 cs x:=by
 rcases yZ hO hg with e | ⟨g,oc,f,_,ho,hc⟩
 · exact h.ext e
 · exact h.chg hc ho h1 h2
def VE.grow (h:VE w b0 lo hi fv fs) (hO:ZM w lo2 T n enc v l) (hg:w.grownBy w' v.ownBlock) (h1:5≠T) (h2:78≠T) (h3:∀ g,v.ownBlock=some g→fv.ownBlock≠some g):VE w' b0 lo hi fv fs:=by
 rcases yZ hO hg with e | ⟨g,oc,f,hv,ho,hc⟩
 · exact h.ext e
 · exact h.chg hc ho h1 h2 (h3 g hv)
def VE.growT (h:VE w b0 lo hi fv fs) (hO:ZM w lo2 T n enc v l) (hg:w.grownBy w' v.ownBlock) (h1:5≠T) (h2:78≠T) (h3:43≠T):VE w' b0 lo hi fv fs:=by
 rcases yZ hO hg with e | ⟨g,oc,f,hv,ho,hc⟩
 · exact h.ext e
 · exact h.chgT hc ho h1 h2 h3
def JR {b:Nat} {oc:AVl} {T':TypeId} {f:Nat×Nat} (hO:ZM w lo2 T n enc v l) (hb:w.heap[b]?=some (.cells oc T' f)) (hT:T'≠T):b≠v.ownBlock.getD w.heap.size:=by
 have Yo:=(Qqj hb).1
 rcases hO.2 with ⟨rfl,_⟩ | ⟨g',cap,cur,rfl,_,hg',_⟩
 · show b≠w.heap.size
   omega
 · show b≠g'
   rintro rfl
   rw [hb] at hg'
   injection hg' with hg'
   injection hg' with _ hg'
   exact hT hg'
def Xe {b:Nat} {oc:AVl} {T':TypeId} {f:Nat×Nat} (hO:ZM w lo2 T n enc v l) (hg:w.grownBy w' v.ownBlock) (hb:w.heap[b]?=some (.cells oc T' f)) (hT:T'≠T):w'.heap[b]?=some (.cells oc T' f):=by
 rw [hg.block b (Qqj hb).1 λ e=>JR hO hb hT (by rw [← e];rfl)]
 exact hb
end
section
variable {b16:Nat} {lcs:AVl} {w0 w w1:Wd} {p2 p12 B bw:Nat} {nm:BAr} {done:List MrD} {rv t3 t6:Vl} {r:MrD} {ws:List BAr} {a b:BAr} {K9:KW} {R:RT}
def OA (h:PS b16 lcs w0 w1 p2 B ⟨nm,done,none⟩ rv) (e:Ext w1 w) (hl:done.length≤1048576) (hbw:w1.heap.size≤bw) (ha:w.cell? ⟨bw,1,none⟩=some (.string a)) (hb:w.cell? ⟨bw,2,none⟩=some (.string b))
 (hK:∀ w' rv',PS b16 lcs w0 w' p2 B ⟨nm,done,some ⟨a,b,[]⟩⟩ rv'→K9 t3 (.bool true) w') :
 Z4 w λ C w=>Rz (Qq5 p2) t3 (.slice (some ⟨bw,0,none⟩) 3 3) C K9 R w:=by
 obtain ⟨css,dss,hO1,m1,m2⟩:=h.row
 have:dss=[]:=List.eq_nil_of_length_eq_zero m2.1
 subst this
 rw [List.append_nil] at hO1
 have hO:=hO1.ext e
 have lbw:bw < w.heap.size:=World.block_lt_of_cell? _ _ ha
 replace m1:=m1.imp λ _ _ (h:Cf w1 w0.heap.size w0.heap.size B _ _)=>h.ext e
 have h1:=h
 replace h:=h.go e
 obtain ⟨g,hgd⟩:∃ g,rv.ownBlock.getD w.heap.size=g:=⟨_,rfl⟩
 have n2:p2≠g:=by rw [← hgd];exact JR hO h.obj K7
 have nW:bw≠g:=by
  rw [← hgd]
  cases hv:rv.ownBlock with
  | none=>show bw≠w.heap.size;omega
  | some b=>have:=(World.ownsRow.lt hO1 b hv).2;show bw≠b;omega
 refine YX g g (w1:=w) (λ _ _ _ _=>rfl) ?_
 haveI:Yk (KB w g g):=⟨⟨w,λ _ _ _ _=>rfl⟩⟩
 have q:=Za h.obj
 unfold Rz
 refine Qqh q.1 ?_
 rw [Yc λ QP w' k'=>ZZ (k:=k') underlying94 ty9 bw 0 3 3 .i64 1 K7 K7,show 0+(1:Int).toNat*1=1 from rfl]
 refine Qqh ha ?_
 rw [Yc λ QP w' k'=>ZZ (k:=k') underlying94 ty9 bw 0 3 3 .i64 2 K7 K7,show 0+(2:Int).toNat*1=2 from rfl]
 refine Qqh hb ?_
 have eV:Ext w (w.drew.alloc (Obj.cells #[Value.string a,Value.string b,Value.slice none 0 0] 60)):=(Ext.refl w).drew.alloc _
 have oV:=Zt w.drew #[Value.string a,Value.string b,Value.slice none 0 0] 60
 rw [World.size_drew] at oV
 generalize (w.drew.alloc (Obj.cells #[Value.string a,Value.string b,Value.slice none 0 0] 60))=V at eV oV ⊢
 refine ⟨λ b hb _ _=>eV.block b hb,?_⟩
 have hOV:=hO.ext eV
 have hll:css.length=done.length:=m1.1
 have hr1:rv.oneCell'=true:=h.one
 unfold ZbZ
 refine CO (x:=⟨YZ ⟨a,b,[]⟩ (.slice none 0 0),rfl⟩) (λ u hu=>?_) hOV oV (Nat.le_trans h.e.size eV.size) C1 ?_
 · simp only [List.mem_cons,List.not_mem_nil,or_false] at hu
   rcases hu with rfl | rfl | rfl<;>rfl
 intro v' w' hO' hg
 have e16:=Xe hOV hg (eV.obj h.ln) K7
 have e2:=Xe hOV hg (eV.obj h.obj) K7
 refine ⟨λ b hb hbg _=>(hg.block b (Nat.lt_of_lt_of_le hb eV.size) λ e=>hbg (by rw [← hgd,← e];rfl)).trans (eV.block b hb),?_⟩
 have lo:∀ b,rv.ownBlock=some b→w0.heap.size≤b:=λ b hb=>(World.ownsRow.lt hO b hb).1
 have e':Ext w0 w':=(h.e.trans eV).grown hg lo
 have v1:v'.oneCell'=true:=Zd.oneCell (hO'.slice (E:=λ _ cs x=>cs=x.1) (λ x=>x.2) (λ _ _=>rfl))
 refine Qqb (Za e2).1 (Za e2).2 ?_
 refine Yx ?_
 have n16:b16≠p2:=by
  rintro rfl
  have:=h.ln.symm.trans h.obj
  cases this
 have hc:Chg p2 w' (w'.setCell ⟨p2,1,none⟩ v'):=⟨by rw [World.size_setCell];exact Nat.le_refl _,λ b _ hb=>YA.setCell _ p2 _ _ b hb⟩
 have hz:(w'.setCell ⟨p2,1,none⟩ v').heap.size=w'.heap.size:=World.size_setCell ..
 refine hK _ v' ⟨(hc.block b16 (Qqj e16).1 n16).trans e16,e'.setCell (p:=⟨p2,1,none⟩) h.lp _,h.lp,Zy (o:=1) e2 _,h.b1,?_,css,[⟨YZ ⟨a,b,[]⟩ (.slice none 0 0),rfl⟩],Xq hO' hc (YT hO' e2 K7),m1.imp λ _ _ ⟨fv,g1,g2⟩=>⟨fv,g1,((g2.ext eV).growT hOV hg K7 K7 K7).chgT hc e2 K7 K7 K7⟩,rfl,λ k x cs hx hcs=>?_⟩
 · rw [hz]
   exact Nat.le_trans h.b2 (Nat.le_trans eV.size hg.size)
 · cases k with
   | succ k=>simp at hx
   | zero=>
    simp at hx hcs
    subst hx hcs
    exact ⟨_,rfl,[],ZM.nil _ _ _ _ _,(λ b hb=>by cases hb),rfl,λ k x cs hx=>by simp at hx⟩
def IQ (h:PS b16 lcs w0 w1 p2 B ⟨nm,done,some r⟩ rv) (e:Ext w1 w) (hp:w1.heap.size≤p12) (x:FrD) (bv tv:Vl) (o12:w.heap[p12]?=some (.cells (Zo x bv tv).toArray 43 (0,0))) (hb:ZM w w0.heap.size 5 1 Xp bv x.bytes) (ht:ZM w w0.heap.size 78 3 ZW tv x.table) (hl:done.length≤1000000) (hf:r.fields.length≤1048576)
 (hK:∀ w' rv',PS b16 lcs w0 w' p2 B ⟨nm,done,some ⟨r.fr,r.to,r.fields++[x]⟩⟩ rv'→K9 t3 t6 w') :
 RA (Qq5 p2) t3 t6 (Qq5 p12) K9 R w:=by
 have h0:=h.go e
 obtain ⟨css,dss,hO,m1,m2⟩:=h.row
 obtain ⟨c,rfl⟩:∃ c,dss=[c]:=List.length_eq_one_iff.1 m2.1
 obtain ⟨fv,hcf,css7,hF,hFlt,hFm⟩:=m2.2 0 r c rfl rfl
 have hO0:=hO.ext e
 have hF0:=hF.ext e
 have YJ:(css++[c]).length=css.length+1:=by simp
 have hdl:css.length=done.length:=m1.1
 obtain ⟨gr,cap,rfl,hlo',hgs,⟨oc,f,hgr⟩,hfz,Xj⟩:=hO0.row (λ x=>x.2) (by rw [YJ];omega)
 have hEl:=Xj css.length c (by simp)
 rw [hcf] at hEl
 rw [YJ] at h0
 have hwk:IntKind.i64.wrap (((css.length+1:Nat):Int) - 1)=(css.length:Int):=by rw [Z0 C1 C1];omega
 have hr1:=h0.one
 unfold RA
 refine Qqb (Za h0.obj).1 hwk ?_
 rw [Nat.zero_add]
 obtain ⟨gf,hgd⟩:∃ gf,fv.ownBlock.getD w.heap.size=gf:=⟨_,rfl⟩
 have nR:gr≠gf:=by rw [← hgd];exact JR hF0 hgr K7
 have l12:=(Qqj o12).1
 have n12:p12≠gf:=by
  rw [← hgd]
  cases hv:fv.ownBlock with
  | none=>show p12≠w.heap.size;omega
  | some g=>have:=hFlt g hv;show p12≠g;omega
 refine YX gf gf (w1:=w) (λ _ _ _ _=>rfl) ?_
 haveI:Yk (KB w gf gf):=⟨⟨w,λ _ _ _ _=>rfl⟩⟩
 have q12:=Za o12
 have hfc:w.cell? ⟨gr,css.length*3+2,none⟩=some fv:=hEl 2 fv rfl
 have L12:∀ w',KB w gf gf w'→QC Pg w' 43 ⟨p12,0,none⟩ (.agg (Zo x bv tv).toArray):=λ w' hw'=>QC.many Vr rfl (λ j u hu=>by
  rw [Addr.add_lit]
  exact KB.cell (b:=p12) hw' n12 n12 (by rw [q12.1];simpa using hu))
 unfold Zb1
 refine Qqh hfc ?_
 rw [BB L12]
 refine Qqv ?_
 have eV:Ext w (w.drew.alloc (Obj.cells (Zo x bv tv).toArray 43)):=(Ext.refl w).drew.alloc _
 have oV:=Zt w.drew (Zo x bv tv).toArray 43
 rw [World.size_drew] at oV
 change KB w gf gf (w.drew.alloc (Obj.cells (Zo x bv tv).toArray 43))∧opV _ _ _ (w.drew.alloc (Obj.cells (Zo x bv tv).toArray 43)) _
 generalize (w.drew.alloc (Obj.cells (Zo x bv tv).toArray 43))=V at eV oV ⊢
 refine ⟨λ b hb _ _=>eV.block b hb,?_⟩
 have hFV:=hF0.ext eV
 have hfl:css7.length=r.fields.length:=hFm.1
 have hB1:B≤w1.heap.size:=h.b2
 have hB0:w0.heap.size≤B:=h.b1
 have s1:=e.size
 have s2:=eV.size
 have ob1:bv.oneCell'=true:=Zd.oneCell (Vy hb)
 have ot1:tv.oneCell'=true:=Zd.oneCell (Qv ht)
 have hlo:∀ b,fv.ownBlock=some b→B≤b:=λ b hb=>(World.ownsRow.lt hF b hb).1
 refine CN (x:=⟨Zo x bv tv,rfl⟩) (λ u hu=>?_) hFV oV C1 C1 ?_
 · simp only [List.mem_cons,List.not_mem_nil,or_false] at hu
   rcases hu with rfl | rfl | rfl | rfl | rfl | rfl | rfl<;>first | rfl | assumption
 intro v' w' hF' hg
 refine ⟨λ b hb hbg _=>(hg.block b (Nat.lt_of_lt_of_le hb eV.size) λ e=>hbg (by rw [← hgd,← e];rfl)).trans (eV.block b hb),?_⟩
 have e16:=Xe hFV hg (eV.obj h0.ln) K7
 have e2:=Xe hFV hg (eV.obj h0.obj) K7
 have eg:=Xe hFV hg (eV.obj hgr) K7
 have e':Ext w0 w':=(h0.e.trans eV).grown hg λ b hb=>Nat.le_trans hB0 (hlo b hb)
 have hOw:=(hO0.ext eV).grown hg λ b hb hb2=>nR (by
  have:gr=b:=by simpa [Value.ownBlock] using hb
  rw [this,← hgd,hb2]
  rfl)
 obtain ⟨gr2,cap2,hv2,_,_,_,hfz2,hel2⟩:=hOw.row (λ x=>x.2) (by rw [YJ];omega)
 injection hv2 with hv2 _ _
 injection hv2 with hv2
 injection hv2 with hv2
 subst hv2
 have hEl2:=hel2 css.length c (by simp)
 rw [hcf] at hEl2
 have hfc2:w'.cell? ⟨gr,css.length*3+2,none⟩=some fv:=hEl2 2 fv rfl
 have v1:v'.oneCell'=true:=Zd.oneCell (hF'.slice (E:=λ _ cs x=>cs=x.1) (λ x=>x.2) (λ _ _=>rfl))
 unfold Zb0
 refine Qqb hfc2 hfz2 ?_
 refine Yx ?_
 have n16:b16≠gr:=by
  rintro rfl
  rw [e16] at eg
  cases eg
 have n2:p2≠gr:=by
  rintro rfl
  rw [e2] at eg
  cases eg
 have hc:Chg gr w' (w'.setCell ⟨gr,css.length*3+2,none⟩ v'):=⟨by rw [World.size_setCell];exact Nat.le_refl _,λ b _ hb=>YA.setCell _ gr _ _ b hb⟩
 have hz:(w'.setCell ⟨gr,css.length*3+2,none⟩ v').heap.size=w'.heap.size:=World.size_setCell ..
 have s3:=hg.size
 have hset:=hOw.set (k:=css.length) (cs:=c) (by simp) (j:=2) K7 v'
 rw [show (css++[c]).set css.length (⟨c.1.set 2 v',by simp [c.2]⟩:Cs 3)=css++[⟨c.1.set 2 v',by simp [c.2]⟩] by simp,YJ] at hset
 refine hK _ _ ⟨(hc.block b16 (Qqj e16).1 n16).trans e16,e'.setCell (p:=⟨gr,css.length*3+2,none⟩) hlo' _,h.lp,(hc.block p2 (Qqj e2).1 n2).trans e2,h.b1,by rw [hz];omega,css,[⟨c.1.set 2 v',by simp [c.2]⟩],hset,m1.imp λ _ _ ⟨fv2,g1,g2⟩=>⟨fv2,g1,((g2.ext (e.trans eV)).grow hFV hg K7 K7 λ g hg1 hg2=>by
  obtain ⟨_,_,Yo,_⟩:=g2
  have:=Yo g hg2
  have:=hlo g hg1
  omega).chgT hc eg K7 K7 K7⟩,rfl,λ k y cs hx hcs=>?_⟩
 cases k with
 | succ k=>simp at hx
 | zero=>
  simp at hx hcs
  subst hx hcs
  refine ⟨v',by show c.1.set 2 v'=_;rw [hcf];rfl,css7++[⟨Zo x bv tv,rfl⟩],Xq hF' hc (YT hF' eg K7),λ b hb=>by rw [hz];exact (World.ownsRow.lt hF' b hb).2,Gk (hFm.imp λ _ _ q=>((q.ext (e.trans eV)).grow hFV hg K7 K7).chg hc eg K7 K7) ⟨rfl,λ k y cs hx hcs=>?_⟩⟩
  cases k with
  | succ k=>simp at hx
  | zero=>
   simp at hx hcs
   subst hx hcs
   have hE:E7 w w0.heap.size (Zo x bv tv) x:=⟨bv,tv,rfl,hb,ht⟩
   exact ((hE.ext eV).grow hFV hg K7 K7).chg hc eg K7 K7
end
def Cnt (st:PsD) (k:Nat):Prop:=st.done.length≤k∧∀ r,st.cur=some r→r.fields.length≤k
def Pt {st st':PsD} {k:Nat} {x:List UInt8} (h:Cnt st k) (hs:X5 st k x=some st'):Cnt st' (k+1):=by
 obtain ⟨nm,done,cur⟩:=st
 obtain ⟨h1,h2⟩:=h
 simp only at h1 h2
 unfold X5 at hs
 split at hs
 · cases ho:Kw (Ye 32 x) with
   | none=>rw [ho] at hs;cases hs
   | some n=>
    rw [ho,Option.map_some] at hs
    injection hs with hs
    subst hs
    exact ⟨Nat.le_succ_of_le h1,λ r hr=>Nat.le_succ_of_le (h2 r hr)⟩
 · cases cur with
   | some r=>
    simp only at hs
    split at hs
    · injection hs with hs
      subst hs
      exact ⟨by simp;omega,λ r hr=>by cases hr⟩
    · cases ho:Xt x with
      | none=>rw [ho] at hs;cases hs
      | some y=>
       rw [ho,Option.map_some] at hs
       injection hs with hs
       subst hs
       refine ⟨Nat.le_succ_of_le h1,λ q hq=>?_⟩
       injection hq with hq
       subst hq
       have:=h2 r rfl
       simp
       omega
   | none=>
    simp only at hs
    cases ho:KA (Ye 32 x) with
    | none=>rw [ho] at hs;cases hs
    | some q=>
     rw [ho,Option.map_some] at hs
     injection hs with hs
     subst hs
     exact ⟨Nat.le_succ_of_le h1,λ q hq=>by injection hq with hq;subst hq;simp⟩
def Oz {W:List (List UInt8)} (h:W.length≠3):KA W=none:=by
 unfold KA
 split
 · exact absurd rfl h
 · rfl
structure LnS (b16:Nat) (lcs:AVl) (w0 w w1:Wd) (p2 p12 B bw:Nat) (st:PsD) (rv:Vl) (x:List UInt8) (y:FrD) (bv tv:Vl) (ok:Bool):Prop where
 ps:PS b16 lcs w0 w1 p2 B st rv
 e:Ext w1 w
 lb:w1.heap.size≤bw
 wd:UQ w (.slice (some ⟨bw,0,none⟩) (Ye 32 x).length (Ye 32 x).length) ((Ye 32 x).map mkB)
 l12:w1.heap.size≤p12
 o12:w.heap[p12]?=some (.cells (Zo y bv tv).toArray 43 (0,0))
 ob:ZM w w0.heap.size 5 1 Xp bv y.bytes
 ot:ZM w w0.heap.size 78 3 ZW tv y.table
 rd:(ok=true∧Xt x=some y)∨(ok=false∧Xt x=none)
section
variable {b16:Nat} {lcs:AVl} {w0 w w1:Wd} {p2 p12 B bw:Nat} {st:PsD} {rv t3:Vl} {x:List UInt8} {y:FrD} {bv tv:Vl} {ok:Bool} {K1:KV} {K9:KW} {R:RT} {k:Nat}
def LnS.word (h:LnS b16 lcs w0 w w1 p2 p12 B bw st rv x y bv tv ok) {j:Nat} {u:List UInt8} (hu:(Ye 32 x)[j]?=some u):w.cell? ⟨bw,j,none⟩=some (.string (mkB u)):=by
 obtain ⟨A,c,hv,_,_,_,Xj⟩:=Zd.open h.wd
 obtain ⟨b,o,cs,hA,_,hA2,rfl⟩:=Xj j (mkB u) (by rw [List.getElem?_map,hu];rfl)
 injection hv with hv _ _
 rw [← hv] at hA
 injection hA with hA
 injection hA with g1 g2
 subst g1 g2
 have:=hA2.c1 (Ext.refl w)
 rwa [Nat.mul_one,Nat.zero_add] at this
def jG (t2 t12 t27 t35:Vl) (hk:k≤1000000) (hK:K1 (.int .i64 ((k:Int)+1)) w):Ho t2 t3 (.bool false) t12 (.int .i64 k) t27 t35 K1 K9 R w:=by
 have hwk:IntKind.i64.wrap ((k:Int)+1)=(k:Int)+1:=Z0 C1 C1
 unfold Ho
 refine Qqv ?_
 unfold RB
 refine Qqh hwk ?_
 exact hK
def Et (a:List UInt8) (b:BAr) (c:List UInt8) (h:b=mkB c):decide (mkB a=b)=decide (a=c):=by rw [h];exact Ez
def ZaB {nm:BAr} {done:List MrD} {r:MrD} (h:LnS b16 lcs w0 w w1 p2 p12 B bw ⟨nm,done,some r⟩ rv x y bv tv ok) (hk:k≤1000000) (hk0:k≠0) (hc:Cnt ⟨nm,done,some r⟩ k)
 (hK1:X5 ⟨nm,done,some r⟩ k x=none→K1 (.int .i64 ((k:Int)+1)) w)
 (hK9:∀ st' w' rv' B',X5 ⟨nm,done,some r⟩ k x=some st'→PS b16 lcs w0 w' p2 B' st' rv'→K9 t3 (.bool st'.cur.isSome) w') :
 Ho (Qq5 p2) t3 (.bool true) (Qq5 p12) (.int .i64 k) (.string (mkB x)) (.bool ok) K1 K9 R w:=by
 have hwk:IntKind.i64.wrap ((k:Int)+1)=(k:Int)+1:=Z0 C1 C1
 have dk:=Et x ⟨#[101,110,100]⟩ IX rfl
 have hst:X5 ⟨nm,done,some r⟩ k x=if x=IX then some ⟨nm,done++[r],none⟩ else (Xt x).map λ y=>⟨nm,done,some ⟨r.fr,r.to,r.fields++[y]⟩⟩:=by unfold X5;rw [if_neg hk0]
 rw [hst] at hK1 hK9
 unfold Ho
 refine Qqh dk ?_
 by_cases hx:x=IX
 · rw [if_pos hx] at hK9
   rw [decide_eq_true hx]
   refine Qqv ?_
   exact hK9 _ _ _ _ rfl (h.ps.go h.e).close
 · rw [if_neg hx] at hK1 hK9
   rw [decide_eq_false hx]
   unfold RB
   refine Qqv ?_
   rcases h.rd with ⟨rfl,hl⟩ | ⟨rfl,hl⟩
   · rw [hl] at hK9
     refine Qqv ?_
     exact IQ h.ps h.e h.l12 y bv tv h.o12 h.ob h.ot (by have:=hc.1;simp at this;omega) (by have:=hc.2 r rfl;omega) λ w' rv' h'=>hK9 _ _ _ _ rfl h'
   · rw [hl] at hK1
     refine Qqh hwk ?_
     exact hK1 rfl
def Pl (h:LnS b16 lcs w0 w w1 p2 p12 B bw st rv x y bv tv ok) (hk:k≤1000000) (hk0:k≠0) (hc:Cnt st k)
 (hK1:∀ w',Ext w w'→X5 st k x=none→K1 (.int .i64 ((k:Int)+1)) w')
 (hK9:∀ st' w' rv' B',X5 st k x=some st'→PS b16 lcs w0 w' p2 B' st' rv'→K9 t3 (.bool st'.cur.isSome) w') :
 AV (Qq5 p2) t3 (.bool st.cur.isSome) (Qq5 p12) (.int .i64 k) (.string (mkB x)) (.slice (some ⟨bw,0,none⟩) (Ye 32 x).length (Ye 32 x).length) (.bool ok) K1 K9 R w:=by
 have d0:decide ((k:Int) > 0)=true:=by simp only [decide_eq_true_eq];omega
 obtain ⟨nm,done,cur⟩:=st
 unfold AV
 refine Qqh d0 ?_
 cases cur with
 | some r=>
  unfold EH AU Dg
  refine Qqv ?_
  exact ZaB h hk hk0 hc (hK1 w (Ext.refl w)) hK9
 | none=>
  have hst:X5 ⟨nm,done,none⟩ k x=(KA (Ye 32 x)).map λ q=>⟨nm,done,some ⟨q.1,q.2,[]⟩⟩:=by unfold X5;rw [if_neg hk0]
  rw [hst] at hK1 hK9
  unfold EH
  refine Qqv ?_
  have hw:=λ j u=>h.word (j:=j) (u:=u)
  have hps:=h.ps
  have he:=h.e
  have hlb:=h.lb
  generalize hW:Ye 32 x=W at hw hK1 hK9 ⊢
  by_cases h3:W.length=3
  · obtain ⟨a,b,c,rfl⟩:∃ a b c,W=[a,b,c]:=by
     match W,h3 with
     | [a,b,c],_=>exact ⟨a,b,c,rfl⟩
    have ho:KA [a,b,c]=if a=IY∧(Yq (mkB b)=true∧Yq (mkB c)=true) then some (mkB b,mkB c) else none:=rfl
    rw [ho] at hK1 hK9
    have ca:=hw 0 a rfl
    have cb:=hw 1 b rfl
    have cc:=hw 2 c rfl
    have da:=Et a ⟨#[109,97,112]⟩ IY rfl
    have l3:([a,b,c]:List (List UInt8)).length=3:=rfl
    rw [l3]
    unfold AU
    refine Qqv ?_
    try unfold X0
    rw [ZZ underlying94 ty9 bw 0 3 3 .i64 0 K7 K7,show 0+(0:Int).toNat*1=0 from rfl]
    refine Qqb ca da ?_
    by_cases ha:a=IY
    · rw [decide_eq_true ha]
      unfold Dg
      refine Qqv ?_
      refine (JQ underlying94 ty9 bw 0 3 3 1 K7 K7).mpr ?_
      have hS:UQ w (.slice (some ⟨bw,1,none⟩) 2 2) [mkB b,mkB c]:=⟨_,_,rfl,Nat.le_refl _,by decide,λ _=>⟨bw,1,rfl,λ i u hu=>by
       match i,hu with
       | 0,hu=>
        injection hu with hu
        subst hu
        exact ⟨_,rfl,λ j v hv=>by
         cases j with
         | zero=>injection hv with hv;subst hv;exact cb
         | succ j=>simp at hv,rfl⟩
       | 1,hu=>
        injection hu with hu
        subst hu
        exact ⟨_,rfl,λ j v hv=>by
         cases j with
         | zero=>injection hv with hv;subst hv;exact cc
         | succ j=>simp at hv,rfl⟩
       | _+2,hu=>simp at hu⟩⟩
      refine zcr (x7 w _ _ hS) λ w4 e4=>?_
      have hn:[mkB b,mkB c].all Yq=(Yq (mkB b)&&Yq (mkB c)):=by simp
      rw [hn]
      cases hnn:(Yq (mkB b)&&Yq (mkB c)) with
      | true=>
       rw [Bool.and_eq_true] at hnn
       rw [if_pos ⟨ha,hnn⟩] at hK9
       refine Qqv ?_
       exact OA hps (he.trans e4) (by have:=hc.1;simp at this;omega) hlb (e4.cell cb) (e4.cell cc) λ w' rv' h'=>hK9 _ _ _ _ rfl h'
      | false=>
       rw [if_neg (λ h=>by rw [h.2.1,h.2.2] at hnn;cases hnn)] at hK1
       refine Qqv ?_
       exact jG _ _ _ _ hk (hK1 _ e4 rfl)
    · rw [decide_eq_false ha]
      rw [if_neg (λ h=>ha h.1)] at hK1
      unfold Dg
      refine Qqv ?_
      exact jG _ _ _ _ hk (hK1 w (Ext.refl w) rfl)
  · have d3:((W.length:Int) == 3)=false:=by simp only [beq_eq_false_iff_ne,ne_eq];omega
    rw [Oz h3] at hK1
    unfold AU Dg
    refine Qqh d3 ?_
    exact jG _ _ _ _ hk (hK1 w (Ext.refl w) rfl)
end
def Oa {W:List (List UInt8)} (h:W.length≠2):Kw W=none:=by
 unfold Kw
 split
 · exact absurd rfl h
 · rfl
section
variable {b16:Nat} {lcs:AVl} {w0 w w1:Wd} {p2 p12 B bw:Nat} {st:PsD} {rv t3:Vl} {x:List UInt8} {y:FrD} {bv tv:Vl} {ok:Bool} {K1:KV} {Ys:Vl→Vl→Vl→Wd→Prop} {R:RT} {k:Nat}
def xk {K9:KW} (t2 t12 t27 t30 t35:Vl) (hK:K1 (.int .i64 1) w):AV t2 t3 (.bool false) t12 (.int .i64 0) t27 t30 t35 K1 K9 R w:=by
 unfold AV
 refine Qqv ?_
 unfold EH AU Dg
 refine Qqv ?_
 exact jG (k:=0) _ _ _ _ C1 hK
def Pm (h:LnS b16 lcs w0 w w1 p2 p12 B bw st rv x y bv tv ok) (hk:k≤1000000) (hc:Cnt st k) (h0:k=0→st.cur=none)
 (hK1:∀ w' rv' B' st',PS b16 lcs w0 w' p2 B' st' rv'→X5 st k x=none→K1 (.int .i64 ((k:Int)+1)) w')
 (hN:∀ st' w' rv' B',X5 st k x=some st'→PS b16 lcs w0 w' p2 B' st' rv'→Ys t3 (.bool st'.cur.isSome) (.int .i64 ((k:Int)+1)) w') :
 EJ (Qq5 p2) t3 (.bool st.cur.isSome) (Qq5 p12) (.int .i64 k) (.string (mkB x)) (.slice (some ⟨bw,0,none⟩) (Ye 32 x).length (Ye 32 x).length) (.bool ok) K1 Ys R w:=by
 have hwk:IntKind.i64.wrap ((k:Int)+1)=(k:Int)+1:=Z0 C1 C1
 have hfail:∀ w',Ext w w'→X5 st k x=none→K1 (.int .i64 ((k:Int)+1)) w':=λ w' e hn=>hK1 w' _ _ _ (h.ps.go (h.e.trans e)) hn
 by_cases hk0:k=0
 · subst hk0
   have hcur:=h0 rfl
   obtain ⟨nm,done,cur⟩:=st
   simp only at hcur
   subst hcur
   have hst:X5 ⟨nm,done,none⟩ 0 x=(Kw (Ye 32 x)).map λ n=>⟨n,done,none⟩:=rfl
   rw [hst] at hfail hN
   unfold EJ
   have hw:=λ j u=>h.word (j:=j) (u:=u)
   have hps:=h.ps
   have he:=h.e
   clear hK1
   generalize hW:Ye 32 x=W at hw hfail hN ⊢
   refine Qqv ?_
   by_cases h3:W.length=2
   · obtain ⟨a,b,rfl⟩:∃ a b,W=[a,b]:=by
      match W,h3 with
      | [a,b],_=>exact ⟨a,b,rfl⟩
     have ho:Kw [a,b]=if a=V3∧Yq (mkB b)=true then some (mkB b) else none:=rfl
     rw [ho] at hfail hN
     have ca:=hw 0 a rfl
     have cb:=hw 1 b rfl
     have da:=Et a ⟨#[109,97,112,112,105,110,103]⟩ V3 rfl
     have l3:([a,b]:List (List UInt8)).length=2:=rfl
     rw [l3]
     unfold EI
     refine Qqv ?_
     try unfold X0
     rw [ZZ underlying94 ty9 bw 0 2 2 .i64 0 K7 K7,show 0+(0:Int).toNat*1=0 from rfl]
     refine Qqb ca da ?_
     by_cases ha:a=V3
     · rw [decide_eq_true ha]
       unfold AX
       refine Qqv ?_
       try unfold X0
       rw [ZZ underlying94 ty9 bw 0 2 2 .i64 1 K7 K7,show 0+(1:Int).toNat*1=1 from rfl]
       refine Qqh cb ?_
       refine Zi (Kl w (mkB b)) ?_
       rintro _ w4 ⟨rfl,e4⟩
       have hP4:=hps.go (he.trans e4)
       unfold AW
       cases hnn:Yq (mkB b) with
       | true=>
        rw [if_pos ⟨ha,hnn⟩] at hN
        refine Qqv ?_
        unfold Rv
        try unfold X0
        rw [ZZ underlying94 ty9 bw 0 2 2 .i64 1 K7 K7,show 0+(1:Int).toNat*1=1 from rfl]
        refine Qqm (e4.cell cb) (Za hP4.obj).1 (Za hP4.obj).2 ?_
        exact hN _ _ _ _ rfl (hP4.named (mkB b))
       | false=>
        rw [if_neg (λ h=>by rw [h.2] at hnn;cases hnn)] at hfail
        refine Qqv ?_
        exact xk _ _ _ _ _ (hfail _ e4 rfl)
     · rw [decide_eq_false ha]
       rw [if_neg (λ h=>ha h.1)] at hfail
       unfold AX AW
       refine Qqv ?_
       exact xk _ _ _ _ _ (hfail w (Ext.refl w) rfl)
   · have d3:((W.length:Int) == 2)=false:=by simp only [beq_eq_false_iff_ne,ne_eq];omega
     rw [Oa h3] at hfail
     unfold EI AX AW
     refine Qqh d3 ?_
     exact xk _ _ _ _ _ (hfail w (Ext.refl w) rfl)
 · have d0:((k:Int) == 0)=false:=by simp only [beq_eq_false_iff_ne,ne_eq];omega
   unfold EJ EI AX AW
   refine Qqh d0 ?_
   refine Pl h hk hk0 hc hfail ?_
   intro st' w' rv' B' hs hp
   exact hN st' w' rv' B' hs hp
end
def PA {w:Wd} {cs:AVl} {T:TypeId} {vs:List Vl} (hl:cs.size=vs.length):Ext w (Yn (w.alloc (.cells cs T)) w.heap.size 0 vs)∧(Yn (w.alloc (.cells cs T)) w.heap.size 0 vs).heap[w.heap.size]?=some (.cells vs.toArray T (0,0)):=by
 have ho:=Zt w cs T
 have e0:Ext w (w.alloc (.cells cs T)):=(Ext.refl w).alloc _
 obtain ⟨h1,h2,h3⟩:=Uy vs (w.alloc (.cells cs T)) 0 (b:=w.heap.size)
 refine ⟨⟨h1.trans e0.os,h2.trans e0.tape,h3.trans e0.output,by rw [Wl];exact e0.size,λ k hk=>?_⟩,?_⟩
 · rw [← e0.block k hk]
   exact Qw vs _ 0 k C1
 · rw [X3 vs 0 ho,JW (by simp [hl])]
def xf (w0:Wd) (o:Option Xn×Nat) (r:Vl) (w':Wd):Prop:=Ext w0 w'∧((∃ m v,o=(some m,0)∧r = .tuple #[v,.int .i64 0,.int .i64 0]∧Xx w' v m)∨(∃ v n,o=(none,n)∧r = .tuple #[v,.int .i64 n,.int .i64 6]∧Xx w' v ⟨ByteArray.empty,[]⟩))
section
variable {b16:Nat} {lcs:AVl} {w0 w w1:Wd} {p2 p12 B bw:Nat} {st:PsD} {rv t3:Vl} {x:List UInt8} {y:FrD} {bv tv:Vl} {ok:Bool} {K1:KV} {Ys:Vl→Vl→Vl→Wd→Prop} {R:RT} {k:Nat}
def OB {n:Nat} {o:Option Xn×Nat} (h:PS b16 lcs w0 w p2 B st rv) (ho:o=(none,n)):Ru (Qq5 p2) (.int .i64 n) (ZE (xf w0 o)) w:=by
 unfold Ru
 refine Qqb (Za h.obj).1 (Za h.obj).2 ?_
 have e2:Ext w0 (Yn w p2 0 (Z2 ⟨ByteArray.empty,[]⟩ (.slice none 0 0))):=(h.e.setCell (p:=⟨p2,0,none⟩) h.lp _).setCell (p:=⟨p2,1,none⟩) h.lp _
 have o2:(Yn w p2 0 (Z2 ⟨ByteArray.empty,[]⟩ (.slice none 0 0))).heap[p2]?=some (.cells (Z2 ⟨ByteArray.empty,[]⟩ (.slice none 0 0)).toArray 24 (0,0)):=Zy (o:=1) (Zy (o:=0) h.obj (.string Qqk)) (.slice none 0 0)
 exact ⟨e2,.inr ⟨_,n,ho,rfl,_,rfl,Zd.nil ..⟩⟩
def Md {nm:BAr} {done:List MrD} {o:Option Xn×Nat} (h:PS b16 lcs w0 w p2 B ⟨nm,done,none⟩ rv) (ho:o=(some ⟨nm,done⟩,0)):Le (Qq5 p2) (ZE (xf w0 o)) w:=by
 unfold Le
 have hr:=h.one
 have hrd:=h.read
 simp only [Option.toList_none,List.append_nil] at hrd
 have o1:w.heap[p2]?=some (.cells (Z2 ⟨nm,done⟩ rv).toArray 24 (0,0)):=h.obj
 refine Qqb (Za o1).1 (Za o1).2 ?_
 have e2:=UY h.e o1 (vs:=Z2 ⟨nm,done⟩ rv)
 have e3:=UY (Ext.refl w) o1 (vs:=Z2 ⟨nm,done⟩ rv)
 have o2:=e3.obj o1
 have h2:=hrd.ext e3
 exact ⟨e2,.inl ⟨_,_,ho,rfl,_,rfl,h2⟩⟩
def Pn {whole:Bool} {o:Option Xn×Nat} {rest:List (List UInt8)} (h:LnS b16 lcs w0 w w1 p2 p12 B bw st rv x y bv tv ok) (hk:k≤1000000) (hc:Cnt st k) (h0:k=0→st.cur=none)
 (ho:o=goQ st k (x::rest)) (hwh:(whole=true∧rest≠[])∨(whole=false∧rest=[]))
 (hK1:∀ w' rv' B' st',PS b16 lcs w0 w' p2 B' st' rv'→o=(none,k+1)→K1 (.int .i64 ((k:Int)+1)) w')
 (hN:∀ st' w' rv' B',rest≠[]→X5 st k x=some st'→PS b16 lcs w0 w' p2 B' st' rv'→Ys t3 (.bool st'.cur.isSome) (.int .i64 ((k:Int)+1)) w') :
 (λ (t40:Bool)=>Zp (λ (t43:Vl) (w:Wd)=>
  zd (Qq5 p2) t3 (.bool st.cur.isSome) (Qq5 p12) (.int .i64 k) (.string (mkB x)) (.bool whole) (.slice (some ⟨bw,0,none⟩) (Ye 32 x).length (Ye 32 x).length) (.bool ok) (.bool t40) t43 K1 Ys (ZE (xf w0 o)) w) λ K3=>
  Zm (.bool t40) true (
   opV Pg (ZA .eql 9 true (.string (mkB x)) (.string { data := #[] })) (Zc (ZE (xf w0 o))) w λ t43 w=>
   K3 t43 w) (
   K3 undef w)) (!whole):=by
 have hwk:IntKind.i64.wrap ((k:Int)+1)=(k:Int)+1:=Z0 C1 C1
 have dx:=Et x ⟨#[]⟩ [] rfl
 rcases hwh with ⟨rfl,hr⟩ | ⟨rfl,hr⟩
 · refine Qqv ?_
   unfold zd xN AY
   refine Qqv ?_
   refine Pm h hk hc h0 (λ w' rv' B' st' hp hs=>hK1 w' rv' B' st' hp (by rw [ho,Aw hr hs])) λ st' w' rv' B' hs hp=>hN st' w' rv' B' hr hs hp
 · subst hr
   have hg:goQ st k [x]=if x=[]∧(0 < k∧st.cur=none) then (some ⟨st.name,st.done⟩,0) else (none,k+1):=rfl
   have hps:=h.ps.go h.e
   refine Qqh dx ?_
   have bad:¬ (x=[]∧(0 < k∧st.cur=none))→K1 (.int .i64 ((k:Int)+1)) w:=λ hb=>hK1 _ _ _ _ hps (by rw [ho,hg,if_neg hb])
   by_cases hx:x=[]
   · rw [decide_eq_true hx]
     by_cases hk0:k=0
     · have d0:decide ((k:Int) > 0)=false:=by simp only [decide_eq_false_iff_not];omega
       unfold zd xN AY
       refine Qqb d0 hwk ?_
       exact bad λ h=>by omega
     · have d0:decide ((k:Int) > 0)=true:=by simp only [decide_eq_true_eq];omega
       obtain ⟨nm,done,cur⟩:=st
       cases cur with
       | some r=>
        unfold zd xN AY
        refine Qqb d0 hwk ?_
        exact bad λ h=>by cases h.2.2
       | none=>
        rw [if_pos ⟨hx,Nat.pos_of_ne_zero hk0,rfl⟩] at hg
        unfold zd xN
        refine Qqh d0 ?_
        exact Md hps (by rw [ho,hg])
   · rw [decide_eq_false hx]
     unfold zd xN AY
     refine Qqh hwk ?_
     exact bad λ h=>hx h.1
def Po {L:List (List UInt8)} {o:Option Xn×Nat} (hE:UN w0) (h:PS b16 lcs w0 w p2 B st rv) (hL:∀ u∈L,(10:UInt8) ∉ u∧u.length≤80000) (hlcs:lcs=(((XJ 10 L).map mkB).map Value.string).toArray) (hx:L[k]?=some x) (hk:k≤1000000) (hc:Cnt st k) (h0:k=0→st.cur=none)
 (ho:o=goQ st k (L.drop k))
 (hK1:∀ w' rv' B' st',PS b16 lcs w0 w' p2 B' st' rv'→o=(none,k+1)→K1 (.int .i64 ((k:Int)+1)) w')
 (hN:∀ st' w' rv' B',k+1 < L.length→o=goQ st' (k+1) (L.drop (k+1))→Cnt st' (k+1)→PS b16 lcs w0 w' p2 B' st' rv'→Ys t3 (.bool st'.cur.isSome) (.int .i64 ((k:Int)+1)) w') :
 Lf (Qq5 p2) t3 (.bool st.cur.isSome) (.slice (some ⟨b16,0,none⟩) L.length L.length) (.int .i64 k) K1 Ys (ZE (xf w0 o)) w:=by
 obtain ⟨hkl,hxe⟩:=Qqx hx
 have hdrop:L.drop k=x::L.drop (k+1):=by rw [← hxe];exact List.drop_eq_getElem_cons hkl
 rw [hdrop] at ho
 obtain ⟨x10,xz⟩:=hL x (List.mem_of_getElem? hx)
 obtain ⟨u,whole,hu,hu1,hu2,huz,hwh⟩:∃ u whole,(XJ 10 L)[k]?=some u∧Go.Lib.hasSuffix u [10]=whole∧Go.Lib.trimSuffix u [10]=x∧u.length≤80001∧((whole=true∧L.drop (k+1)≠[])∨(whole=false∧L.drop (k+1)=[])):=by
  by_cases hl:k+1=L.length
  · have:=OY x10
    exact ⟨x,false,qw hx hl,this.1,this.2,by omega,.inr ⟨rfl,List.drop_eq_nil_of_le C1⟩⟩
  · have:=MG 10 x
    refine ⟨_,true,CM hx C1,this.1,this.2,by simp;omega,.inl ⟨rfl,λ h=>?_⟩⟩
    have:=congrArg List.length h
    rw [List.length_drop,List.length_nil] at this
    omega
 have X4:w.cell? ⟨b16,k*1,none⟩=some (.string (mkB u)):=by
  rw [Nat.mul_one,(Za h.ln).1,hlcs]
  simp [hu]
 unfold Lf
 refine Qqh X4 ?_
 refine Zi (Ce w u 10 C1) ?_
 rintro _ w' ⟨rfl,rfl⟩
 rw [hu1,hu2]
 unfold Rx
 refine Qqv ?_
 refine Zi (DV (hE.ext h.e).env x 32 C1) ?_
 rintro _ w1 ⟨e1,rfl,hW⟩
 refine Zi (Mu w1 (hE.ext (h.e.trans e1)) x xz) ?_
 rintro _ w2 ⟨e2,v,y,ok,rfl,⟨bv,tv,rfl,hob,hot⟩,hrd⟩
 unfold Rw
 refine Qqv ?_
 have o1:bv.oneCell'=true:=Zd.oneCell (Vy hob)
 have o2:tv.oneCell'=true:=Zd.oneCell (Qv hot)
 rw [Va Vr (Zt w2 _ _) (vs:=Zo y bv tv) rfl (Nat.le_refl _) (by intro v hv;simp only [List.mem_cons,List.not_mem_nil,or_false] at hv;rcases hv with rfl | rfl | rfl | rfl | rfl | rfl | rfl<;>first | rfl | assumption)]
 have hfill:=PA (w:=w2) (cs := #[Value.string ByteArray.empty,Value.int IntKind.i64 0,Value.string ByteArray.empty,Value.int IntKind.i64 0,Value.int IntKind.i64 0,Value.slice none 0 0,Value.slice none 0 0]) (T:=43) (vs:=Zo y bv tv) rfl
 generalize (Yn (w2.alloc (.cells #[Value.string ByteArray.empty,Value.int IntKind.i64 0,Value.string ByteArray.empty,Value.int IntKind.i64 0,Value.int IntKind.i64 0,Value.slice none 0 0,Value.slice none 0 0] 43)) w2.heap.size 0 (Zo y bv tv))=w3 at hfill ⊢
 obtain ⟨e3,o3⟩:=hfill
 have hb1:w0.heap.size≤w1.heap.size:=(h.e.trans e1).size
 have hLn:LnS b16 lcs w0 w3 w' p2 w2.heap.size B w'.heap.size st rv x y bv tv ok:=⟨h,e1.trans (e2.trans e3),Nat.le_refl _,Zd.ext Gh hW (e2.trans e3),(e1.trans e2).size,o3,(hob.ext e3).base hb1,(hot.ext e3).base hb1,hrd⟩
 try unfold N0
 rw [LZ]
 exact Pn hLn hk hc h0 ho hwh hK1 λ st' w' rv' B' hr hs hp=>hN st' w' rv' B' (by
  by_cases hl:k+1 < L.length
  · exact hl
  · exact absurd (List.drop_eq_nil_of_le C1) hr) (by rw [ho,z7 hr hs]) (Pt hc hs) hp
end
def CK (w0:Wd) (hE:UN w0) (s:BAr) (hs:s.size≤1000000000) (hl:(Ye 10 s.data.toList).length≤1000000) (hz:∀ u∈Ye 10 s.data.toList,u.length≤80000):Ret Pg 22 #[.string s] w0 (xf w0 (zB s)):=by
 refine ZkD (R:=ZE _) ?_;unfold n19
 refine Qqv ?_
 have oV:=Zt w0 (Z2 ⟨ByteArray.empty,[]⟩ (.slice none 0 0)).toArray 24
 have eV:Ext w0 (w0.alloc (.cells (Z2 ⟨ByteArray.empty,[]⟩ (.slice none 0 0)).toArray 24)):=(Ext.refl w0).alloc _
 change ZU _ _ _ _ (w0.alloc (.cells (Z2 ⟨ByteArray.empty,[]⟩ (.slice none 0 0)).toArray 24)) _
 generalize (w0.alloc (.cells (Z2 ⟨ByteArray.empty,[]⟩ (.slice none 0 0)).toArray 24))=V at oV eV ⊢
 have hp:s=mkB s.data.toList:=(ZeI s).symm
 generalize hsl:s.data.toList=l at hl hz hp ⊢
 have hll:l.length≤1000000000:=by rw [← hsl,Vb];exact hs
 subst hp
 have ho:zB (mkB l)=goQ KG 0 (Ye 10 l):=by unfold zB;rw [XL]
 generalize zB (mkB l)=o at ho ⊢
 refine Zi (j6 (hE.ext eV).env l 10 hll) ?_
 rintro _ w1 ⟨e1,rfl,oL⟩
 have PP:∀ u∈Ye 10 l,(10:UInt8) ∉ u∧u.length≤80000:=λ u hu=>⟨zV hu,hz u hu⟩
 have Y7:=QE 10 l
 generalize Ye 10 l=L at hl hz oL PP Y7 ho ⊢
 have hL0:0 < L.length:=List.length_pos_iff.2 Y7
 unfold Ry
 refine Qqv ?_
 generalize hp2:w0.heap.size=p2 at oV ⊢
 have hP0:PS V.heap.size (((XJ 10 L).map mkB).map Value.string).toArray w0 w1 p2 w1.heap.size KG (.slice none 0 0):=⟨oL,eV.trans e1,by omega,e1.obj oV,(eV.trans e1).size,Nat.le_refl _,[],[],ZM.nil _ _ _ _ _,⟨rfl,λ k x cs hx=>by simp [KG] at hx⟩,⟨rfl,λ k x cs hx=>by simp [KG] at hx⟩⟩
 refine Ur (λ a b c w=>∃ (k:Nat) (st:PsD) (rv:Vl) (B:Nat),a = .int .i64 0∧b = .bool st.cur.isSome∧c = .int .i64 (k:Int)∧k < L.length∧PS V.heap.size (((XJ 10 L).map mkB).map Value.string).toArray w0 w p2 B st rv∧o=goQ st k (L.drop k)∧Cnt st k∧(k=0→st.cur=none)) (λ _ _ c _=>L.length - (intOf c).toNat) ⟨0,KG,_,_,rfl,rfl,rfl,hL0,hP0,ho,⟨Nat.le_refl _,λ r hr=>by cases hr⟩,λ _=>rfl⟩ ?_
 rintro _ _ _ w ⟨k,st,rv,B,rfl,rfl,rfl,hk,hP,hok,hc,h0⟩
 have dk:decide ((k:Int) < L.length)=true:=by simp only [decide_eq_true_eq];omega
 obtain ⟨x,hx⟩:=getElem?_lt hk
 refine Qqh dk ?_
 refine Po hE hP PP rfl hx C1 hc h0 hok (λ w' rv' B' st' hp ho'=>?_) (λ st' w' rv' B' hk1 ho' hc' hp=>?_)
 · exact OB (n:=k+1) hp ho'
 · exact ⟨⟨k+1,st',rv',B',rfl,rfl,rfl,hk1,hp,ho',hc',λ h=>by omega⟩,Yh C1⟩
def xZ:FrD:=⟨⟨#[110]⟩,7,⟨#[]⟩,0,0,[],[]⟩
def Um:FrD:=⟨⟨#[98]⟩,1,⟨#[98]⟩,0,0,[],[]⟩
def yJ:FrD:=⟨⟨#[110]⟩,1,⟨#[98]⟩,0,0,[],[]⟩
def Fh:Xn:=⟨⟨#[109]⟩,[⟨⟨#[65]⟩,⟨#[65]⟩,[xZ,Um]⟩]⟩
def nF:Zv:=⟨⟨#[110]⟩,1,8,false,false,0,255,0,[],⟨#[]⟩,⟨#[]⟩,⟨#[]⟩,[],0,0⟩
def bF:Zv:=⟨⟨#[98]⟩,4,0,false,false,0,0,0,[⟨⟨#[110]⟩,1⟩],⟨#[]⟩,⟨#[]⟩,⟨#[]⟩,[],0,0⟩
def Yl:QF:=⟨⟨#[100]⟩,[⟨⟨#[65]⟩,[nF,bF]⟩],⟨#[65]⟩⟩
def heap_alloc (w:Wd) (o:Obj) (k:Nat):(w.alloc o).heap[k]?=if k=w.heap.size then some o else w.heap[k]?:=by
 simp only [World.alloc,Array.getElem?_push]
def U7 {α:Type} {w:Wd} {b n:Nat} {T:TypeId} {E:Wd→List Vl→α→Prop} {cs:AVl} {l:List α} (ho:w.heap[b]?=some (.cells cs T (0,0))) (hl:l.length≤1000) (h:∀ k x,l[k]?=some x→∃ c:List Vl,c.length=n∧(cs.toList.drop (k*n)).take n=c∧E w c x):Zd w n E (.slice (some ⟨b,0,none⟩) l.length l.length) l:=by
 refine ⟨_,_,rfl,Nat.le_refl _,by omega,λ _=>⟨b,0,rfl,λ k x hx=>?_⟩⟩
 obtain ⟨c,h1,h2,h3⟩:=h k x hx
 refine ⟨c,h1,λ j v hv=>?_,h3⟩
 rw [(Za ho).1,Nat.zero_add,← Array.getElem?_toList]
 have hj:j < n:=by rw [← h1];exact (Qqx hv).1
 rw [← h2,List.getElem?_take,if_pos hj,List.getElem?_drop] at hv
 exact hv
abbrev Yb:Vl := .slice none 0 0
structure Zao (w0 w:Wd) (v:Vl) (bF bM:Nat):Prop where
 e:Ext w0 w
 lF:w0.heap.size≤bF
 lM:w0.heap.size≤bM
 ne:bF≠bM
 oF:w.heap[bF]?=some (.cells (Zo xZ Yb Yb++Zo Um Yb Yb).toArray 43 (0,0))
 oM:w.heap[bM]?=some (.cells #[.string ⟨#[65]⟩,.string ⟨#[65]⟩,.slice (some ⟨bF,0,none⟩) 2 2] 60 (0,0))
 v:v = .agg #[.string ⟨#[109]⟩,.slice (some ⟨bM,0,none⟩) 1 1]
def Gq (w0:Wd):Ret Pg 30 #[] w0 λ r w'=>∃ bF bM,Zao w0 w' r bF bM:=by
 refine Zk8 (R:=ZE _) ?_;unfold n53
 refine Qqv ?_
 refine ⟨w0.heap.size+1,w0.heap.size+1+1,ee,by omega,by omega,by omega,?_,?_,rfl⟩
 · repeat (first | rw [heap_alloc,if_neg (by simp only [World.size_alloc];omega)] | rw [heap_alloc,if_pos (by simp only [World.size_alloc])])
   rfl
 · repeat (first | rw [heap_alloc,if_neg (by simp only [World.size_alloc];omega)] | rw [heap_alloc,if_pos (by simp only [World.size_alloc])])
def IR (w:Wd) (x:FrD) (hb:x.bytes=[]) (ht:x.table=[]):EFr w (Zo x Yb Yb) x:=⟨_,_,rfl,by rw [hb];exact Zd.nil ..,by rw [ht];exact Zd.nil ..⟩
def Eo {w:Wd} {b:Nat} {x y:FrD} (ho:w.heap[b]?=some (.cells (Zo x Yb Yb++Zo y Yb Yb).toArray 43 (0,0))) (hx:x.bytes=[]) (hx':x.table=[]) (hy:y.bytes=[]) (hy':y.table=[]):Ve w (.slice (some ⟨b,0,none⟩) 2 2) [x,y]:=by
 refine U7 (l:=[x,y]) ho (by simp) λ k z hz=>?_
 match k,hz with
 | 0,hz=>cases hz;exact ⟨_,rfl,rfl,IR w _ hx hx'⟩
 | 1,hz=>cases hz;exact ⟨_,rfl,rfl,IR w _ hy hy'⟩
 | _+2,hz=>simp at hz
def EE {w:Wd} {b:Nat} {r:MrD} {fv:Vl} (ho:w.heap[b]?=some (.cells (YZ r fv).toArray 60 (0,0))) (hf:Ve w fv r.fields):Gz w (.slice (some ⟨b,0,none⟩) 1 1) [r]:=by
 refine U7 (l:=[r]) ho (by simp) λ k z hz=>?_
 match k,hz with
 | 0,hz=>cases hz;exact ⟨_,rfl,rfl,fv,rfl,hf⟩
 | _+1,hz=>simp at hz
def Zao.val {w0 w:Wd} {v:Vl} {bF bM:Nat} (h:Zao w0 w v bF bM):Xx w v Fh:=⟨_,h.v,EE h.oM (Eo h.oF rfl rfl rfl rfl)⟩
def Xy (w0:Wd):Ret Pg 31 #[] w0 λ r w'=>Qg w' r Yl∧Ext w0 w':=by
 refine Zk9 (R:=ZE _) ?_;unfold n54
 refine Qqv ?_
 refine ⟨⟨_,rfl,?_⟩,ee⟩
 generalize hW:World.alloc _ _=W
 have o1:W.heap[w0.heap.size+1+1]?=some (.cells #[.string ⟨#[110]⟩,.int .i64 1] 128 (0,0)):=by rw [← hW]; (repeat (first | rw [heap_alloc,if_neg (by simp only [World.size_alloc];omega)] | rw [heap_alloc,if_pos (by simp only [World.size_alloc])]));try rfl
 have o2:W.heap[w0.heap.size+1+1+1+1]?=some (.cells (Zw nF Yb Yb++Zw bF (.slice (some ⟨w0.heap.size+1+1,0,none⟩) 1 1) Yb).toArray 123 (0,0)):=by rw [← hW]; (repeat (first | rw [heap_alloc,if_neg (by simp only [World.size_alloc];omega)] | rw [heap_alloc,if_pos (by simp only [World.size_alloc])]));try rfl
 have o3:W.heap[w0.heap.size+1+1+1+1+1]?=some (.cells (Yj ⟨⟨#[65]⟩,[nF,bF]⟩ (.slice (some ⟨w0.heap.size+1+1+1+1,0,none⟩) 2 2)).toArray 74 (0,0)):=by rw [← hW]; (repeat (first | rw [heap_alloc,if_neg (by simp only [World.size_alloc];omega)] | rw [heap_alloc,if_pos (by simp only [World.size_alloc])]));try rfl
 refine U7 (l:=Yl.msgs) o3 K7 λ k z hz=>?_
 match k,hz with
 | 0,hz=>
  cases hz
  refine ⟨_,rfl,rfl,_,rfl,U7 (l:=[nF,bF]) o2 (by simp) λ k z hz=>?_⟩
  match k,hz with
  | 0,hz=>cases hz;exact ⟨_,rfl,rfl,_,_,rfl,Zd.nil ..,Zd.nil ..⟩
  | 1,hz=>
   cases hz
   refine ⟨_,rfl,rfl,_,_,rfl,U7 (l:=bF.terms) o1 K7 λ k z hz=>?_,Zd.nil ..⟩
   match k,hz with
   | 0,hz=>cases hz;exact ⟨_,rfl,rfl,rfl⟩
   | _+1,hz=>simp [bF] at hz
  | _+2,hz=>simp at hz
 | _+1,hz=>simp [Yl] at hz
def Fs:Xn:=⟨⟨#[109]⟩,[⟨⟨#[65]⟩,⟨#[65]⟩,[xZ]⟩]⟩
def FA:Xn:=⟨⟨#[109]⟩,[⟨⟨#[65]⟩,⟨#[65]⟩,[yJ,Um]⟩]⟩
def ZaU:Gv Fh Yl Yl=none:=by rfl
def MX:Gv Fs Yl Yl=some (0,-1,10):=by rfl
def MY:Gv FA Yl Yl=some (0,0,5):=by rfl
def ZbO:Ye 10 [109,97,112,112,105,110,103,32,109,10,109,97,112,32,65]=[[109,97,112,112,105,110,103,32,109],[109,97,112,32,65]]:=by rfl
def ZaT:zB ⟨#[109,97,112,112,105,110,103,32,109,10,109,97,112,32,65]⟩=(none,2):=by
 unfold zB
 rw [show (⟨#[109,97,112,112,105,110,103,32,109,10,109,97,112,32,65]⟩:BAr).data.toList=[109,97,112,112,105,110,103,32,109,10,109,97,112,32,65] from rfl,ZbO,z7 (by simp) (s':=⟨⟨#[109]⟩,[],none⟩) (by rfl)]
 rfl
def ZfU:FrD:=⟨⟨#[]⟩,2,⟨#[]⟩,5,0,[],[]⟩
def xp:FrD:=⟨⟨#[]⟩,5,⟨#[]⟩,0,0,[],[⟨1,2,9⟩]⟩
def Zkv:LM (Cp ZfU 3) = .tuple #[.int .i64 8,.bool true]:=by rfl
def Zkw:LM (Cp xp 2) = .tuple #[.int .i64 9,.bool true]:=by rfl
def Zkx:LM (Cp xp 3) = .tuple #[.int .i64 0,.bool false]:=by rfl
def Zex:∀ m∈[Fh,Fs,FA],∀ r∈m.rules,∀ x∈r.fields,inF x=true:=K7
end Go.Proofs.YtgalpdihjbinjaaGreatDoor
