/-
  phrasebooklaw45.MappingIdentities returns true for every definition and every mapping, and leaves its arguments as they were; no condition is asked but that the tables of the library lie as the program lays them (the card ties them).
-/
import Derived.Test.YtgalpdihjbinjaaGreatDoorXg5
set_option linter.all false
set_option maxHeartbeats 40000000
set_option maxRecDepth 100000
open Go.Instr (loadAt storeAt fieldAt indexAt buildSlice mapUpdate makeFunc alloc build box extract fill sliceAt lookup makeInterface)
open Go.Proofs.Tryz
namespace Go.Proofs.YtgalpdihjbinjaaGreatDoor
open Sw
open Go.RowKit (intOf Below)
def O9 (x y:UL):(!(decide (x.low=y.low)&&(decide (x.high=y.high)&&decide (x.to=y.to))))=!decide (x=y):=by
 cases x;cases y
 congr 1
 rw [Bool.eq_iff_iff]
 simp
def Zax (x y:UInt8):((x.toNat:Int) != (y.toNat:Int))=!decide (x=y):=by
 rw [Bool.eq_iff_iff]
 simp only [bne_iff_ne,ne_eq,Int.natCast_inj,Bool.not_eq_true',decide_eq_false_iff_not]
 exact not_congr ⟨λ h=>UInt8.toNat_inj.1 h,λ h=>by rw [h]⟩
def B3 (w0:Wd) (v u:Vl) (l m:List UL) (hl:Q0 w0 v l) (hm:Q0 w0 u m) :
 Ret Pg 64 #[v,u] w0 λ r w'=>r = .bool (decide (l=m))∧Ext w0 w':=by
 obtain ⟨A,c,rfl,hlc,hcm,hlm,YS⟩:=Ze.open hl
 obtain ⟨A',c',rfl,hlc',hcm',hlm',hel'⟩:=Ze.open hm
 refine ZhK (R:=ZR _) ?_;unfold ZhJ
 refine Qqk ?_
 by_cases YH:l.length=m.length
 · have Y3:((l.length:Int) != (m.length:Int))=false:=by simp [YH]
   simp (disch:=try exact DI) only [↓PR,QR,simprocAttr,↓JC,↓JD,Y3]
   refine ZE (λ a0 w=>∃ (k:Nat) , a0 = .int .i64 (k:Int)∧k≤l.length∧Ext w0 w∧l.take k=m.take k) (λ a0 _=>l.length - (intOf a0).toNat) ⟨0,rfl,Nat.zero_le _,ee,rfl⟩ ?_
   rintro _ w ⟨k,rfl,hk,e,hI⟩
   have se:=e.size
   rcases ZH hk with ⟨x,hx,hd,Ym,ZK⟩ | ⟨hk,hd,ZK⟩
   · obtain ⟨b,o,cs,rfl,_,hA,rfl⟩:=YS k x hx
     obtain ⟨y,hy⟩:=getElem?_lt (l:=m) (k:=k) K9
     obtain ⟨b',o',cs',rfl,_,hA',rfl⟩:=hel' k y hy
     have hlt':k < m.length:=K9
     have eD:Ext w0 w.drew:=e.wdrew
     simp (disch:=try exact DI) only [↓PR,QR,simprocAttr,↓JC,↓JD,ZK]
     refine ZB ?_
     simp (disch:=try exact DI) only [↓PR,QR,simprocAttr,↓JC,↓JD,hA.c3,hA'.c3]
     rw [O9]
     by_cases hxy:x=y
     · subst hxy
       simp only [decide_true,Bool.not_true]
       simp (disch:=try exact DI) only [↓PR,QR,simprocAttr,↓JC,↓JD]
       exact ⟨⟨k+1,rfl,by omega,ee,by rw [List.take_add_one,List.take_add_one,hx,hy,hI]⟩,ZQ (kd := .i64) Ym⟩
     · simp only [hxy,decide_false,Bool.not_false]
       simp (disch:=try exact DI) only [↓PR,QR,simprocAttr,↓JC,↓JD]
       refine ⟨?_,eD⟩
       have hne':¬ l=m:=by
        rintro rfl
        rw [hx] at hy
        injection hy with hy
        exact hxy hy
       simp [hne']
   · subst hk
     simp (disch:=try exact DI) only [↓PR,QR,simprocAttr,↓JC,↓JD,ZK]
     rw [List.take_length,YH,List.take_length] at hI
     exact ⟨by simp [hI],e⟩
 · have Y3:((l.length:Int) != (m.length:Int))=true:=by simp;omega
   simp (disch:=try exact DI) only [↓PR,QR,simprocAttr,↓JC,↓JD,Y3]
   have hne':¬ l=m:=λ h=>YH (by rw [h])
   exact ⟨by simp [hne'],Ext.refl _⟩
def jH (w0:Wd) (v u:Vl) (l m:List UInt8) (hl:GT w0 v l) (hm:GT w0 u m) :
 Ret Pg 63 #[v,u] w0 λ r w'=>r = .bool (decide (l=m))∧Ext w0 w':=by
 obtain ⟨A,c,rfl,hlc,hcm,hlm,YS⟩:=Ze.open hl
 obtain ⟨A',c',rfl,hlc',hcm',hlm',hel'⟩:=Ze.open hm
 refine ZhO (R:=ZR _) ?_;unfold ZhN
 refine Qqk ?_
 by_cases YH:l.length=m.length
 · have Y3:((l.length:Int) != (m.length:Int))=false:=by simp [YH]
   simp (disch:=try exact DI) only [↓PR,QR,simprocAttr,↓JG,↓JH,Y3]
   refine ZE (λ a0 w=>∃ (k:Nat) , a0 = .int .i64 (k:Int)∧k≤l.length∧Ext w0 w∧l.take k=m.take k) (λ a0 _=>l.length - (intOf a0).toNat) ⟨0,rfl,Nat.zero_le _,ee,rfl⟩ ?_
   rintro _ w ⟨k,rfl,hk,e,hI⟩
   have se:=e.size
   rcases ZH hk with ⟨x,hx,hd,Ym,ZK⟩ | ⟨hk,hd,ZK⟩
   · obtain ⟨b,o,cs,rfl,_,hA,rfl⟩:=YS k x hx
     obtain ⟨y,hy⟩:=getElem?_lt (l:=m) (k:=k) K9
     obtain ⟨b',o',cs',rfl,_,hA',rfl⟩:=hel' k y hy
     have hlt':k < m.length:=K9
     have eD:Ext w0 w.drew:=e.wdrew
     simp (disch:=try exact DI) only [↓PR,QR,simprocAttr,↓JG,↓JH,ZK]
     refine ZB ?_
     simp (disch:=try exact DI) only [↓PR,QR,simprocAttr,↓JG,↓JH,hA.c1,hA'.c1]
     rw [Zax]
     by_cases hxy:x=y
     · subst hxy
       simp only [decide_true,Bool.not_true]
       simp (disch:=try exact DI) only [↓PR,QR,simprocAttr,↓JG,↓JH]
       exact ⟨⟨k+1,rfl,by omega,ee,by rw [List.take_add_one,List.take_add_one,hx,hy,hI]⟩,ZQ (kd := .i64) Ym⟩
     · simp only [hxy,decide_false,Bool.not_false]
       simp (disch:=try exact DI) only [↓PR,QR,simprocAttr,↓JG,↓JH]
       refine ⟨?_,eD⟩
       have hne':¬ l=m:=by
        rintro rfl
        rw [hx] at hy
        injection hy with hy
        exact hxy hy
       simp [hne']
   · subst hk
     simp (disch:=try exact DI) only [↓PR,QR,simprocAttr,↓JG,↓JH,ZK]
     rw [List.take_length,YH,List.take_length] at hI
     exact ⟨by simp [hI],e⟩
 · have Y3:((l.length:Int) != (m.length:Int))=true:=by simp;omega
   simp (disch:=try exact DI) only [↓PR,QR,simprocAttr,↓JG,↓JH,Y3]
   have hne':¬ l=m:=λ h=>YH (by rw [h])
   exact ⟨by simp [hne'],Ext.refl _⟩
def UR (w0:Wd) (v u:Vl) (l m:List FrD) (g:FuncId) (caps:AVl) (hl:WK w0 v l) (hm:WK w0 u m) (hg:Callable Pg g)
 (hc:∀ w v u x y,Ext w0 w→Ws w v x→Ws w u y→Ret Pg g (#[v,u]++caps) w λ r w'=>r = .bool (decide (x=y))∧Ext w w') :
 Ret Pg 66 #[v,u,.func (.func g) #[] caps] w0 λ r w'=>r = .bool (decide (l=m))∧Ext w0 w':=by
 obtain ⟨A,c,rfl,hlc,hcm,hlm,YS⟩:=Ze.open hl
 obtain ⟨A',c',rfl,hlc',hcm',hlm',hel'⟩:=Ze.open hm
 refine ZhE (R:=ZR _) ?_;unfold ZhD
 refine Qqk ?_
 by_cases YH:l.length=m.length
 · have Y3:((l.length:Int) != (m.length:Int))=false:=by simp [YH]
   simp (disch:=try exact DI) only [↓PR,QR,simprocAttr,↓zg,↓zh,↓zi,Y3]
   refine ZE (λ a0 w=>∃ (k:Nat) , a0 = .int .i64 (k:Int)∧k≤l.length∧Ext w0 w∧l.take k=m.take k) (λ a0 _=>l.length - (intOf a0).toNat) ⟨0,rfl,Nat.zero_le _,ee,rfl⟩ ?_
   rintro _ w ⟨k,rfl,hk,e,hI⟩
   have se:=e.size
   rcases ZH hk with ⟨x,hx,hd,Ym,ZK⟩ | ⟨hk,hd,ZK⟩
   · obtain ⟨b,o,cs,rfl,_,hA,hE1⟩:=YS k x hx
     obtain ⟨y,hy⟩:=getElem?_lt (l:=m) (k:=k) K9
     obtain ⟨b',o',cs',rfl,_,hA',hE2⟩:=hel' k y hy
     have hlt':k < m.length:=K9
     obtain ⟨bv1,tv1,rfl,hB1,hT1,hb1,ht1⟩:=hE1.op
     obtain ⟨bv2,tv2,rfl,hB2,hT2,hb2,ht2⟩:=hE2.op
     have ea:∀ o,Ext w0 (w.alloc o):=λ o=>e.alloc o
     have e1:=ea (.cells (ZC x bv1 tv1).toArray 43)
     simp (disch:=try exact DI) only [↓PR,QR,simprocAttr,↓zg,↓zh,↓zi,ZK,hA.c7,hA'.c7]
     generalize hW:World.alloc (World.alloc w _) _=W
     have e2:Ext w0 W:=by rw [← hW];exact ee
     clear hW
     rw [YO hg]
     refine zcr (hc W _ _ x y e2 ⟨bv1,tv1,rfl,GT.ext hB1 e2,Q0.ext hT1 e2⟩ ⟨bv2,tv2,rfl,GT.ext hB2 e2,Q0.ext hT2 e2⟩) λ w1 e3=>?_
     by_cases hxy:x=y
     · subst hxy
       simp only [decide_true]
       simp (disch:=try exact DI) only [↓PR,QR,simprocAttr,↓zg,↓zh,↓zi]
       exact ⟨⟨k+1,rfl,by omega,ee,by rw [List.take_add_one,List.take_add_one,hx,hy,hI]⟩,ZQ (kd := .i64) Ym⟩
     · simp only [hxy,decide_false]
       simp (disch:=try exact DI) only [↓PR,QR,simprocAttr,↓zg,↓zh,↓zi]
       have hne':¬ l=m:=by
        rintro rfl
        rw [hx] at hy
        injection hy with hy
        exact hxy hy
       exact ⟨by simp [hne'],e2.trans e3⟩
   · subst hk
     simp (disch:=try exact DI) only [↓PR,QR,simprocAttr,↓zg,↓zh,↓zi,ZK]
     rw [List.take_length,YH,List.take_length] at hI
     exact ⟨by simp [hI],e⟩
 · have Y3:((l.length:Int) != (m.length:Int))=true:=by simp;omega
   simp (disch:=try exact DI) only [↓PR,QR,simprocAttr,↓zg,↓zh,↓zi,Y3]
   have hne':¬ l=m:=λ h=>YH (by rw [h])
   exact ⟨by simp [hne'],Ext.refl _⟩
def Ur (w0:Wd) (v u:Vl) (l m:List MrD) (g:FuncId) (caps:AVl) (hl:VG w0 v l) (hm:VG w0 u m) (hg:Callable Pg g)
 (hc:∀ w v u x y,Ext w0 w→UT w v x→UT w u y→Ret Pg g (#[v,u]++caps) w λ r w'=>r = .bool (decide (x=y))∧Ext w w') :
 Ret Pg 67 #[v,u,.func (.func g) #[] caps] w0 λ r w'=>r = .bool (decide (l=m))∧Ext w0 w':=by
 obtain ⟨A,c,rfl,hlc,hcm,hlm,YS⟩:=Ze.open hl
 obtain ⟨A',c',rfl,hlc',hcm',hlm',hel'⟩:=Ze.open hm
 refine ZhG (R:=ZR _) ?_;unfold ZhF
 refine Qqk ?_
 by_cases YH:l.length=m.length
 · have Y3:((l.length:Int) != (m.length:Int))=false:=by simp [YH]
   simp (disch:=try exact DI) only [↓PR,QR,simprocAttr,↓zj,↓zl,↓zo,Y3]
   refine ZE (λ a0 w=>∃ (k:Nat) , a0 = .int .i64 (k:Int)∧k≤l.length∧Ext w0 w∧l.take k=m.take k) (λ a0 _=>l.length - (intOf a0).toNat) ⟨0,rfl,Nat.zero_le _,ee,rfl⟩ ?_
   rintro _ w ⟨k,rfl,hk,e,hI⟩
   have se:=e.size
   rcases ZH hk with ⟨x,hx,hd,Ym,ZK⟩ | ⟨hk,hd,ZK⟩
   · obtain ⟨b,o,cs,rfl,_,hA,hE1⟩:=YS k x hx
     obtain ⟨y,hy⟩:=getElem?_lt (l:=m) (k:=k) K9
     obtain ⟨b',o',cs',rfl,_,hA',hE2⟩:=hel' k y hy
     have hlt':k < m.length:=K9
     obtain ⟨fv1,rfl,hF1,ht1⟩:=hE1.op
     obtain ⟨fv2,rfl,hF2,ht2⟩:=hE2.op
     have ea:∀ o,Ext w0 (w.alloc o):=λ o=>e.alloc o
     have e1:=ea (.cells (ZT x fv1).toArray 60)
     simp (disch:=try exact DI) only [↓PR,QR,simprocAttr,↓zj,↓zl,↓zo,ZK,hA.c3,hA'.c3]
     generalize hW:World.alloc (World.alloc w _) _=W
     have e2:Ext w0 W:=by rw [← hW];exact ee
     clear hW
     rw [YO hg]
     refine zcr (hc W _ _ x y e2 ⟨fv1,rfl,WK.ext hF1 e2⟩ ⟨fv2,rfl,WK.ext hF2 e2⟩) λ w1 e3=>?_
     by_cases hxy:x=y
     · subst hxy
       simp only [decide_true]
       simp (disch:=try exact DI) only [↓PR,QR,simprocAttr,↓zj,↓zl,↓zo]
       exact ⟨⟨k+1,rfl,by omega,ee,by rw [List.take_add_one,List.take_add_one,hx,hy,hI]⟩,ZQ (kd := .i64) Ym⟩
     · simp only [hxy,decide_false]
       simp (disch:=try exact DI) only [↓PR,QR,simprocAttr,↓zj,↓zl,↓zo]
       have hne':¬ l=m:=by
        rintro rfl
        rw [hx] at hy
        injection hy with hy
        exact hxy hy
       exact ⟨by simp [hne'],e2.trans e3⟩
   · subst hk
     simp (disch:=try exact DI) only [↓PR,QR,simprocAttr,↓zj,↓zl,↓zo,ZK]
     rw [List.take_length,YH,List.take_length] at hI
     exact ⟨by simp [hI],e⟩
 · have Y3:((l.length:Int) != (m.length:Int))=true:=by simp;omega
   simp (disch:=try exact DI) only [↓PR,QR,simprocAttr,↓zj,↓zl,↓zo,Y3]
   have hne':¬ l=m:=λ h=>YH (by rw [h])
   exact ⟨by simp [hne'],Ext.refl _⟩
def Zbx d e f g (R:RT) w:=
 Zw f g (.bool false) λ b=>
 Zm (λ (a:Vl) (w:Wd)=>
 Zw b a (.bool false) λ h=>
 R (.returned h) w) λ c=>
 Zl b true (
 F0 43 d 6 R w λ i w=>
 L0 41 i R w λ j w=>
 F0 43 e 6 R w λ k w=>
 L0 41 k R w λ l w=>
 C0 64 #[j,l] R w λ a w=>
 c a w) (
 c undef w)
def Zby b c f g R w:=
 Zw f g (.bool false) λ d=>
 Zm (λ (a:Vl) (w:Wd)=>
 Zbx b c d a R w) λ e=>
 Zl d true (
 F0 43 b 5 R w λ h w=>
 L0 40 h R w λ i w=>
 F0 43 c 5 R w λ j w=>
 L0 40 j R w λ k w=>
 C0 63 #[i,k] R w λ a w=>
 e a w) (
 e undef w)
def Zbz b c f g R w:=
 Zw f g (.bool false) λ d=>
 Zm (λ (a:Vl) (w:Wd)=>
 Zby b c d a R w) λ e=>
 Zl d true (
 F0 43 b 4 R w λ h w=>
 L0 3 h R w λ i w=>
 F0 43 c 4 R w λ j w=>
 L0 3 j R w λ k w=>
 B0 .eql 3 false i k R w λ a w=>
 e a w) (
 e undef w)
def ZbA b c f g R w:=
 Zw f g (.bool false) λ d=>
 Zm (λ (a:Vl) (w:Wd)=>
 Zbz b c d a R w) λ e=>
 Zl d true (
 F0 43 b 3 R w λ h w=>
 L0 3 h R w λ i w=>
 F0 43 c 3 R w λ j w=>
 L0 3 j R w λ k w=>
 B0 .eql 3 false i k R w λ a w=>
 e a w) (
 e undef w)
def ZbB b c f g R w:=
 Zw f g (.bool false) λ d=>
 Zm (λ (a:Vl) (w:Wd)=>
 ZbA b c d a R w) λ e=>
 Zl d true (
 F0 43 b 2 R w λ h w=>
 L0 9 h R w λ i w=>
 F0 43 c 2 R w λ j w=>
 L0 9 j R w λ k w=>
 B0 .eql 9 false i k R w λ a w=>
 e a w) (
 e undef w)
def n10 f g R w:=
 opV Pg (box 43 f) (Zj R) w λ a w=>
 opV Pg (box 43 g) (Zj R) w λ b w=>
 F0 43 a 0 R w λ h w=>
 L0 9 h R w λ i w=>
 F0 43 b 0 R w λ j w=>
 L0 9 j R w λ k w=>
 B0 .eql 9 false i k R w λ d w=>
 Zm (λ (c:Vl) (w:Wd)=>
 ZbB a b d c R w) λ e=>
 Zl d true (
 F0 43 a 1 R w λ l w=>
 L0 39 l R w λ m w=>
 F0 43 b 1 R w λ n w=>
 L0 39 n R w λ o w=>
 B0 .eql 39 false m o R w λ c w=>
 e c w) (
 e undef w)
def ZkO:QqQ2 62 n10:=λ h=>by
 refine yD func62 ?_
 refine zs<|zr<|yv h λ h=>yv h λ h=>zm<|zn<|zk<|zs<|Zr<|yG 6<|yv h λ h=>yv h λ h=>yv h λ h=>yv h λ h=>yb h λ h=>?_
 refine zm<|zn<|yg1 5 5 true [11,12,13,14,15] 15 h (λ _ T hT h=>?_) λ σ w h=>?_
 · refine yv h λ h=>yv h λ h=>yv h λ h=>yv h λ h=>yb h λ h=>zn ?_
   exact zt hT h
 refine yG 2<|yp h λ h=>zm<|zn<|yg1 5 12 true [18,19,20,21,22] 22 h (λ _ T hT h=>?_) λ σ w h=>?_
 · refine yv h λ h=>yv h λ h=>yv h λ h=>yv h λ h=>yb h λ h=>zn ?_
   exact zt hT h
 refine yG 2<|yp h λ h=>zm<|zn<|yg1 5 19 true [25,26,27,28,29] 29 h (λ _ T hT h=>?_) λ σ w h=>?_
 · refine yv h λ h=>yv h λ h=>yv h λ h=>yv h λ h=>yb h λ h=>zn ?_
   exact zt hT h
 refine yG 2<|yp h λ h=>zm<|zn<|yg1 5 26 true [32,33,34,35,36] 36 h (λ _ T hT h=>?_) λ σ w h=>?_
 · refine yv h λ h=>yv h λ h=>yv h λ h=>yv h λ h=>yb h λ h=>zn ?_
   exact zt hT h
 refine yG 2<|yp h λ h=>zm<|zn<|yg1 5 33 true [39,40,41,42,43] 43 h (λ _ T hT h=>?_) λ σ w h=>?_
 · refine yv h λ h=>yv h λ h=>yv h λ h=>yv h λ h=>yc h c63 λ h=>zn ?_
   exact zt hT h
 refine yG 2<|yp h λ h=>zm<|zn<|yg1 5 40 true [46,47,48,49,50] 50 h (λ _ T hT h=>?_) λ σ w h=>?_
 · refine yv h λ h=>yv h λ h=>yv h λ h=>yv h λ h=>yc h c64 λ h=>zn ?_
   exact zt hT h
 exact yG 2<|yp h λ h=>zm<|zn<|ZG<|zk<|Zh<|Zf rfl rfl h
def G6 (x y:FrD):Bool:=decide (x.to=y.to)&&(x.kind == y.kind)&&decide (x.fr=y.fr)&&(x.add == y.add)&&(x.value == y.value)
def Zbq (x y:FrD):decide (x=y)=(G6 x y&&(decide (x.bytes=y.bytes)&&decide (x.table=y.table))):=by
 obtain ⟨a1,a2,a3,a4,a5,a6,a7⟩:=x
 obtain ⟨b1,b2,b3,b4,b5,b6,b7⟩:=y
 unfold G6
 rw [Bool.eq_iff_iff]
 simp only [FrD.mk.injEq,decide_eq_true_eq,Bool.and_eq_true,beq_iff_eq]
 constructor
 · rintro ⟨h1,h2,h3,h4,h5,h6,h7⟩
   exact ⟨⟨⟨⟨⟨h1,h2⟩,h3⟩,h4⟩,h5⟩,h6,h7⟩
 · rintro ⟨⟨⟨⟨⟨h1,h2⟩,h3⟩,h4⟩,h5⟩,h6,h7⟩
   exact ⟨h1,h2,h3,h4,h5,h6,h7⟩
def D1 (w0:Wd) (v u:Vl) (x y:FrD) (hx:Ws w0 v x) (hy:Ws w0 u y):Ret Pg 62 #[v,u] w0 λ r w'=>r = .bool (decide (x=y))∧Ext w0 w':=by
 obtain ⟨bv1,tv1,rfl,hB1,hT1,b1,t1⟩:=hx.op
 obtain ⟨bv2,tv2,rfl,hB2,hT2,b2,t2⟩:=hy.op
 refine ZkO (R:=ZR _) ?_;unfold n10
 rw [Yi]
 have o1:=Zv w0 (ZC x bv1 tv1).toArray 43
 have e1:Ext w0 (w0.alloc (.cells (ZC x bv1 tv1).toArray 43)):=(Ext.refl w0).alloc _
 generalize (w0.alloc (.cells (ZC x bv1 tv1).toArray 43))=W1 at o1 e1 ⊢
 rw [Yi]
 have o2:=Zv W1 (ZC y bv2 tv2).toArray 43
 have e2:Ext W1 (W1.alloc (.cells (ZC y bv2 tv2).toArray 43)):=(Ext.refl W1).alloc _
 generalize (W1.alloc (.cells (ZC y bv2 tv2).toArray 43))=W at o2 e2 ⊢
 replace o1:=e2.obj o1
 have e:=e1.trans e2
 generalize w0.heap.size=p1 at o1 ⊢
 generalize W1.heap.size=p2 at o2 ⊢
 rw [Zbq]
 unfold ZbB ZbA Zbz Zby Zbx Zm
 refine Qqh (Za o1).1 (Za o2).1 ?_
 have hd:(decide (x.to=y.to)&&(x.kind == y.kind)&&decide (x.fr=y.fr)&&(x.add == y.add)&&(x.value == y.value))=G6 x y:=rfl
 rw [hd]
 cases hh:G6 x y with
 | false=>
  refine Qqk ?_
  exact ⟨by simp,e⟩
 | true=>
  refine Qqk ?_
  refine zcr (jH W bv1 bv2 x.bytes y.bytes (hB1.ext e) (hB2.ext e)) λ w3 e3=>?_
  by_cases hb:x.bytes=y.bytes
  · rw [decide_eq_true hb]
    refine Qqh (Za (e3.obj o1)).1 (Za (e3.obj o2)).1 ?_
    refine zcr (B3 w3 tv1 tv2 x.table y.table (hT1.ext (e.trans e3)) (hT2.ext (e.trans e3))) λ w4 e4=>?_
    refine Qqk ?_
    exact ⟨by simp,e.trans (e3.trans e4)⟩
  · rw [decide_eq_false hb]
    refine Qqk ?_
    exact ⟨by simp,e.trans e3⟩
def ZfQ (x y:MrD):decide (x=y)=(decide (x.fr=y.fr)&&decide (x.to=y.to)&&decide (x.fields=y.fields)):=by
 obtain ⟨a1,a2,a3⟩:=x
 obtain ⟨b1,b2,b3⟩:=y
 rw [Bool.eq_iff_iff]
 simp only [MrD.mk.injEq,decide_eq_true_eq,Bool.and_eq_true]
 exact ⟨λ ⟨h1,h2,h3⟩=>⟨⟨h1,h2⟩,h3⟩,λ ⟨⟨h1,h2⟩,h3⟩=>⟨h1,h2,h3⟩⟩
def D2 (w0:Wd) (v u:Vl) (x y:MrD) (hx:UT w0 v x) (hy:UT w0 u y) (q:Nat) (T:TypeId) (oq:w0.heap[q]?=some (.cells #[.func (.func 62) #[] #[]] T (0,0))):Ret Pg 65 #[v,u,Qq4 q] w0 λ r w'=>r = .bool (decide (x=y))∧Ext w0 w':=by
 obtain ⟨fv1,rfl,hF1,t1⟩:=hx.op
 obtain ⟨fv2,rfl,hF2,t2⟩:=hy.op
 refine ZkP (R:=ZR _) ?_;unfold n13
 rw [Yi]
 have o1:=Zv w0 (ZT x fv1).toArray 60
 have e1:Ext w0 (w0.alloc (.cells (ZT x fv1).toArray 60)):=(Ext.refl w0).alloc _
 generalize (w0.alloc (.cells (ZT x fv1).toArray 60))=W1 at o1 e1 ⊢
 rw [Yi]
 have o2:=Zv W1 (ZT y fv2).toArray 60
 have e2:Ext W1 (W1.alloc (.cells (ZT y fv2).toArray 60)):=(Ext.refl W1).alloc _
 generalize (W1.alloc (.cells (ZT y fv2).toArray 60))=W at o2 e2 ⊢
 replace o1:=e2.obj o1
 have e:=e1.trans e2
 have oq':=e.obj oq
 generalize w0.heap.size=p1 at o1 ⊢
 generalize W1.heap.size=p2 at o2 ⊢
 rw [ZfQ]
 unfold ZbC Zm
 refine Qqb (Za o1).1 (Za o2).1 (Za oq').1 ?_
 cases hh:(decide (x.fr=y.fr)&&decide (x.to=y.to)) with
 | false=>
  refine Qqk ?_
  exact ⟨by simp,e⟩
 | true=>
  refine Qqk ?_
  refine zcr (UR W fv1 fv2 x.fields y.fields _ #[] (hF1.ext e) (hF2.ext e) c62 λ w v u a b _ h1 h2=>D1 w v u a b h1 h2) λ w3 e3=>?_
  refine Qqk ?_
  exact ⟨by simp,e.trans e3⟩
def PE (x y:Xd):decide (x=y)=(decide (x.name=y.name)&&decide (x.rules=y.rules)):=by
 obtain ⟨a1,a2⟩:=x
 obtain ⟨b1,b2⟩:=y
 rw [Bool.eq_iff_iff]
 simp only [Xd.mk.injEq,decide_eq_true_eq,Bool.and_eq_true]
def Az (w0:Wd) (v u:Vl) (x y:Xd) (hx:YN w0 v x) (hy:YN w0 u y):Ret Pg 27 #[v,u] w0 λ r w'=>r = .bool (decide (x=y))∧Ext w0 w':=by
 obtain ⟨fv1,rfl,hF1,t1⟩:=hx.op
 obtain ⟨fv2,rfl,hF2,t2⟩:=hy.op
 refine n9s (R:=ZR _) ?_;unfold n9
 rw [Yi]
 have o1:=Zv w0 (ZL x fv1).toArray 24
 have e1:Ext w0 (w0.alloc (.cells (ZL x fv1).toArray 24)):=(Ext.refl w0).alloc _
 generalize (w0.alloc (.cells (ZL x fv1).toArray 24))=W1 at o1 e1 ⊢
 rw [Yi]
 have o2:=Zv W1 (ZL y fv2).toArray 24
 have e2:Ext W1 (W1.alloc (.cells (ZL y fv2).toArray 24)):=(Ext.refl W1).alloc _
 generalize (W1.alloc (.cells (ZL y fv2).toArray 24))=W at o2 e2 ⊢
 replace o1:=e2.obj o1
 have e:=e1.trans e2
 generalize w0.heap.size=p1 at o1 ⊢
 generalize W1.heap.size=p2 at o2 ⊢
 rw [PE]
 have l1:=(Qqq o1).1
 have l2:=(Qqq o2).1
 have s1:∀ (w:Wd) (u:Vl) (j:Nat),(w.setCell ⟨W.heap.size,0,none⟩ u).cell? ⟨p1,j,none⟩=w.cell? ⟨p1,j,none⟩:=λ w u j=>Xs (.inl K9)
 have s2:∀ (w:Wd) (u:Vl) (j:Nat),(w.setCell ⟨W.heap.size,0,none⟩ u).cell? ⟨p2,j,none⟩=w.cell? ⟨p2,j,none⟩:=λ w u j=>Xs (.inl K9)
 have a1:∀ (o:Obj) (j:Nat),(W.alloc o).cell? ⟨p1,j,none⟩=W.cell? ⟨p1,j,none⟩:=λ o j=>World.cell?_of_block (((Ext.refl W).alloc o).block p1 l1)
 have a2:∀ (o:Obj) (j:Nat),(W.alloc o).cell? ⟨p2,j,none⟩=W.cell? ⟨p2,j,none⟩:=λ o j=>World.cell?_of_block (((Ext.refl W).alloc o).block p2 l2)
 unfold Zm
 refine QqK s1 s2 a1 a2 (Za o1).1 (Za o2).1 ?_
 cases hh:decide (x.name=y.name) with
 | false=>
  refine Qqk ?_
  exact ⟨by trivial,by first | exact e.alloc _ | exact (e.alloc _).setCell (Nat.le_trans e.size (Nat.le_refl _)) _⟩
 | true=>
  refine Qqk ?_
  have oV:=Zv W #[.func (.func 62) #[] #[]] 88
  have eV:Ext W (W.alloc (.cells #[.func (.func 62) #[] #[]] 88)):=(Ext.refl W).alloc _
  generalize (W.alloc (.cells #[.func (.func 62) #[] #[]] 88))=V at oV eV ⊢
  refine zcr (Ur V fv1 fv2 x.rules y.rules _ _ (hF1.ext (e.trans eV)) (hF2.ext (e.trans eV)) c65 λ w v u a b ew h1 h2=>D2 w v u a b h1 h2 _ _ (ew.obj oV)) λ w3 e3=>?_
  refine Qqk ?_
  exact ⟨by trivial,e.trans (eV.trans e3)⟩
def idF (f:Zt):Option FrD:=if 4≤YV f then some ⟨f.name,6,f.name,0,0,[],[]⟩ else if YV f≠0 then some ⟨f.name,1,f.name,0,0,[],[]⟩ else none
def idR (x:Yh):MrD:=⟨x.name,x.name,x.fields.filterMap idF⟩
def idM (d:Xc):Xd:=⟨d.name,d.msgs.map idR⟩
def xr (f:Zt):(YV f=0∧idF f=none)∨(4≤YV f∧idF f=some ⟨f.name,6,f.name,0,0,[],[]⟩)∨(YV f≠0∧¬ 4≤YV f∧idF f=some ⟨f.name,1,f.name,0,0,[],[]⟩):=by
 unfold idF
 by_cases h:4≤YV f
 · rw [if_pos h];exact .inr (.inl ⟨h,rfl⟩)
 · rw [if_neg h]
   by_cases h0:YV f=0
   · rw [if_neg (by simpa using h0)];exact .inl ⟨h0,rfl⟩
   · rw [if_pos h0];exact .inr (.inr ⟨h0,h,rfl⟩)
abbrev Vr (x:FrD):List Vl:=ZC x Yv Yv
def EJ (x:FrD):Prop:=x.bytes=[]∧x.table=[]
def Kf {w:Wd} {QP:PEn} {k:KV} {base:Nat} {v:Vl} {l:List FrD} (x:FrD) {b:Nat} (Gx:Yc w base 43 7 Vr v l) (hc:w.heap[b]?=some (.cells (Vr x).toArray 43 (0,0))) (VX:base≤w.heap.size) (hl:l.length≤1048576)
 (hk:∀ v' w',Yc w' base 43 7 Vr v' (l++[x])→w.grownBy w' v.ownBlock→k v' w') :
 opV Pg (Builtin.append_ #[58,58] 58 #[v,.slice (some ⟨b,0,none⟩) 1 1]) QP w k:=by
 have hby:=Zfg
 refine WV (l':=[x]) underlying58 KE rfl K7 (λ _=>rfl) (λ y hy u hu=>by simp only [List.mem_cons,List.not_mem_nil,or_false] at hu;rcases hu with rfl | rfl | rfl | rfl | rfl | rfl | rfl<;>rfl) Gx (λ j y hy=>?_) VX ?_ (by simp;omega) hk
 · cases j with
   | zero=>
    simp at hy;subst hy
    intro j v hv
    rw [(Za hc).1]
    simpa using hv
   | succ j=>simp at hy
 · simp only [List.length_cons,List.length_nil]
   exact Nat.le_trans (Nat.mul_le_mul (Nat.add_le_add_right hl 1) hby) K7
structure InI (w1 w:Wd) (p7:Nat) (n:BAr) (fv:Vl) (fs:List FrD):Prop where
 e:Ext w1 w
 l7:w1.heap.size≤p7
 o7:w.heap[p7]?=some (.cells (ZT ⟨n,n,fs⟩ fv).toArray 60 (0,0))
 own:Yc w w1.heap.size 43 7 Vr fv fs
section
variable {w1 w:Wd} {p7 p9:Nat} {n:BAr} {fv tv cv:Vl} {fs:List FrD} {f:Zt} {K3:WPr} {R:RT}
def InI.go {w':Wd} (h:InI w1 w p7 n fv fs) (e:Ext w w'):InI w1 w' p7 n fv fs:=⟨h.e.trans e,h.l7,e.obj h.o7,h.own.ext e⟩
def InI.add (h:InI w1 w p7 n fv fs) (x:FrD) {V w':Wd} {v':Vl} (eV:Ext w V) (hO':Yc w' w1.heap.size 43 7 Vr v' (fs++[x])) (hg:V.grownBy w' fv.ownBlock):InI w1 (w'.setCell ⟨p7,2,none⟩ v') p7 n v' (fs++[x]):=by
 have hOV:=h.own.ext eV
 have o7:=Vg hOV hg (eV.obj h.o7) K7
 have e':Ext w1 w':=(h.e.trans eV).grown hg λ b hb=>(World.ownsRow.lt h.own b hb).1
 have hc:Chg p7 w' (w'.setCell ⟨p7,2,none⟩ v'):=⟨by rw [World.size_setCell];exact Nat.le_refl _,λ b _ hb=>YT.setCell _ p7 _ _ b hb⟩
 exact ⟨e'.setCell (p:=⟨p7,2,none⟩) h.l7 _,h.l7,Zy (o:=2) o7 v',QN hO' hc (XD hO' o7 K7)⟩
def ZaC (h:InI w1 w p7 n fv fs) (o9:w.heap[p9]?=some (.cells (Zq f tv cv).toArray 123 (0,0))) (hl:fs.length≤1048576)
 (hK:∀ w' fv',InI w1 w' p7 n fv' (fs++[⟨f.name,6,f.name,0,0,[],[]⟩])→K3 w'):PU (Qq4 p7) (Qq4 p9) K3 R w:=by
 unfold PU
 refine Qqh (Za h.o7).1 (Za o9).1 ?_
 have eV:Ext w (w.alloc (.cells (Vr ⟨f.name,6,f.name,0,0,[],[]⟩).toArray 43)):=(Ext.refl w).alloc _
 have oV:=Zv w (Vr ⟨f.name,6,f.name,0,0,[],[]⟩).toArray 43
 change opV _ _ _ (w.alloc (.cells (Vr ⟨f.name,6,f.name,0,0,[],[]⟩).toArray 43)) _
 generalize (w.alloc (.cells (Vr ⟨f.name,6,f.name,0,0,[],[]⟩).toArray 43))=V at eV oV ⊢
 refine Kf ⟨f.name,6,f.name,0,0,[],[]⟩ (h.own.ext eV) oV (Nat.le_trans h.e.size eV.size) hl ?_
 intro v' w' hO' hg
 have o7:=Vg (h.own.ext eV) hg (eV.obj h.o7) K7
 have v1:v'.oneCell'=true:=Ze.oneCell (hO'.slice (E:=λ _ cs x=>cs=Vr x) (λ _=>rfl) (λ _ _=>rfl))
 refine Qqh (Za o7).1 (Za o7).2 ?_
 exact hK _ _ (h.add _ eV hO' hg)
def ZaB (h:InI w1 w p7 n fv fs) (o9:w.heap[p9]?=some (.cells (Zq f tv cv).toArray 123 (0,0))) (hl:fs.length≤1048576)
 (hK:∀ w' fv',InI w1 w' p7 n fv' (fs++[⟨f.name,1,f.name,0,0,[],[]⟩])→K3 w'):PT (Qq4 p7) (Qq4 p9) K3 R w:=by
 unfold PT
 refine Qqh (Za h.o7).1 (Za o9).1 ?_
 have eV:Ext w (w.alloc (.cells (Vr ⟨f.name,1,f.name,0,0,[],[]⟩).toArray 43)):=(Ext.refl w).alloc _
 have oV:=Zv w (Vr ⟨f.name,1,f.name,0,0,[],[]⟩).toArray 43
 change opV _ _ _ (w.alloc (.cells (Vr ⟨f.name,1,f.name,0,0,[],[]⟩).toArray 43)) _
 generalize (w.alloc (.cells (Vr ⟨f.name,1,f.name,0,0,[],[]⟩).toArray 43))=V at eV oV ⊢
 refine Kf ⟨f.name,1,f.name,0,0,[],[]⟩ (h.own.ext eV) oV (Nat.le_trans h.e.size eV.size) hl ?_
 intro v' w' hO' hg
 have o7:=Vg (h.own.ext eV) hg (eV.obj h.o7) K7
 have v1:v'.oneCell'=true:=Ze.oneCell (hO'.slice (E:=λ _ cs x=>cs=Vr x) (λ _=>rfl) (λ _ _=>rfl))
 refine Qqh (Za o7).1 (Za o7).2 ?_
 exact hK _ _ (h.add _ eV hO' hg)
def CE {f:Zt} {r:FrD} (h:idF f=some r):EJ r:=by
 rcases xr f with ⟨_,h1⟩ | ⟨_,h1⟩ | ⟨_,_,h1⟩<;>rw [h1] at h
 · cases h
 · injection h with h;subst h;exact ⟨rfl,rfl⟩
 · injection h with h;subst h;exact ⟨rfl,rfl⟩
def Ps {k:Nat} {Zx:KV} (h:InI w1 w p7 n fv fs) (hf:Z0 w (.agg (Zq f tv cv).toArray) f) (hl:fs.length≤1048576) (hk:k≤1000000000) (o9:w.heap[p9]?=some (.cells (Zq f tv cv).toArray 123 (0,0)))
 (hN:∀ w' fv',InI w1 w' p7 n fv' (fs++(idF f).toList)→Zx (.int .i64 ((k:Int)+1)) w'):PV (Qq4 p7) (Qq4 p9) (.int .i64 k) (.int .i64 (YV f)) Zx R w:=by
 have hwk:IntKind.i64.wrap ((k:Int)+1)=(k:Int)+1:=YF K9 K9
 unfold PV Zm
 rcases xr f with ⟨h0,h1⟩ | ⟨h0,h1⟩ | ⟨h0,h2,h1⟩
 · rw [h1] at hN
   rw [h0]
   refine Qqg hwk ?_
   exact hN _ _ (by simpa using h)
 · rw [h1] at hN
   have d1:decide (YV f≥4)=true:=by simp only [decide_eq_true_eq];omega
   refine Qqg d1 ?_
   refine ZaC h o9 hl λ w' fv' h'=>?_
   exact hN _ _ h'
 · rw [h1] at hN
   have d1:decide (YV f≥4)=false:=by simp only [decide_eq_false_iff_not];omega
   have d2:(YV f != 0)=true:=by simp only [bne_iff_ne,ne_eq];exact h0
   refine Qqh d1 d2 ?_
   refine ZaB h o9 hl λ w' fv' h'=>?_
   exact hN _ _ h'
end
def EId (w:Wd) (lo:Nat) (cs:List Vl) (r:MrD):Prop:=∃ fv,cs=ZT r fv∧Yc w lo 43 7 Vr fv r.fields∧∀ x∈r.fields,EJ x
def EId.ext {w w':Wd} {lo:Nat} {cs:List Vl} {r:MrD} (h:EId w lo cs r) (e:Ext w w'):EId w' lo cs r:=by obtain ⟨fv,h1,h2,h3⟩:=h;exact ⟨fv,h1,h2.ext e,h3⟩
def EId.mr {w:Wd} {lo:Nat} {cs:List Vl} {r:MrD} (h:EId w lo cs r):EMr w cs r:=by
 obtain ⟨fv,h1,h2,h3⟩:=h
 exact ⟨fv,h1,h2.slice (λ _=>rfl) λ x hx=>DW w x (h3 x hx).1 (h3 x hx).2⟩
def EId.chg {w w':Wd} {lo g:Nat} {cs:List Vl} {r:MrD} {oc:AVl} {T:TypeId} {f:Nat×Nat} (h:EId w lo cs r) (hc:Chg g w w') (ho:w.heap[g]?=some (.cells oc T f)) (hT:43≠T):EId w' lo cs r:=by
 obtain ⟨fv,h1,h2,h3⟩:=h
 exact ⟨fv,h1,QN h2 hc (XD h2 ho hT),h3⟩
def EId.grow {α:Type} {w w':Wd} {lo lo2 n:Nat} {cs:List Vl} {r:MrD} {v:Vl} {l:List α} {enc:α→List Vl} {T:TypeId} (h:EId w lo cs r) (hO:Yc w lo2 T n enc v l) (hg:w.grownBy w' v.ownBlock) (hT:43≠T):EId w' lo cs r:=by
 rcases Bu hO hg with e | ⟨g,oc,f,_,ho,hc⟩
 · exact h.ext e
 · exact h.chg hc ho hT
structure IdS (w0 w:Wd) (p2 p4:Nat) (nm:BAr) (rv:Vl) (done:List MrD):Prop where
 e:Ext w0 w
 l2:w0.heap.size≤p2
 l4:w0.heap.size≤p4
 ne:p2≠p4
 o2:w.heap[p2]?=some (.cells (ZL ⟨ByteArray.empty,[]⟩ Yv).toArray 24 (0,0))
 o4:w.heap[p4]?=some (.cells #[.string nm,rv] 24 (0,0))
 row:∃ css:List (Cs 3),Yc w w0.heap.size 60 3 Subtype.val rv css∧WY 3 (EId w w0.heap.size) css done
section
variable {w0 w1 w:Wd} {p2 p4 p7:Nat} {nm n:BAr} {rv fv:Vl} {done:List MrD} {fs:List FrD} {R:RT} {d:Xc} {k:Nat}
def IdS.go (h:IdS w0 w p2 p4 nm rv done) {w':Wd} (e:Ext w w'):IdS w0 w' p2 p4 nm rv done:=by
 obtain ⟨h1,h2,h3,Y3,h4,h5,css,h6,h7⟩:=h
 exact ⟨h1.trans e,h2,h3,Y3,e.obj h4,e.obj h5,css,h6.ext e,h7.imp λ _ _ q=>q.ext e⟩
def IdS.read (h:IdS w0 w p2 p4 nm rv done):VG w rv done:=by
 obtain ⟨css,h6,h7⟩:=h.row
 exact h6.reads (h7.imp λ _ _ q=>q.mr)
def Zd5 {Zu:KV} (h:IdS w0 w1 p2 p4 nm rv done) (hi:InI w1 w p7 n fv fs) (hp:∀ x∈fs,EJ x) (hl:done.length≤1048576) (hk:k≤1000000000)
 (hN:∀ w' rv',IdS w0 w' p2 p4 nm rv' (done++[⟨n,n,fs⟩])→Zu (.int .i64 ((k:Int)+1)) w'):PW (Qq4 p4) (Qq4 p7) (.int .i64 k) Zu R w:=by
 have hwk:IntKind.i64.wrap ((k:Int)+1)=(k:Int)+1:=YF K9 K9
 have h0:=h.go hi.e
 obtain ⟨css,hO,hM⟩:=h0.row
 have u1:fv.oneCell'=true:=Ze.oneCell (hi.own.slice (E:=λ _ cs x=>cs=Vr x) (λ _=>rfl) (λ _ _=>rfl))
 have u2:rv.oneCell'=true:=Ze.oneCell h0.read
 unfold PW
 refine Qqh (Za h0.o4).1 (Za hi.o7).1 ?_
 have eV:Ext w (w.alloc (.cells (ZT ⟨n,n,fs⟩ fv).toArray 60)):=(Ext.refl w).alloc _
 have oV:=Zv w (ZT ⟨n,n,fs⟩ fv).toArray 60
 change opV _ _ _ (w.alloc (.cells (ZT ⟨n,n,fs⟩ fv).toArray 60)) _
 generalize (w.alloc (.cells (ZT ⟨n,n,fs⟩ fv).toArray 60))=V at eV oV ⊢
 have hml:css.length=done.length:=hM.1
 refine xo (x:=⟨ZT ⟨n,n,fs⟩ fv,rfl⟩) (λ u hu=>?_) (hO.ext eV) oV (Nat.le_trans h0.e.size eV.size) K9 ?_
 · simp only [List.mem_cons,List.not_mem_nil,or_false] at hu
   rcases hu with rfl | rfl | rfl<;>first | rfl | assumption
 intro v' w' hO' hg
 have hOV:=hO.ext eV
 have o4:=Vg hOV hg (eV.obj h0.o4) K7
 have o2:=Vg hOV hg (eV.obj h0.o2) K7
 have e':Ext w0 w':=(h0.e.trans eV).grown hg λ b hb=>(World.ownsRow.lt hO b hb).1
 have v1:v'.oneCell'=true:=Ze.oneCell (hO'.slice (E:=λ _ cs x=>cs=x.1) (λ x=>x.2) (λ _ _=>rfl))
 refine Qqb (Za o4).1 (Za o4).2 hwk ?_
 have hc:Chg p4 w' (w'.setCell ⟨p4,1,none⟩ v'):=⟨by rw [World.size_setCell];exact Nat.le_refl _,λ b _ hb=>YT.setCell _ p4 _ _ b hb⟩
 have hnew:EId w w0.heap.size (ZT ⟨n,n,fs⟩ fv) ⟨n,n,fs⟩:=⟨fv,rfl,hi.own.base h.e.size,hp⟩
 refine hN _ v' ⟨e'.setCell (p:=⟨p4,1,none⟩) h.l4 _,h.l2,h.l4,h.ne,(YT.setCell _ p4 _ _ p2 h.ne).trans o2,Zy (o:=1) o4 v',css++[⟨ZT ⟨n,n,fs⟩ fv,rfl⟩],QN hO' hc (XD hO' o4 K7),Gn (hM.imp λ _ _ q=>((q.ext eV).grow hOV hg K7).chg hc o4 K7) ⟨rfl,λ j y cs hx hcs=>?_⟩⟩
 cases j with
 | succ j=>simp at hx
 | zero=>
  simp at hx hcs
  subst hx hcs
  exact ((hnew.ext eV).grow hOV hg K7).chg hc o4 K7
end
def Jl {α β:Type} {g:α→Option β} {l:List α} {k:Nat} {x:α} (hx:l[k]?=some x):(l.take (k+1)).filterMap g=(l.take k).filterMap g++(g x).toList:=by
 rw [Xr hx,List.filterMap_append]
 cases h:g x with
 | none=>simp [h]
 | some y=>simp [h]
def IdR (w0:Wd) (d:Xc) (r:Vl) (w':Wd):Prop:=Ext w0 w'∧∃ u,((YI d=true∧r = .tuple #[u,.int .i64 2]∧YN w' u ⟨ByteArray.empty,[]⟩)∨(YI d=false∧r = .tuple #[u,.int .i64 0]∧YN w' u (idM d)))
def Dx (w0:Wd) (v:Vl) (d:Xc) (hd:YM w0 v d) (hb:d.msgs.length≤1000000) (hb2:∀ x∈d.msgs,x.fields.length≤1000000):Ret Pg 28 #[v] w0 (IdR w0 d):=by
 obtain ⟨mv,rfl,hM⟩:=hd
 have hm1:=Ze.oneCell hM
 obtain ⟨A,c,rfl,hlc,hcm,hlm,YS⟩:=Ze.open hM
 refine ZkQ (R:=ZR _) ?_;unfold n14
 rw [Yi]
 have o1:=Zv w0 (ZO d (.slice A d.msgs.length c)).toArray 27
 have e1:Ext w0 (w0.alloc (.cells (ZO d (.slice A d.msgs.length c)).toArray 27)):=(Ext.refl w0).alloc _
 have s1:(w0.alloc (.cells (ZO d (.slice A d.msgs.length c)).toArray 27)).heap.size=w0.heap.size+1:=World.size_alloc ..
 generalize (w0.alloc (.cells (ZO d (.slice A d.msgs.length c)).toArray 27))=W1 at o1 e1 s1 ⊢
 have o2:=Zv W1 (ZL ⟨ByteArray.empty,[]⟩ Yv).toArray 24
 have e2:Ext W1 (W1.alloc (.cells (ZL ⟨ByteArray.empty,[]⟩ Yv).toArray 24)):=(Ext.refl W1).alloc _
 have oA:=e2.obj o1
 have qA:∀ j,(W1.alloc (.cells #[Value.string ByteArray.empty,Value.slice none 0 0] 24)).cell? ⟨w0.heap.size,j,none⟩=(ZO d (.slice A d.msgs.length c)).toArray[j]?:=(Za oA).1
 refine Qqg qA ?_
 change Yb _ _ _ _ (W1.alloc (.cells (ZL ⟨ByteArray.empty,[]⟩ Yv).toArray 24)) _
 generalize (W1.alloc (.cells (ZL ⟨ByteArray.empty,[]⟩ Yv).toArray 24))=W at o2 e2 oA ⊢
 clear qA
 have e:=e1.trans e2
 have l1:w0.heap.size≤W1.heap.size:=K9
 generalize w0.heap.size=p1 at oA ⊢
 generalize hp2:W1.heap.size=p2 at o2 l1 ⊢
 refine zcr (xm _ d ⟨_,rfl,hM.ext e⟩) λ w3 e3=>?_
 have o23:=e3.obj o2
 have e03:=e.trans e3
 have l2w:=(Qqq o23).1
 cases hf:YI d with
 | true=>
  refine Qqk ?_
  unfold ZbG
  refine Qqh (Za o23).1 (Za o23).2 ?_
  exact ⟨(e03.setCell (p:=⟨p2,0,none⟩) l1 _).setCell (p:=⟨p2,1,none⟩) l1 _,_,.inl ⟨hf,rfl,_,rfl,Ze.nil ..⟩⟩
 | false=>
  have oA3:=e3.obj oA
  have la:=(Qqq oA3).1
  have a1:∀ (o:Obj) (j:Nat),(w3.alloc o).cell? ⟨p1,j,none⟩=w3.cell? ⟨p1,j,none⟩:=λ o j=>World.cell?_of_block (((Ext.refl w3).alloc o).block p1 la)
  refine Qqk ?_
  unfold ZbH
  refine Qqh a1 (Za oA3).1 ?_
  have o4:=Zv w3 #[.string d.name,Yv] 24
  have e4:Ext w3 (w3.alloc (.cells #[.string d.name,Yv] 24)):=(Ext.refl w3).alloc _
  change Yz _ _ (w3.alloc (.cells #[.string d.name,Yv] 24))
  generalize (w3.alloc (.cells #[.string d.name,Yv] 24))=V at o4 e4 ⊢
  have l4:w0.heap.size≤w3.heap.size:=e03.size
  have n24:p2≠w3.heap.size:=K9
  generalize w3.heap.size=p4 at o4 l4 n24 ⊢
  have hS0:IdS w0 V p2 p4 d.name Yv []:=⟨e03.trans e4,l1,l4,n24,e4.obj o23,o4,[],Yc.nil _ _ _ _ _,rfl,λ k x cs hx=>by simp at hx⟩
  refine ZE (λ i w=>∃ (k:Nat) (rv:Vl),i = .int .i64 k∧k≤d.msgs.length∧IdS w0 w p2 p4 d.name rv ((d.msgs.take k).map idR)) (λ i _=>d.msgs.length - (intOf i).toNat) ⟨0,Yv,rfl,by omega,hS0⟩ ?_
  rintro _ w ⟨k,rv,rfl,hk,hS⟩
  rcases ZH hk with ⟨x,hx,_,Ym,ZK⟩ | ⟨hke,_,ZK⟩
  · obtain ⟨b,o,cs,rfl,_,hA,fv,rfl,hF⟩:=YS k x hx
    have t2:=Ze.oneCell hF
    have hxl:=hb2 x (List.mem_of_getElem? hx)
    obtain ⟨A2,c2,rfl,hlc2,hcm2,hlm2,hel2⟩:=Ze.open hF
    have hq:=hA.c2 hS.e
    refine Qqg ZK ?_
    unfold ZbF
    refine Qqg hq ?_
    simp only [World.size_setCell,World.size_alloc]
    have o7:=Zv (w.alloc (.cells #[.string x.name,.slice A2 x.fields.length c2] 74)) (ZT ⟨x.name,x.name,[]⟩ Yv).toArray 60
    have e7:Ext w ((w.alloc (.cells #[.string x.name,.slice A2 x.fields.length c2] 74)).alloc (.cells (ZT ⟨x.name,x.name,[]⟩ Yv).toArray 60)):=((Ext.refl w).alloc _).alloc _
    rw [World.size_alloc] at o7
    change Yz _ _ ((w.alloc (.cells #[.string x.name,.slice A2 x.fields.length c2] 74)).alloc (.cells (ZT ⟨x.name,x.name,[]⟩ Yv).toArray 60))
    generalize ((w.alloc (.cells #[.string x.name,.slice A2 x.fields.length c2] 74)).alloc (.cells (ZT ⟨x.name,x.name,[]⟩ Yv).toArray 60))=B at o7 e7 ⊢
    have hI0:InI w B (w.heap.size+1) x.name Yv []:=⟨e7,Nat.le_succ _,o7,Yc.nil _ _ _ _ _⟩
    generalize w.heap.size+1=p7 at hI0 ⊢
    refine ZE (λ i w'=>∃ (j:Nat) (fv:Vl),i = .int .i64 j∧j≤x.fields.length∧InI w w' p7 x.name fv ((x.fields.take j).filterMap idF)) (λ i _=>x.fields.length - (intOf i).toNat) ⟨0,Yv,rfl,by omega,hI0⟩ ?_
    rintro _ w2 ⟨j,fv,rfl,hj,hI⟩
    rcases ZH hj with ⟨f,hf',_,hlt2,Jo⟩ | ⟨hje,_,Jo⟩
    · obtain ⟨b3,o3,cs,rfl,_,hA3,tv,cv,rfl,hT,hC⟩:=hel2 j f hf'
      have u1:=Ze.oneCell hT
      have u2:=Ze.oneCell hC
      have ew2:=hS.e.trans hI.e
      have hq3:=hA3.c15 ew2
      have hfl:((x.fields.take j).filterMap idF).length≤1048576:=Nat.le_trans (List.length_filterMap_le _ _) (by rw [List.length_take];omega)
      refine Qqg Jo ?_
      unfold ZbD
      refine Qqg hq3 ?_
      have o9:=Zv w2 (Zq f tv cv).toArray 123
      have e9:Ext w2 (w2.alloc (.cells (Zq f tv cv).toArray 123)):=(Ext.refl w2).alloc _
      change Yb _ _ #[.agg (Zq f tv cv).toArray] _ (w2.alloc (.cells (Zq f tv cv).toArray 123)) _
      generalize (w2.alloc (.cells (Zq f tv cv).toArray 123))=Y at o9 e9 ⊢
      have hfv:Z0 Y (.agg (Zq f tv cv).toArray) f:=⟨tv,cv,rfl,Z8.ext hT (ew2.trans e9),Yu.ext hC (ew2.trans e9)⟩
      refine zcr (Ji Y _ f hfv) λ w5 e5=>?_
      refine Ps (hI.go (e9.trans e5)) (hfv.ext e5) hfl K9 (e5.obj o9) λ w' fv' h'=>?_
      exact ⟨⟨j+1,fv',rfl,hlt2,by rw [Jl hf'];exact h'⟩,ZQ (kd := .i64) hlt2⟩
    · rw [hje,List.take_length] at hI
      refine Qqg Jo ?_
      refine Zd5 hS hI (λ y hy=>?_) (by rw [List.length_map,List.length_take];omega) K9 λ w' rv' h'=>?_
      · obtain ⟨g,_,hg⟩:=List.mem_filterMap.1 hy
        exact CE hg
      · exact ⟨⟨k+1,rv',rfl,Ym,by rw [Xr hx,List.map_append];exact h'⟩,ZQ (kd := .i64) Ym⟩
  · rw [hke,List.take_length] at hS
    refine Qqg ZK ?_
    unfold ZbE
    have u2:rv.oneCell'=true:=Ze.oneCell hS.read
    refine Qqb (Za hS.o4).1 (Za hS.o2).1 (Za hS.o2).2 ?_
    have hc:Chg p2 w ((w.setCell ⟨p2,0,none⟩ (.string d.name)).setCell ⟨p2,1,none⟩ rv):=⟨by rw [World.size_setCell,World.size_setCell];exact Nat.le_refl _,λ b _ hb=>(YT.setCell _ p2 1 _ b hb).trans (YT.setCell w p2 0 _ b hb)⟩
    obtain ⟨css,h6,h7⟩:=hS.row
    have hM':VG ((w.setCell ⟨p2,0,none⟩ (.string d.name)).setCell ⟨p2,1,none⟩ rv) rv (d.msgs.map idR):=(QN h6 hc (XD h6 hS.o2 K7)).reads (h7.imp λ _ _ q=>(q.chg hc hS.o2 K7).mr)
    exact ⟨(hS.e.setCell (p:=⟨p2,0,none⟩) l1 _).setCell (p:=⟨p2,1,none⟩) l1 _,_,.inr ⟨hf,rfl,_,rfl,hM'⟩⟩
def HV (d:Xc):Bool:=XW d.msgs.length 12||d.msgs.any λ x=>XW x.fields.length 20
def Zbi {d:Xc} (h:HV d=false):d.msgs.length≤12∧∀ x∈d.msgs,x.fields.length≤20:=by
 unfold HV at h
 simp only [Bool.or_eq_false_iff,List.any_eq_false] at h
 exact ⟨Q4 h.1,λ x hx=>Q4 (by simpa using h.2 x hx)⟩
def TY (w0:Wd) (v:Vl) (d:Xc) (hd:YM w0 v d):Ret Pg 11 #[v] w0 λ r w'=>r = .bool (HV d)∧Ext w0 w':=by
 obtain ⟨mv,rfl,hM⟩:=hd
 have hm1:=Ze.oneCell hM
 obtain ⟨A,c,rfl,hlc,hcm,hlm,YS⟩:=Ze.open hM
 refine Zlm (R:=ZR _) ?_;unfold n48
 rw [Yi]
 have o1:=Zv w0 (ZO d (.slice A d.msgs.length c)).toArray 27
 have e1:Ext w0 (w0.alloc (.cells (ZO d (.slice A d.msgs.length c)).toArray 27)):=(Ext.refl w0).alloc _
 generalize (w0.alloc (.cells (ZO d (.slice A d.msgs.length c)).toArray 27))=V at o1 e1 ⊢
 generalize w0.heap.size=p1 at o1 ⊢
 have d1:decide ((d.msgs.length:Int) > 12)=XW d.msgs.length 12:=rfl
 have hM0:HV d=(XW d.msgs.length 12||d.msgs.any λ x=>XW x.fields.length 20):=rfl
 refine Qqh (Za o1).1 d1 ?_
 cases hc0:XW d.msgs.length 12 with
 | true=>
  rw [hc0,Bool.true_or] at hM0
  rw [hM0]
  refine Qqk ?_
  exact ⟨by trivial,e1⟩
 | false=>
  rw [hc0,Bool.false_or] at hM0
  rw [hM0]
  have hle:=Q4 hc0
  refine Qqk ?_
  refine ZE (λ i w=>∃ k:Nat,i = .int .i64 k∧k≤d.msgs.length∧(d.msgs.take k).any (λ x=>XW x.fields.length 20)=false∧Ext V w) (λ i _=>d.msgs.length - (intOf i).toNat) ⟨0,rfl,by omega,rfl,Ext.refl _⟩ ?_
  rintro _ w1 ⟨k,rfl,hk,ht,e2⟩
  have q1:=Za (e2.obj o1)
  unfold Zcy
  rcases ZH hk with ⟨x,hx,_,Ym,ZK⟩ | ⟨hke,_,ZK⟩
  · have hwk:IntKind.i64.wrap ((k:Int)+1)=(k:Int)+1:=YF K9 K9
    obtain ⟨b,o,cs,rfl,_,hA,fv,rfl,hF⟩:=YS k x hx
    obtain ⟨A2,c2,rfl,_,_,_,_⟩:=Ze.open hF
    have hq:=hA.c2 (e1.trans e2)
    have d2:decide ((x.fields.length:Int) > 20)=XW x.fields.length 20:=rfl
    refine Qqh q1.1 ZK ?_
    unfold Zcx
    refine Qqb q1.1 hq d2 ?_
    cases hb:XW x.fields.length 20 with
    | true=>
     rw [DH (p:=λ x:Yh=>XW x.fields.length 20) hx hb]
     refine Qqk ?_
     exact ⟨by trivial,e1.trans e2⟩
    | false=>
     refine Qqg hwk ?_
     exact ⟨⟨k+1,rfl,Ym,(jU (p:=λ x:Yh=>XW x.fields.length 20) hx ht).trans hb,e2⟩,ZQ (kd := .i64) Ym⟩
  · rw [hke,List.take_length] at ht
    refine Qqh q1.1 ZK ?_
    exact ⟨by rw [ht],e1.trans e2⟩
def Zcc d e (R:RT) w:=
 Zw d e (.bool false) λ b=>
 Zm (λ (a:Vl) (w:Wd)=>
 Zw b a (.bool false) λ f=>
 R (.returned f) w) λ c=>
 Zl b true (
 C0 12 #[] R w λ a w=>
 c a w) (
 c undef w)
def Zcd d e (f:WPr) (R:RT) w:=
 Zw d e (.bool false) λ b=>
 Zm (λ (a:Vl) (w:Wd)=>
 Zw b a (.bool false) λ g=>
 R (.returned g) w) λ c=>
 Zl b true (
 C0 12 #[] R w λ a w=>
 f w∧(
 c a w)) (
 c undef w)
def RJ e f g (a:WPr) R w:=
 qV Pg a (ZP .eql 49 true g (QqJ 0)) λ c=>
 Zm (λ (b:Vl) (w:Wd)=>
 Zcd c b a R w) λ d=>
 Zl c true (
 I0 24 f a λ h=>
 I0 27 e a λ i=>
 C0 29 #[i] R w λ j w=>
 a w∧(
 C0 17 #[h,j] R w λ b w=>
 a w∧(
 d b w))) (
 d undef w)
def RK d e R w:=
 B0 .eql 49 true e (QqJ 2) R w λ b w=>
 Zm (λ (a:Vl) (w:Wd)=>
 Zcc b a R w) λ c=>
 Zl b true (
 L0 24 d R w λ f w=>
 opV Pg (build 24 #[]) (Zj R) w λ g w=>
 C0 17 #[f,g] R w λ a w=>
 c a w) (
 c undef w)
def Zce h b c d R w:=
 E0q d 0 R w λ i w=>
 E0q d 1 R w λ e w=>
 opV Pg (alloc 34 true (.tuple #[])) (Zj R) w λ f w=>
 S0 34 f i R w λ w=>
 Zm (λ (a:Vl) (w:Wd)=>
 Zw e a (.bool false) λ j=>
 Zo j (
 RK b c R w) (
 Yg w λ k w=>
 RJ h b c k R w)) λ g=>
 Zl e true (
 F0 34 f 2 R w λ l w=>
 L0 32 l R w λ m w=>
 B0 .eql 32 true m (QqJ 0) R w λ a w=>
 g a w) (
 g undef w)
def Zcf a b c R w:=
 opV Pg (build 24 #[]) (Zj R) w λ d w=>
 L0 27 a R w λ e w=>
 L0 27 a R w λ f w=>
 C0 15 #[d,e,f] R w λ g w=>
 Zce a b c g R w
def Zcg f c g h i j (a:WPr) (R:RT) w:=
 qV Pg a (ZP .neq 4 false i j) λ d=>
 Zm (λ (b:Vl) (w:Wd)=>
 Zw d (.bool true) b λ k=>
 Zo k (
 R (.returned (.bool false)) w) (
 Zcf f g h R w)) λ e=>
 Zl d false (
 I0 24 c a λ l=>
 I0 24 c a λ m=>
 C0 13 #[m] R w λ n w=>
 a w∧(
 C0 27 #[l,n] R w λ o w=>
 a w∧(
 qV Pg a (Op.unary .not o) λ b=>
 e b w))) (
 e undef w)
def RL d b c e (a:WPr) (R:RT) w:=
 I0 24 c a λ f=>
 I0 24 b a λ g=>
 I0 24 c a λ h=>
 I0 24 b a λ i=>
 C0 27 #[f,g] R w λ j w=>
 a w∧(
 C0 17 #[h,i] R w λ k w=>
 a w∧(
 Zcg d b c e j k a R w))
def Zch c d a R w:=
 E0q a 0 R w λ e w=>
 E0q a 1 R w λ f w=>
 opV Pg (alloc 24 true (.tuple #[])) (Zj R) w λ b w=>
 S0 24 b e R w λ w=>
 Yg w λ g w=>
 RL c d b f g R w
def IH a b c d (R:RT) w:=
 Zw c (.bool true) d λ e=>
 Zo e (
 C0 12 #[] R w λ f w=>
 R (.returned f) w) (
 L0 27 a R w λ g w=>
 C0 28 #[g] R w λ h w=>
 Zch a b h R w)
def II e b c R w:=
 Zm (λ (a:Vl) (w:Wd)=>
 IH e b c a R w) λ d=>
 Zl c false (
 L0 24 b R w λ f w=>
 C0 10 #[f] R w λ a w=>
 d a w) (
 d undef w)
def n43 b c R w:=
 opV Pg (box 27 b) (Zj R) w λ a w=>
 opV Pg (box 24 c) (Zj R) w λ d w=>
 L0 27 a R w λ e w=>
 C0 11 #[e] R w λ f w=>
 II a d f R w
def Zlh:QqQ2 8 n43:=λ h=>by
 refine yD func8 ?_
 refine zs<|zr<|yv h λ h=>yv h λ h=>zm<|zn<|zk<|zs<|zs<|Zr<|yG 3<|yv h λ h=>yc h c11 λ h=>zm<|zn ?_
 refine yg1 2 2 false [12,13] 13 h (λ _ T hT h=>?_) λ σ w h=>?_
 · refine yv h λ h=>yc h c10 λ h=>zn ?_
   exact zt hT h
 refine yG 1<|yp h λ h=>zn<|ZG<|zk<|yC h (λ h=>zs<|zr<|yc h c12 λ h=>zm<|zn<|zk<|Zh<|Zb<|Zf rfl rfl h) λ h=>Zi<|zk<|zs<|zr<|yv h λ h=>yc h c28 λ h=>zm<|yv h λ h=>?_
 refine yv h λ h=>yv h λ h=>yu h λ h=>zm<|zn<|zk<|zs<|zs<|yh [21,22,23,24,25,26,27,28,29,30,31,32,33,34] h λ C hC h=>ye 0 hC h λ h=>?_
 refine ye 1 hC h λ h=>?_
 refine ye 3 hC h λ h=>?_
 refine ye 4 hC h λ h=>?_
 refine yo 2 ?_
 refine yc h c27 λ h=>zn ?_
 obtain ⟨hC,h⟩:=h
 refine ⟨hC,?_⟩
 refine yo 5 ?_
 refine yc h c17 λ h=>zn ?_
 obtain ⟨hC,h⟩:=h
 refine ⟨hC,?_⟩
 refine ye 6 hC h λ h=>?_
 refine yw 7 hC ?_
 refine yj1 1 [12,11,10,9,8,7,6,5,2,4,3,1,0] [29,30,31,32,33] 33 h (λ _ hT hb h=>?_) (λ _ hT hb h=>?_) λ σ w hC h=>?_
 · refine ye 8 hC h λ h=>?_
   refine ye 9 hC h λ h=>?_
   refine yo 10 ?_
   refine yc h c13 λ h=>zn ?_
   obtain ⟨hC,h⟩:=h
   refine ⟨hC,?_⟩
   refine yo 11 ?_
   refine yc h c27 λ h=>zn ?_
   obtain ⟨hC,h⟩:=h
   refine ⟨hC,?_⟩
   refine ye 12 hC h λ h=>?_
   exact yt hT hC h
 · refine yi 8 hC ?_
   refine yi 9 hC ?_
   refine yi 10 hC ?_
   refine yi 11 hC ?_
   refine yi 12 hC ?_
   exact yt hT hC h
 refine yP 13 hC h λ _ h=>?_
 refine yz<|zk<|yC h (λ h=>zs<|zr<|zm<|zn<|zk<|Zh<|Zb<|Zf rfl rfl h) λ h=>Zi<|zk<|zs<|zs<|zr<|yB h λ h=>yv h λ h=>yv h λ h=>yc h c15 λ h=>zm<|yv h λ h=>?_
 refine yv h λ h=>yv h λ h=>yu h λ h=>zm<|zn<|zk<|zs<|Zr<|yG 2<|zm<|zm<|zn<|yg1 3 1 true [44,45,46] 46 h (λ _ T hT h=>?_) λ σ w h=>?_
 · refine yv h λ h=>yv h λ h=>yb h λ h=>zn ?_
   exact zt hT h
 refine yG 1<|yp h λ h=>zn<|ZG<|zk<|yC h (λ h=>?_) λ h=>?_
 · refine zs<|Zr<|yG 3<|zm<|yb h λ h=>zm<|zn<|yg1 3 2 true [51,52,53] 53 h (λ _ T hT h=>?_) λ σ w h=>?_
   · refine yv h λ h=>yB h λ h=>yc h c17 λ h=>zn ?_
     exact zt hT h
   refine yG 2<|yp h λ h=>zm<|zn<|yg1 1 7 true [56] 56 h (λ _ T hT h=>?_) λ σ w h=>?_
   · refine yc h c12 λ h=>zn ?_
     exact zt hT h
   exact yG 2<|yp h λ h=>zm<|zn<|ZG<|zk<|Zh<|Zb<|Zf rfl rfl h
 refine Zi<|zk<|zs<|yh [4,58,59,60,61,62,63,64,65,66,67,68] h λ C hC h=>yw 0 hC ?_
 refine ye 1 hC h λ h=>?_
 refine yw 2 hC ?_
 refine yj1 5 [6,5,4,3,2,1,0] [61,62,63,64] 64 h (λ _ hT hb h=>?_) (λ _ hT hb h=>?_) λ σ w hC h=>?_
 · refine ye 3 hC h λ h=>?_
   refine ye 4 hC h λ h=>?_
   refine yo 5 ?_
   refine yc h c29 λ h=>zn ?_
   obtain ⟨hC,h⟩:=h
   refine ⟨hC,?_⟩
   refine yo 6 ?_
   refine yc h c17 λ h=>zn ?_
   obtain ⟨hC,h⟩:=h
   refine ⟨hC,?_⟩
   exact yt hT hC h
 · refine yi 3 hC ?_
   refine yi 4 hC ?_
   refine yi 5 hC ?_
   refine yi 6 hC ?_
   exact yt hT hC h
 refine yP 7 hC h λ _ h=>?_
 refine yw 8 hC ?_
 refine yj1 2 [9,8,7,6,5,4,3,2,1,0] [67] 67 h (λ _ hT hb h=>?_) (λ _ hT hb h=>?_) λ σ w hC h=>?_
 · refine yo 9 ?_
   refine yc h c12 λ h=>zn ?_
   obtain ⟨hC,h⟩:=h
   refine ⟨hC,?_⟩
   exact yt hT hC h
 · refine yi 9 hC ?_
   exact yt hT hC h
 refine yP 10 hC h λ _ h=>?_
 refine yw 11 hC ?_
 exact yz<|zk<|Zh<|Zf rfl rfl h
def Pr (x y:FrD):(!decide (x.to=y.to)||(x.kind != y.kind)||!decide (x.fr=y.fr)||(x.add != y.add)||(x.value != y.value))=!G6 x y:=by
 unfold G6
 simp only [Bool.not_and,bne]
def No (a b:List UInt8):(!decide ((⟨a.toArray⟩:BAr)=⟨b.toArray⟩))=!decide (a=b):=by
 congr 1
 exact ZaR
def Cj (w0:Wd) (v u:Vl) (x y:FrD) (hx:Ws w0 v x) (hy:Ws w0 u y):Ret Pg 41 #[v,u] w0 λ r w'=>r = .bool (decide (x=y))∧Ext w0 w':=by
 obtain ⟨bv1,tv1,rfl,hB1,hT1,b1,t1⟩:=hx.op
 obtain ⟨bv2,tv2,rfl,hB2,hT2,b2,t2⟩:=hy.op
 obtain ⟨A1,c1,rfl,_,_,hlm1,hel1⟩:=Ze.open hT1
 obtain ⟨A2,c2,rfl,_,_,hlm2,hel2⟩:=Ze.open hT2
 refine ZlS (R:=ZR _) ?_;unfold n80
 rw [Yi]
 have o1:=Zv w0 (ZC x bv1 (.slice A1 x.table.length c1)).toArray 43
 have e1:Ext w0 (w0.alloc (.cells (ZC x bv1 (.slice A1 x.table.length c1)).toArray 43)):=(Ext.refl w0).alloc _
 generalize (w0.alloc (.cells (ZC x bv1 (.slice A1 x.table.length c1)).toArray 43))=W1 at o1 e1 ⊢
 rw [Yi]
 have o2:=Zv W1 (ZC y bv2 (.slice A2 y.table.length c2)).toArray 43
 have e2:Ext W1 (W1.alloc (.cells (ZC y bv2 (.slice A2 y.table.length c2)).toArray 43)):=(Ext.refl W1).alloc _
 generalize (W1.alloc (.cells (ZC y bv2 (.slice A2 y.table.length c2)).toArray 43))=W at o2 e2 ⊢
 replace o1:=e2.obj o1
 have e:=e1.trans e2
 generalize w0.heap.size=p1 at o1 ⊢
 generalize W1.heap.size=p2 at o2 ⊢
 rw [Zbq]
 have q1:=(Za o1).1
 have q2:=(Za o2).1
 unfold Zdv Zdu Zdt Zds Zdr Zm
 refine Qqh q1 q2 ?_
 rw [Pr]
 cases hh:G6 x y with
 | false=>
  refine Qqk ?_
  exact ⟨by simp,e⟩
 | true=>
  refine Qqk ?_
  rw [qZ (hB1.ext e)]
  refine Qqg q2 ?_
  rw [qZ (hB2.ext e)]
  refine Qqk ?_
  rw [No]
  by_cases hbb:x.bytes=y.bytes
  · rw [decide_eq_true hbb]
    refine Qqh q1 q2 ?_
    by_cases YH:x.table.length=y.table.length
    · have Y3:((x.table.length:Int) != (y.table.length:Int))=false:=by simp [YH]
      refine Qqg Y3 ?_
      refine ZE (λ i w=>∃ k:Nat,i = .int .i64 k∧k≤x.table.length∧x.table.take k=y.table.take k∧Ext W w) (λ i _=>x.table.length - (intOf i).toNat) ⟨0,rfl,by omega,rfl,Ext.refl _⟩ ?_
      rintro _ w1 ⟨k,rfl,hk,ht,f1⟩
      have r1:=(Za (f1.obj o1)).1
      have r2:=(Za (f1.obj o2)).1
      unfold Zdq
      rcases ZH hk with ⟨z,hz,_,Ym,ZK⟩ | ⟨hke,_,ZK⟩
      · have hwk:IntKind.i64.wrap ((k:Int)+1)=(k:Int)+1:=YF K9 K9
        obtain ⟨b,o,cs,rfl,_,hA,rfl⟩:=hel1 k z hz
        obtain ⟨z',hz'⟩:=getElem?_lt (l:=y.table) (k:=k) K9
        obtain ⟨b',o',cs',rfl,_,hA',rfl⟩:=hel2 k z' hz'
        have hlt':k < y.table.length:=K9
        have g1:=hA.c3 (e.trans f1)
        have g2:=hA'.c3 (e.trans f1)
        refine Qqb r1 r2 ZK ?_
        refine ZB ?_
        have eD:Ext w1 (drew w1):=(Ext.refl w1).drew
        have s1:=(Za (eD.obj (f1.obj o1))).1
        have s2:=(Za (eD.obj (f1.obj o2))).1
        have g1:=hA.c3 (e.trans (f1.trans eD))
        have g2:=hA'.c3 (e.trans (f1.trans eD))
        generalize (drew w1)=D at eD s1 s2 g1 g2 ⊢
        unfold Zdp
        refine Qqm s1 s2 g1 g2 ?_
        rw [O9]
        by_cases hzz:z=z'
        · rw [decide_eq_true hzz]
          refine Qqg hwk ?_
          exact ⟨⟨k+1,rfl,Ym,by rw [Xr hz,Xr hz',ht,hzz],f1.trans eD⟩,ZQ (kd := .i64) Ym⟩
        · rw [decide_eq_false hzz]
          have hno:decide (x.table=y.table)=false:=by
           simp only [decide_eq_false_iff_not]
           intro h
           rw [h,hz'] at hz
           injection hz with hz
           exact hzz hz.symm
          rw [hno]
          refine Qqk ?_
          exact ⟨by trivial,e.trans (f1.trans eD)⟩
      · rw [hke,List.take_length,YH,List.take_length] at ht
        refine Qqb r1 r2 ZK ?_
        exact ⟨by simp [hbb,ht],e.trans f1⟩
    · have Y3:((x.table.length:Int) != (y.table.length:Int))=true:=by simp;omega
      have hno:decide (x.table=y.table)=false:=by simp only [decide_eq_false_iff_not];exact λ h=>YH (by rw [h])
      rw [hno]
      refine Qqg Y3 ?_
      exact ⟨by simp,e⟩
  · rw [decide_eq_false hbb]
    refine Qqk ?_
    exact ⟨by simp,e⟩
section
variable {w:Wd} {p6 p7 k:Nat} {x y:MrD} {fv1 fv2:Vl} {Zx:KV} {R:RT}
def TD (o6:w.heap[p6]?=some (.cells (ZT x fv1).toArray 60 (0,0))) (o7:w.heap[p7]?=some (.cells (ZT y fv2).toArray 60 (0,0))) (h1:WK w fv1 x.fields) (h2:WK w fv2 y.fields) (hk:k≤9223372036854775806)
 (hN:x=y→∀ w',Ext w w'→Zx (.int .i64 ((k:Int)+1)) w') (hR:x≠y→∀ w',Ext w w'→R (.returned (.bool false)) w') :
 MT (.int .i64 k) (Qq4 p6) (Qq4 p7) Zx R w:=by
 have hwk:IntKind.i64.wrap ((k:Int)+1)=(k:Int)+1:=YF K9 K9
 obtain ⟨A1,c1,rfl,_,_,hlm1,hel1⟩:=Ze.open h1
 obtain ⟨A2,c2,rfl,_,_,hlm2,hel2⟩:=Ze.open h2
 have q1:=(Za o6).1
 have q2:=(Za o7).1
 unfold MT Zdk Zm
 refine Qqh q1 q2 ?_
 have hb:(!decide (x.fr=y.fr)||!decide (x.to=y.to)||((x.fields.length:Int) != (y.fields.length:Int)))=!(decide (x.fr=y.fr)&&decide (x.to=y.to)&&decide (x.fields.length=y.fields.length)):=by
  simp only [Bool.not_and]
  congr 1
  by_cases h:x.fields.length=y.fields.length
  · simp [h]
  · simp [h]
    omega
 rw [hb]
 cases hh:(decide (x.fr=y.fr)&&decide (x.to=y.to)&&decide (x.fields.length=y.fields.length)) with
 | false=>
  refine Qqk ?_
  refine hR ?_ w (Ext.refl w)
  rintro rfl
  simp at hh
 | true=>
  simp only [Bool.and_eq_true,decide_eq_true_eq] at hh
  obtain ⟨⟨a1,a2⟩,a3⟩:=hh
  refine Qqk ?_
  refine ZE (λ i w'=>∃ j:Nat,i = .int .i64 j∧j≤x.fields.length∧x.fields.take j=y.fields.take j∧Ext w w') (λ i _=>x.fields.length - (intOf i).toNat) ⟨0,rfl,by omega,rfl,Ext.refl _⟩ ?_
  rintro _ w1 ⟨j,rfl,hj,ht,f1⟩
  have r1:=(Za (f1.obj o6)).1
  have r2:=(Za (f1.obj o7)).1
  unfold Zdj
  rcases ZH hj with ⟨z,hz,_,Ym,ZK⟩ | ⟨hje,_,ZK⟩
  · have hwj:IntKind.i64.wrap ((j:Int)+1)=(j:Int)+1:=YF K9 K9
    obtain ⟨b,o,cs,rfl,_,hA,bv,tv,rfl,hB,hT⟩:=hel1 j z hz
    obtain ⟨z',hz'⟩:=getElem?_lt (l:=y.fields) (k:=j) K9
    obtain ⟨b',o',cs',rfl,_,hA',bv',tv',rfl,hB',hT'⟩:=hel2 j z' hz'
    have hlt':j < y.fields.length:=K9
    refine Qqb r1 r2 ZK ?_
    refine ZB ?_
    have eD:Ext w1 (drew w1):=(Ext.refl w1).drew
    have fD:=f1.trans eD
    have s1:=(Za (fD.obj o6)).1
    have s2:=(Za (fD.obj o7)).1
    have g1:=hA.c7 fD
    have g2:=hA'.c7 fD
    generalize (drew w1)=D at eD fD s1 s2 g1 g2 ⊢
    unfold Zdi
    refine Qqm s1 s2 g1 g2 ?_
    refine zcr (Cj D _ _ z z' ⟨bv,tv,rfl,hB.ext fD,hT.ext fD⟩ ⟨bv',tv',rfl,hB'.ext fD,hT'.ext fD⟩) λ w2 e2=>?_
    unfold Zdh
    refine ⟨e2,?_⟩
    by_cases hzz:z=z'
    · rw [decide_eq_true hzz]
      refine Qqg hwj ?_
      exact ⟨⟨j+1,rfl,Ym,by rw [Xr hz,Xr hz',ht,hzz],fD.trans e2⟩,ZQ (kd := .i64) Ym⟩
    · rw [decide_eq_false hzz]
      refine Qqk ?_
      refine hR ?_ w2 (fD.trans e2)
      rintro rfl
      rw [hz'] at hz
      injection hz with hz
      exact hzz hz.symm
  · rw [hje,List.take_length,a3,List.take_length] at ht
    refine Qqm r1 r2 ZK hwk ?_
    exact hN (by cases x;cases y;simp_all) w1 f1
end
def jQ (w0:Wd) (v u:Vl) (x y:Xd) (hx:YN w0 v x) (hy:YN w0 u y):Ret Pg 17 #[v,u] w0 λ r w'=>r = .bool (decide (x=y))∧Ext w0 w':=by
 obtain ⟨rv1,rfl,hR1,t1⟩:=hx.op
 obtain ⟨rv2,rfl,hR2,t2⟩:=hy.op
 obtain ⟨A1,c1,rfl,_,_,hlm1,hel1⟩:=Ze.open hR1
 obtain ⟨A2,c2,rfl,_,_,hlm2,hel2⟩:=Ze.open hR2
 refine ZlQ (R:=ZR _) ?_;unfold n78
 rw [Yi]
 have o1:=Zv w0 (ZL x (.slice A1 x.rules.length c1)).toArray 24
 have e1:Ext w0 (w0.alloc (.cells (ZL x (.slice A1 x.rules.length c1)).toArray 24)):=(Ext.refl w0).alloc _
 generalize (w0.alloc (.cells (ZL x (.slice A1 x.rules.length c1)).toArray 24))=W1 at o1 e1 ⊢
 rw [Yi]
 have o2:=Zv W1 (ZL y (.slice A2 y.rules.length c2)).toArray 24
 have e2:Ext W1 (W1.alloc (.cells (ZL y (.slice A2 y.rules.length c2)).toArray 24)):=(Ext.refl W1).alloc _
 generalize (W1.alloc (.cells (ZL y (.slice A2 y.rules.length c2)).toArray 24))=W at o2 e2 ⊢
 replace o1:=e2.obj o1
 have e:=e1.trans e2
 generalize w0.heap.size=p1 at o1 ⊢
 generalize W1.heap.size=p2 at o2 ⊢
 rw [PE]
 have q1:=(Za o1).1
 have q2:=(Za o2).1
 unfold Zm
 refine Qqh q1 q2 ?_
 have hb:(!decide (x.name=y.name)||((x.rules.length:Int) != (y.rules.length:Int)))=!(decide (x.name=y.name)&&decide (x.rules.length=y.rules.length)):=by
  simp only [Bool.not_and]
  congr 1
  by_cases h:x.rules.length=y.rules.length
  · simp [h]
  · simp [h]
    omega
 rw [hb]
 cases hh:(decide (x.name=y.name)&&decide (x.rules.length=y.rules.length)) with
 | false=>
  refine Qqk ?_
  refine ⟨?_,e⟩
  by_cases a1:x.name=y.name
  · have a2:¬ x.rules=y.rules:=λ h=>by simp [a1,h] at hh
    simp [a2]
  · simp [a1]
 | true=>
  simp only [Bool.and_eq_true,decide_eq_true_eq] at hh
  obtain ⟨a1,a2⟩:=hh
  refine Qqk ?_
  refine ZE (λ i w=>∃ k:Nat,i = .int .i64 k∧k≤x.rules.length∧x.rules.take k=y.rules.take k∧Ext W w) (λ i _=>x.rules.length - (intOf i).toNat) ⟨0,rfl,by omega,rfl,Ext.refl _⟩ ?_
  rintro _ w1 ⟨k,rfl,hk,ht,f1⟩
  have r1:=(Za (f1.obj o1)).1
  have r2:=(Za (f1.obj o2)).1
  unfold Zdo
  rcases ZH hk with ⟨z,hz,_,Ym,ZK⟩ | ⟨hke,_,ZK⟩
  · obtain ⟨b,o,cs,rfl,_,hA,fv1,rfl,hF1⟩:=hel1 k z hz
    obtain ⟨z',hz'⟩:=getElem?_lt (l:=y.rules) (k:=k) K9
    obtain ⟨b',o',cs',rfl,_,hA',fv2,rfl,hF2⟩:=hel2 k z' hz'
    have u1:=Ze.oneCell hF1
    have u2:=Ze.oneCell hF2
    have hlt':k < y.rules.length:=K9
    refine Qqb r1 r2 ZK ?_
    refine ZB ?_
    have eD:Ext w1 (drew w1):=(Ext.refl w1).drew
    have fD:=f1.trans eD
    have s1:=(Za (fD.obj o1)).1
    have s2:=(Za (fD.obj o2)).1
    have g1:=hA.c3 (e.trans fD)
    have g2:=hA'.c3 (e.trans fD)
    generalize (drew w1)=D at eD fD s1 s2 g1 g2 ⊢
    unfold Zdn Zdl Zdm Zm
    refine Qqm s1 s2 g1 g2 ?_
    have sz:∀ c:AVl,(D.alloc (.cells c 60)).heap.size=D.heap.size+1:=λ c=>World.size_alloc ..
    have al:∀ c:AVl,Ext D (D.alloc (.cells c 60)):=λ c=>(Ext.refl D).alloc _
    have al2:∀ c c':AVl,Ext D ((D.alloc (.cells c 60)).alloc (.cells c' 60)):=λ c c'=>(al c).alloc _
    have fin:∀ (V:Wd) (p6 p7:Nat),Ext D V→V.heap[p6]?=some (.cells (ZT z fv1).toArray 60 (0,0))→V.heap[p7]?=some (.cells (ZT z' fv2).toArray 60 (0,0))→MT (.int .i64 k) (Qq4 p6) (Qq4 p7) (λ a0' w'=>(∃ k:Nat,a0' = .int .i64 k∧k≤x.rules.length∧x.rules.take k=y.rules.take k∧Ext W w')∧x.rules.length - (intOf a0').toNat < x.rules.length - (intOf (.int .i64 k)).toNat) (ZR λ r w'=>r = .bool (decide (x.name=y.name)&&decide (x.rules=y.rules))∧Ext w0 w') V:=by
     intro V p6 p7 eV o6 o7
     have E:=e.trans (fD.trans eV)
     refine TD o6 o7 (hF1.ext E) (hF2.ext E) K9 (λ hzz w' e'=>?_) (λ hzz w' e'=>?_)
     · exact ⟨⟨k+1,rfl,Ym,by rw [Xr hz,Xr hz',ht,hzz],fD.trans (eV.trans e')⟩,ZQ (kd := .i64) Ym⟩
     · have hno:decide (x.rules=y.rules)=false:=by
        simp only [decide_eq_false_iff_not]
        intro h
        rw [h,hz'] at hz
        injection hz with hz
        exact hzz hz.symm
       rw [hno]
       refine Qqk ?_
       exact ⟨by simp,E.trans e'⟩
    have oa:∀ c c':AVl,((D.alloc (.cells c 60)).alloc (.cells c' 60)).heap[D.heap.size]?=some (.cells c 60 (0,0)):=λ c c'=>((Ext.refl _).alloc _).obj (Zv D c _)
    have ob:∀ c c':AVl,((D.alloc (.cells c 60)).alloc (.cells c' 60)).heap[D.heap.size+1]?=some (.cells c' 60 (0,0)):=λ c c'=>by
     have:=Zv (D.alloc (.cells c 60)) c' 60
     rwa [sz] at this
    refine ⟨⟨al _,al2 _ _,al2 _ _,XL ?_⟩,al _,al2 _ _,al2 _ _,XL ?_⟩
    · rw [sz]
      exact fin _ _ _ (al2 _ _) (oa _ _) (ob _ _)
    · rw [sz]
      exact fin _ _ _ (al2 _ _) (ob _ _) (oa _ _)
  · rw [hke,List.take_length,a2,List.take_length] at ht
    refine Qqb r1 r2 ZK ?_
    exact ⟨by simp [a1,ht],e.trans f1⟩
def qk {P:Program} {QP:PEn} {w:Wd} {α:Type} {t ty T n m:Nat} {z:Vl} {agg:Bool} {enc:α→List Vl} {E:Wd→List Vl→α→Prop} {v:Vl} {l:List α} {k:KV}
 (ht:P.underlying t=some (.slice T)) (hT:ZJ P T agg n m z) (hz:z.cells.size=n) (h0:0 < n) (hn:∀ x,(enc x).length=n) (h1:∀ x,∀ u∈enc x,u.oneCell'=true)
 (hs:Ze w n E v l) (hE:∀ cs x,E w cs x→cs=enc x) (hm:l.length*m≤140737488355328) (hb:l.length≤140737488355328)
 (hk:∀ v' w',Yc w' w.heap.size T n enc v' l→Ext w w'→k v' w') :
 opV P (Builtin.append_ #[t,t] ty #[.slice none 0 0,v]) QP w k:=by
 obtain ⟨A,c,rfl,hlc,hcm,hlm,YS⟩:=Ze.open hs
 cases hl:l with
 | nil=>
  subst hl
  rw [List.length_nil,Bq ht hT none A 0 0 c (Nat.le_refl _)]
  exact hk _ _ (Yc.nil _ _ _ _ _) (Ext.refl _)
 | cons x r=>
  obtain ⟨b,o,_,hA,_⟩:=YS 0 x (by rw [hl];rfl)
  subst hA
  rw [← hl]
  refine WV (l:=([]:List α)) (l':=l) ht hT hz h0 hn (λ x _=>h1 x) (Yc.nil w w.heap.size n T enc) (λ j y hy=>?_) (Nat.le_refl _) (by simpa using hm) (by simpa using hb) λ v' w' hO hg=>?_
  · obtain ⟨b',o',cs,hA',_,hA,hc⟩:=YS j y hy
    injection hA' with hA'
    injection hA' with g1 g2
    subst g1 g2
    rw [← hE _ _ hc]
    exact hA
  · rw [List.nil_append] at hO
    refine hk v' w' (by rw [hl] at hO ⊢;exact hO) ((Ext.refl w).grown hg λ b hb=>by cases hb)
def O4 {QP:PEn} {w:Wd} {v:Vl} {l:List UInt8} {k:KV} (hs:GT w v l) (hl:l.length≤1048576) (hk:∀ v' w',Yc w' w.heap.size 5 1 Gk v' l→Ext w w'→k v' w') :
 opV Pg (Builtin.append_ #[40,40] 40 #[.slice none 0 0,v]) QP w k:=
 qk underlying40 ty5 rfl K7 (λ _=>rfl) (λ x u hu=>by simp at hu;subst hu;rfl) hs (λ _ _ h=>h) (Nat.le_trans (Nat.mul_le_mul hl by5) K7) K9 hk
def Ih {QP:PEn} {w:Wd} {v:Vl} {l:List UL} {k:KV} (hs:Q0 w v l) (hl:l.length≤1048576) (hk:∀ v' w',Yc w' w.heap.size 78 3 Xh v' l→Ext w w'→k v' w') :
 opV Pg (Builtin.append_ #[41,41] 41 #[.slice none 0 0,v]) QP w k:=
 qk underlying41 Ff rfl K7 (λ _=>rfl) (λ x u hu=>by simp at hu;rcases hu with rfl | rfl | rfl<;>rfl) hs (λ _ _ h=>h) (Nat.le_trans (Nat.mul_le_mul hl Zjz) K7) K9 hk
def Kc (w:Wd) (b0:Nat) (fv:Vl) (fs:List FrD):Prop:=∃ css:List (Cs 7),Yc w b0 43 7 Subtype.val fv css∧WY 7 (E7 w b0) css fs
def Kc.ext {w w':Wd} {b0:Nat} {fv:Vl} {fs:List FrD} (h:Kc w b0 fv fs) (e:Ext w w'):Kc w' b0 fv fs:=by obtain ⟨css,h1,h2⟩:=h;exact ⟨css,h1.ext e,h2.imp λ _ _ q=>q.ext e⟩
def Kc.one {w:Wd} {b0:Nat} {fv:Vl} {fs:List FrD} (h:Kc w b0 fv fs):fv.oneCell'=true:=by
 obtain ⟨css,h1,_⟩:=h
 exact Ze.oneCell (h1.slice (E:=λ _ cs x=>cs=x.1) (λ x=>x.2) (λ _ _=>rfl))
section
variable {w0 w:Wd} {p8 k:Nat} {fv t6 bv tv:Vl} {fs:List FrD} {x:FrD} {Zx:KW} {R:RT}
def Za1 (h:Kc w w0.heap.size fv fs) (e:Ext w0 w) (o8:w.heap[p8]?=some (.cells (ZC x bv tv).toArray 43 (0,0))) (hb:Yc w w0.heap.size 5 1 Gk bv x.bytes) (ht:Yc w w0.heap.size 78 3 Xh tv x.table) (hl:fs.length≤1048576) (hk:k≤1000000000)
 (hN:∀ fv' w',Kc w' w0.heap.size fv' (fs++[x])→Ext w0 w'→w.heap.size≤w'.heap.size→(∀ b,b < w.heap.size→fv.ownBlock≠some b→w'.heap[b]?=w.heap[b]?)→Zx fv' (.int .i64 ((k:Int)+1)) w') :
 SI fv (.int .i64 k) (Qq4 p8) Zx R w:=by
 have hwk:IntKind.i64.wrap ((k:Int)+1)=(k:Int)+1:=YF K9 K9
 obtain ⟨css,hO,hM⟩:=h
 have u1:bv.oneCell'=true:=Ze.oneCell (Ly hb)
 have u2:tv.oneCell'=true:=Ze.oneCell (Bw ht)
 have hml:css.length=fs.length:=hM.1
 unfold SI
 refine Qqg (Za o8).1 ?_
 have eV:Ext w (w.alloc (.cells (ZC x bv tv).toArray 43)):=(Ext.refl w).alloc _
 have oV:=Zv w (ZC x bv tv).toArray 43
 change opV _ _ _ (w.alloc (.cells (ZC x bv tv).toArray 43)) _
 generalize (w.alloc (.cells (ZC x bv tv).toArray 43))=V at eV oV ⊢
 refine Nl (x:=⟨ZC x bv tv,rfl⟩) (λ u hu=>?_) (hO.ext eV) oV (Nat.le_trans e.size eV.size) K9 ?_
 · simp only [List.mem_cons,List.not_mem_nil,or_false] at hu
   rcases hu with rfl | rfl | rfl | rfl | rfl | rfl | rfl<;>first | rfl | assumption
 intro v' w' hO' hg
 have hOV:=hO.ext eV
 refine Qqg hwk ?_
 refine hN v' w' ⟨css++[⟨ZC x bv tv,rfl⟩],hO',Gn (hM.imp λ _ _ q=>(q.ext eV).grow hOV hg K7 K7) ⟨rfl,λ j y cs hx hcs=>?_⟩⟩ ((e.trans eV).grown hg λ b hb=>(World.ownsRow.lt hO b hb).1) (Nat.le_trans eV.size hg.size) λ b hb Y3=>(hg.block b (Nat.lt_of_lt_of_le hb eV.size) λ h=>Y3 h.symm).trans (eV.block b hb)
 cases j with
 | succ j=>simp at hx
 | zero=>
  simp at hx hcs
  subst hx hcs
  have hE:E7 w w0.heap.size (ZC x bv tv) x:=⟨bv,tv,rfl,hb,ht⟩
  exact (hE.ext eV).grow hOV hg K7 K7
def Kc.chg {w':Wd} {oc:AVl} {f:Nat×Nat} {b0:Nat} (h:Kc w b0 fv fs) (hc:Chg p8 w w') (ho:w.heap[p8]?=some (.cells oc 43 f)) (Y3:fv.ownBlock≠some p8):Kc w' b0 fv fs:=by
 obtain ⟨css,h1,h2⟩:=h
 exact ⟨css,QN h1 hc Y3,h2.imp λ _ _ q=>q.chg hc ho K7 K7⟩
def Tn (h:Kc w w0.heap.size fv fs) (e:Ext w0 w) (lp:w0.heap.size≤p8) (Y3:fv.ownBlock≠some p8) (o8:w.heap[p8]?=some (.cells (ZC x bv tv).toArray 43 (0,0))) (hb:GT w bv x.bytes) (ht:Q0 w tv x.table) (b1:x.bytes.length≤1048576) (b2:x.table.length≤1048576) (hl:fs.length≤1048576) (hk:k≤1000000000)
 (hN:∀ fv' w',Kc w' w0.heap.size fv' (fs++[x])→Ext w0 w'→w.heap.size≤w'.heap.size→(∀ b,b < w.heap.size→b≠p8→fv.ownBlock≠some b→w'.heap[b]?=w.heap[b]?)→Zx fv' (.int .i64 ((k:Int)+1)) w') :
 Yg w λ C w=>SK fv (.int .i64 k) (Qq4 p8) C Zx R w:=by
 refine ZB ?_
 have eD:Ext w (drew w):=(Ext.refl w).drew
 have hD:=h.ext eD
 have o8D:=eD.obj o8
 have hbD:=hb.ext eD
 have htD:=ht.ext eD
 have e0D:=e.trans eD
 have v1:bv.oneCell'=true:=Ze.oneCell hb
 have v2:tv.oneCell'=true:=Ze.oneCell ht
 have sD:w.heap.size≤(drew w).heap.size:=eD.size
 have kD:∀ b,b < w.heap.size→(drew w).heap[b]?=w.heap[b]?:=λ b hb=>eD.block b hb
 generalize (drew w)=D at hD o8D hbD htD e0D sD kD ⊢
 unfold SK
 refine Qqg (Za o8D).1 ?_
 refine O4 hbD b1 λ bv' w1 hb' e1=>?_
 refine ⟨e1,?_⟩
 unfold Zdd
 refine Qqk ?_
 refine Ih (htD.ext e1) b2 λ tv' w2 ht' e2=>?_
 have e12:=e1.trans e2
 refine ⟨e12,?_⟩
 have o82:=e12.obj o8D
 have h2:=hD.ext e12
 have hb2:=(hb'.ext e2).base e0D.size
 have ht2:=ht'.base (e0D.trans e1).size
 have u1:bv'.oneCell'=true:=Ze.oneCell (Ly hb2)
 have u2:tv'.oneCell'=true:=Ze.oneCell (Bw ht2)
 unfold Zdc
 refine Qqh (Za o82).1 (Za o82).2 ?_
 refine XL ?_
 have o83:=Zy (o:=5) o82 bv'
 refine Qqh (Za o83).1 (Za o83).2 ?_
 refine XL ?_
 have hc:Chg p8 w2 ((w2.setCell ⟨p8,5,none⟩ bv').setCell ⟨p8,6,none⟩ tv'):=⟨by rw [World.size_setCell,World.size_setCell];exact Nat.le_refl _,λ b _ hb=>(YT.setCell _ p8 6 _ b hb).trans (YT.setCell w2 p8 5 _ b hb)⟩
 have e4:Ext w0 ((w2.setCell ⟨p8,5,none⟩ bv').setCell ⟨p8,6,none⟩ tv'):=((e0D.trans e12).setCell (p:=⟨p8,5,none⟩) lp _).setCell (p:=⟨p8,6,none⟩) lp _
 have o84:((w2.setCell ⟨p8,5,none⟩ bv').setCell ⟨p8,6,none⟩ tv').heap[p8]?=some (.cells (ZC x bv' tv').toArray 43 (0,0)):=Zy (o:=6) o83 tv'
 have s4:w2.heap.size≤((w2.setCell ⟨p8,5,none⟩ bv').setCell ⟨p8,6,none⟩ tv').heap.size:=hc.size
 refine Za1 (h2.chg hc o82 Y3) e4 o84 (QN hb2 hc (XD hb2 o82 K7)) (QN ht2 hc (XD ht2 o82 K7)) hl hk λ fv' w' g1 g2 g3 g4=>?_
 have s2:=e12.size
 refine hN fv' w' g1 g2 K9 λ b hb h8 hne'=>?_
 exact (g4 b K9 hne').trans ((hc.block b K9 h8).trans ((e12.block b K9).trans (kD b hb)))
end
def EO (w:Wd) (lo:Nat) (cs:List Vl) (r:MrD):Prop:=∃ fv,cs=ZT r fv∧Kc w lo fv r.fields
def EO.ext {w w':Wd} {lo:Nat} {cs:List Vl} {r:MrD} (h:EO w lo cs r) (e:Ext w w'):EO w' lo cs r:=by obtain ⟨fv,h1,h2⟩:=h;exact ⟨fv,h1,h2.ext e⟩
def EO.mr {w:Wd} {lo:Nat} {cs:List Vl} {r:MrD} (h:EO w lo cs r):EMr w cs r:=by
 obtain ⟨fv,h1,css,h2,h3⟩:=h
 exact ⟨fv,h1,h2.reads (h3.imp λ _ _ q=>q.fr)⟩
def EO.chg {w w':Wd} {lo g:Nat} {cs:List Vl} {r:MrD} {oc:AVl} {T:TypeId} {f:Nat×Nat} (h:EO w lo cs r) (hc:Chg g w w') (ho:w.heap[g]?=some (.cells oc T f)) (h1:5≠T) (h2:78≠T) (hT:43≠T):EO w' lo cs r:=by
 obtain ⟨fv,g1,css,g2,g3⟩:=h
 exact ⟨fv,g1,css,QN g2 hc (XD g2 ho hT),g3.imp λ _ _ q=>q.chg hc ho h1 h2⟩
def EO.grow {α:Type} {w w':Wd} {lo lo2 n:Nat} {cs:List Vl} {r:MrD} {v:Vl} {l:List α} {enc:α→List Vl} {T:TypeId} (h:EO w lo cs r) (hO:Yc w lo2 T n enc v l) (hg:w.grownBy w' v.ownBlock) (h1:5≠T) (h2:78≠T) (hT:43≠T):EO w' lo cs r:=by
 rcases Bu hO hg with e | ⟨g,oc,f,_,ho,hc⟩
 · exact h.ext e
 · exact h.chg hc ho h1 h2 hT
def E7.low {w:Wd} {lo lo':Nat} {cs:List Vl} {x:FrD} (h:E7 w lo cs x) (hl:lo'≤lo):E7 w lo' cs x:=by
 obtain ⟨bv,tv,h1,h2,h3⟩:=h
 exact ⟨bv,tv,h1,h2.base hl,h3.base hl⟩
def Kc.low {w:Wd} {lo lo':Nat} {fv:Vl} {fs:List FrD} (h:Kc w lo fv fs) (hl:lo'≤lo):Kc w lo' fv fs:=by
 obtain ⟨css,h1,h2⟩:=h
 exact ⟨css,h1.base hl,h2.imp λ _ _ q=>q.low hl⟩
section
variable {w0 w1 w:Wd} {p5 i:Nat} {fv rv:Vl} {r:MrD} {Zu:KW} {R:RT}
def Lz (e01:Ext w0 w1) (o5:w1.heap[p5]?=some (.cells (ZT r fv).toArray 60 (0,0))) (hF:WK w1 fv r.fields) (hl:r.fields.length≤1048576) (hb:∀ x∈r.fields,x.bytes.length≤1048576∧x.table.length≤1048576)
 (hK:∀ fv' w',Kc w' w1.heap.size fv' r.fields→Ext w1 w'→MS rv (.int .i64 i) (Qq4 p5) fv' Zu R w') :
 Qq (λ t6 t7 w Zx=>SL rv (.int .i64 i) (Qq4 p5) t6 t7 Zu Zx R w) (.slice none 0 0) (.int .i64 0) w1:=by
 obtain ⟨A,c,rfl,hlc,hcm,hlm,YS⟩:=Ze.open hF
 refine YA (λ a b w=>∃ (k:Nat) (u:Vl),a=u∧b = .int .i64 k∧k≤r.fields.length∧Kc w w1.heap.size u (r.fields.take k)∧Ext w1 w) (λ _ b _=>r.fields.length - (intOf b).toNat) ⟨0,_,rfl,rfl,by omega,⟨[],Yc.nil _ _ _ _ _,rfl,λ k x cs hx=>by simp at hx⟩,Ext.refl _⟩ ?_
 rintro u _ w ⟨k,_,rfl,rfl,hk,hO,e⟩
 have q:=(Za (e.obj o5)).1
 unfold SL
 rcases ZH hk with ⟨x,hx,_,Ym,ZK⟩ | ⟨hke,_,ZK⟩
 · obtain ⟨b,o,cs,rfl,_,hA,bv,tv,rfl,hB,hT⟩:=YS k x hx
   have v1:=Ze.oneCell hB
   have v2:=Ze.oneCell hT
   have hq:=hA.c7 e
   obtain ⟨b1,b2⟩:=hb x (List.mem_of_getElem? hx)
   refine Qqh q ZK ?_
   unfold Zde
   refine Qqh q hq ?_
   have eV:Ext w (w.alloc (.cells (ZC x bv tv).toArray 43)):=(Ext.refl w).alloc _
   have oV:=Zv w (ZC x bv tv).toArray 43
   change Yg (w.alloc (.cells (ZC x bv tv).toArray 43)) _
   generalize (w.alloc (.cells (ZC x bv tv).toArray 43))=V at eV oV ⊢
   have Y3:u.ownBlock≠some w.heap.size:=λ h=>by
    obtain ⟨css,h1,_⟩:=hO
    have:=(World.ownsRow.lt h1 _ h).2
    omega
   refine Tn (hO.ext eV) (e.trans eV) e.size Y3 oV (hB.ext (e.trans eV)) (hT.ext (e.trans eV)) b1 b2 (by rw [List.length_take];omega) K9 λ fv' w' g1 g2 _ _=>?_
   exact ⟨⟨k+1,fv',rfl,rfl,Ym,by rw [Xr hx];exact g1,g2⟩,ZQ (kd := .i64) Ym⟩
 · rw [hke,List.take_length] at hO
   refine Qqh q ZK ?_
   exact hK _ _ hO e
def To {css:List (Cs 3)} {done:List MrD} (hO:Yc w w0.heap.size 60 3 Subtype.val rv css) (hM:WY 3 (EO w w0.heap.size) css done) (e:Ext w0 w) (lp:w0.heap.size≤p5) (Y3:rv.ownBlock≠some p5) (o5:w.heap[p5]?=some (.cells (ZT r fv).toArray 60 (0,0))) {fv':Vl} (hF:Kc w w0.heap.size fv' r.fields) (hl:done.length≤1048576) (hi:i≤1000000000)
 (hN:∀ rv' w' css',Yc w' w0.heap.size 60 3 Subtype.val rv' css'→WY 3 (EO w' w0.heap.size) css' (done++[r])→Ext w0 w'→w.heap.size≤w'.heap.size→(∀ b,b < w.heap.size→b≠p5→rv.ownBlock≠some b→w'.heap[b]?=w.heap[b]?)→Zu rv' (.int .i64 ((i:Int)+1)) w') :
 MS rv (.int .i64 i) (Qq4 p5) fv' Zu R w:=by
 have hwi:IntKind.i64.wrap ((i:Int)+1)=(i:Int)+1:=YF K9 K9
 have u1:=hF.one
 have hml:css.length=done.length:=hM.1
 unfold MS
 refine Qqh (Za o5).1 (Za o5).2 ?_
 have hc:Chg p5 w (w.setCell ⟨p5,2,none⟩ fv'):=⟨by rw [World.size_setCell];exact Nat.le_refl _,λ b _ hb=>YT.setCell _ p5 2 _ b hb⟩
 have eS:Ext w0 (w.setCell ⟨p5,2,none⟩ fv'):=e.setCell (p:=⟨p5,2,none⟩) lp _
 have oS:(w.setCell ⟨p5,2,none⟩ fv').heap[p5]?=some (.cells (ZT r fv').toArray 60 (0,0)):=Zy (o:=2) o5 fv'
 have hOS:=QN hO hc Y3
 have hMS:=hM.imp λ _ _ q=>q.chg hc o5 K7 K7 K7
 have hFS:EO (w.setCell ⟨p5,2,none⟩ fv') w0.heap.size (ZT r fv') r:=EO.chg ⟨fv',rfl,hF⟩ hc o5 K7 K7 K7
 have sS:(w.setCell ⟨p5,2,none⟩ fv').heap.size=w.heap.size:=World.size_setCell ..
 generalize (w.setCell ⟨p5,2,none⟩ fv')=S at hc eS oS hOS hMS hFS sS ⊢
 refine Qqg (Za oS).1 ?_
 rw [← sS]
 have eV:Ext S (S.alloc (.cells (ZT r fv').toArray 60)):=(Ext.refl S).alloc _
 have oV:=Zv S (ZT r fv').toArray 60
 change opV _ _ _ (S.alloc (.cells (ZT r fv').toArray 60)) _
 generalize (S.alloc (.cells (ZT r fv').toArray 60))=V at eV oV ⊢
 refine xo (x:=⟨ZT r fv',rfl⟩) (λ u hu=>?_) (hOS.ext eV) oV (Nat.le_trans eS.size eV.size) K9 ?_
 · simp only [List.mem_cons,List.not_mem_nil,or_false] at hu
   rcases hu with rfl | rfl | rfl<;>first | rfl | assumption
 intro v' w' hO' hg
 have hOV:=hOS.ext eV
 refine Qqg hwi ?_
 have s1:=eV.size
 have s2:=hg.size
 refine hN v' w' (css++[⟨ZT r fv',rfl⟩]) hO' (Gn (hMS.imp λ _ _ q=>(q.ext eV).grow hOV hg K7 K7 K7) ⟨rfl,λ j y cs hx hcs=>?_⟩) ((eS.trans eV).grown hg λ b hb=>(World.ownsRow.lt hO b hb).1) K9 λ b hb h5 hne'=>(hg.block b K9 λ h=>hne' h.symm).trans ((eV.block b K9).trans (hc.block b hb h5))
 cases j with
 | succ j=>simp at hx
 | zero=>
  simp at hx hcs
  subst hx hcs
  exact (hFS.ext eV).grow hOV hg K7 K7 K7
end
def ZdQ (w0 w':Wd) (m:Xd) (u:Vl):Prop:=∃ rv css,u = .agg (ZL m rv).toArray∧Yc w' w0.heap.size 60 3 Subtype.val rv css∧WY 3 (EO w' w0.heap.size) css m.rules
def ZdQ.val {w0 w':Wd} {m:Xd} {u:Vl} (h:ZdQ w0 w' m u):YN w' u m:=by
 obtain ⟨rv,css,h1,h2,h3⟩:=h
 exact ⟨rv,h1,h2.reads (h3.imp λ _ _ q=>q.mr)⟩
def T4 (w0:Wd) (v:Vl) (m:Xd) (hm:YN w0 v m) (hl:m.rules.length≤1000000) (hb:∀ r∈m.rules,r.fields.length≤1000000∧∀ x∈r.fields,x.bytes.length≤1000000∧x.table.length≤1000000):Ret Pg 13 #[v] w0 λ r w'=>ZdQ w0 w' m r∧Ext w0 w':=by
 obtain ⟨rv,rfl,hR,t1⟩:=hm.op
 obtain ⟨A,c,rfl,hlc,hcm,hlm,YS⟩:=Ze.open hR
 refine ZlP (R:=ZR _) ?_;unfold n77
 rw [Yi]
 have o1:=Zv w0 (ZL m (.slice A m.rules.length c)).toArray 24
 have e1:Ext w0 (w0.alloc (.cells (ZL m (.slice A m.rules.length c)).toArray 24)):=(Ext.refl w0).alloc _
 have s1:(w0.alloc (.cells (ZL m (.slice A m.rules.length c)).toArray 24)).heap.size=w0.heap.size+1:=World.size_alloc ..
 generalize (w0.alloc (.cells (ZL m (.slice A m.rules.length c)).toArray 24))=W1 at o1 e1 s1 ⊢
 refine Qqk ?_
 have o2:=Zv W1 (ZL ⟨ByteArray.empty,[]⟩ Yv).toArray 24
 have e2:Ext W1 (W1.alloc (.cells (ZL ⟨ByteArray.empty,[]⟩ Yv).toArray 24)):=(Ext.refl W1).alloc _
 change Qq _ _ _ (W1.alloc (.cells (ZL ⟨ByteArray.empty,[]⟩ Yv).toArray 24))
 generalize (W1.alloc (.cells (ZL ⟨ByteArray.empty,[]⟩ Yv).toArray 24))=W at o2 e2 ⊢
 replace o1:=e2.obj o1
 have e:=e1.trans e2
 have l1:w0.heap.size≤w0.heap.size:=Nat.le_refl _
 have l2:w0.heap.size≤W1.heap.size:=K9
 have n12:w0.heap.size≠W1.heap.size:=K9
 generalize hp1:w0.heap.size=p1 at o1 n12 l1 ⊢
 generalize W1.heap.size=p2 at o2 l2 n12 ⊢
 refine YA (λ a b w=>∃ (i:Nat) (css:List (Cs 3)),b = .int .i64 i∧i≤m.rules.length∧Yc w w0.heap.size 60 3 Subtype.val a css∧WY 3 (EO w w0.heap.size) css (m.rules.take i)∧Ext w0 w∧w.heap[p1]?=some (.cells (ZL m (.slice A m.rules.length c)).toArray 24 (0,0))∧w.heap[p2]?=some (.cells (ZL ⟨ByteArray.empty,[]⟩ Yv).toArray 24 (0,0))) (λ _ b _=>m.rules.length - (intOf b).toNat) ⟨0,[],rfl,by omega,Yc.nil _ _ _ _ _,⟨rfl,λ k x cs hx=>by simp at hx⟩,e,o1,o2⟩ ?_
 rintro rv _ w ⟨i,css,rfl,hi,hO,hM,ew,q1,q2⟩
 have r1:=(Za q1).1
 have u3:rv.oneCell'=true:=Ze.oneCell (hO.slice (E:=λ _ cs x=>cs=x.1) (λ x=>x.2) (λ _ _=>rfl))
 unfold SJ
 rcases ZH hi with ⟨r,hr,_,Ym,ZK⟩ | ⟨hie,_,ZK⟩
 · obtain ⟨b,o,cs,rfl,_,hA,fv,rfl,hF⟩:=YS i r hr
   have v1:=Ze.oneCell hF
   have hq:=hA.c3 ew
   obtain ⟨b1,b2⟩:=hb r (List.mem_of_getElem? hr)
   refine Qqh r1 ZK ?_
   unfold Zdg
   refine Qqh r1 hq ?_
   have eV:Ext w (w.alloc (.cells (ZT r fv).toArray 60)):=(Ext.refl w).alloc _
   have oV:=Zv w (ZT r fv).toArray 60
   change Qq _ _ _ (w.alloc (.cells (ZT r fv).toArray 60))
   generalize (w.alloc (.cells (ZT r fv).toArray 60))=V at eV oV ⊢
   have k1:=(Qqq q1).1
   have k2:=(Qqq q2).1
   have Y3:rv.ownBlock≠some w.heap.size:=λ h=>by
    have:=(World.ownsRow.lt hO _ h).2
    omega
   refine Lz (w0:=w0) (w1:=V) (i:=i) (rv:=rv) (ew.trans eV) oV (hF.ext (ew.trans eV)) K9 (λ x hx=>by have:=b2 x hx;omega) λ fv' w' g1 g2=>?_
   have e3:=eV.trans g2
   have s3:=e3.size
   refine To (hO.ext e3) (hM.imp λ _ _ q=>q.ext e3) (ew.trans e3) ew.size Y3 (g2.obj oV) (g1.low (ew.trans eV).size) (by rw [List.length_take];omega) K9 λ rv' w'' css' a1 a2 a3 a4 a5=>?_
   refine ⟨⟨i+1,css',rfl,Ym,a1,by rw [Xr hr];exact a2,a3,?_,?_⟩,ZQ (kd := .i64) Ym⟩
   · exact (a5 p1 K9 K9 (XD hO q1 K7)).trans (e3.obj q1)
   · exact (a5 p2 K9 K9 (XD hO q2 K7)).trans (e3.obj q2)
 · rw [hie,List.take_length] at hM
   refine Qqh r1 ZK ?_
   unfold Zdf
   have h2:(w.setCell ⟨p1,1,none⟩ rv).heap[p2]?=some (.cells (ZL ⟨ByteArray.empty,[]⟩ Yv).toArray 24 (0,0)):=(YT.setCell w p1 1 rv p2 n12.symm).trans q2
   refine QqZ r1 (Za q1).2 (Za q2).1 (Za h2).1 (Za h2).2 ?_
   have hc1:Chg p1 w (w.setCell ⟨p1,1,none⟩ rv):=⟨by rw [World.size_setCell];exact Nat.le_refl _,λ b _ hb=>YT.setCell _ p1 1 _ b hb⟩
   have hO1:=QN hO hc1 (XD hO q1 K7)
   have hM1:=hM.imp λ _ _ q=>q.chg hc1 q1 K7 K7 K7
   have lp1:w0.heap.size≤p1:=K9
   have eS:Ext w0 (w.setCell ⟨p1,1,none⟩ rv):=ew.setCell (p:=⟨p1,1,none⟩) lp1 _
   generalize (w.setCell ⟨p1,1,none⟩ rv)=S at h2 hO1 hM1 eS ⊢
   have hc2:Chg p2 S ((S.setCell ⟨p2,0,none⟩ (.string m.name)).setCell ⟨p2,1,none⟩ rv):=⟨by rw [World.size_setCell,World.size_setCell];exact Nat.le_refl _,λ b _ hb=>(YT.setCell _ p2 1 _ b hb).trans (YT.setCell S p2 0 _ b hb)⟩
   exact ⟨⟨rv,css,rfl,QN hO1 hc2 (XD hO1 h2 K7),hM1.imp λ _ _ q=>q.chg hc2 h2 K7 K7 K7⟩,(eS.setCell (p:=⟨p2,0,none⟩) l2 _).setCell (p:=⟨p2,1,none⟩) l2 _⟩
def NW (w0:Wd) (a f c:Int):Ret Pg 38 #[.int .i64 a,.int .i64 f,.int .i64 c] w0 λ r w'=>r = .tuple #[Wj a f c,.bool true]∧Ext w0 w':=by
 refine ZlR (R:=ZR _) ?_;unfold n79
 refine Qqk ?_
 exact ⟨by trivial,ee⟩
def ZF (w:Wd) (p:Nat):Prop:=∃ cs,w.heap[p]?=some (.cells cs 123 (0,0))∧cs.size=15
structure Pw2 (D w:Wd) (fb fa:Zt) (x11 x12:Option Nat) (x19 x23:Option Vl):Prop where
 e:Ext D w
 p11:∀ p,x11=some p→D.heap.size≤p∧ZF w p
 p12:∀ p,x12=some p→D.heap.size≤p∧ZF w p
 ne:∀ p q,x11=some p→x12=some q→p≠q
 v19:∀ v,x19=some v→Z0 D v fb
 v23:∀ v,x23=some v→Z0 D v fa
def zH (w0:Wd) (v:Vl) (m:Yh) (i:Nat) (f:Zt) (hm:Qt w0 v m) (hi:m.fields[i]?=some f) (hd:H0 (m.fields.take i)):Ret Pg 172 #[v,.int .i64 (i:Int)] w0 λ r w'=>r = .int .i64 (Wg (Xo (m.fields.take i)) f)∧Ext w0 w':=by
 obtain ⟨fv,rfl,hF⟩:=hm
 have hF0:=hF
 refine ZlH (R:=ZR _) ?_;unfold n69
 refine Qqk ?_
 have Xw:=Z6.new (w:=w0) (ZZ m fv) (74)
 have eW:Ext w0 (w0.alloc (Obj.cells (List.toArray (ZZ m fv)) (74))):=(Ext.refl _).alloc _
 generalize (w0.alloc (Obj.cells (List.toArray (ZZ m fv)) (74)))=W at Xw eW ⊢
 obtain ⟨b,o,c,rfl,hlc,hcm,hlm,hil,YS⟩:=UC hF hi
 obtain ⟨cs,_,hA,hE⟩:=YS i f hi
 obtain ⟨tv,cv,rfl,hT,hC,ht1,hc1⟩:=hE.op
 have hT0:=hT
 obtain ⟨At,ct,rfl,hlct,hcmt,hlmt,helt⟩:=Ze.open hT
 have hcA:=hA.c15 eW
 refine Qqh (Xw.c2 (Ext.refl W)) hcA ?_
 have hBX:=Z6.new (w:=W) ([.int .i64 f.base,.slice At f.terms.length ct]) (120)
 have eX:Ext W (W.alloc (Obj.cells (List.toArray ([.int .i64 f.base,.slice At f.terms.length ct])) (120))):=(Ext.refl _).alloc _
 generalize (W.alloc (Obj.cells (List.toArray ([.int .i64 f.base,.slice At f.terms.length ct])) (120)))=X at hBX eX ⊢
 refine zcr (J5 _ _ f.base f.terms ⟨_,rfl,Z8.ext hT0 (eW.trans eX)⟩) λ w1 e1=>?_
 have E1:Ext w0 w1:=eW.trans (eX.trans e1)
 unfold Zc6
 cases hs:WD f.base f.terms with
 | false=>
  refine Qqk ?_
  exact ⟨by unfold Wg;rw [hs];rfl,E1⟩
 | true=>
 obtain ⟨_,h4,_⟩:=UJ hs
 have Uq:Wg (Xo (m.fields.take i)) f=orC (WI (Xo (m.fields.take i)) f.terms) (Yn (NS f.base f.terms (Xo (m.fields.take i))) 9):=by unfold Wg;rw [hs];rfl
 rw [Uq]
 have hnf:=Dg hd
 generalize hrp:Xo (m.fields.take i)=rp at hnf ⊢
 refine Qqk ?_
 refine YA (λ a b w'=>∃ (k:Nat) (sv:Vl),a=sv∧b = .int .i64 k∧k≤f.terms.length∧Ext w1 w'∧Yc w' w1.heap.size 266 3 BD sv (Ge rp (f.terms.take k))∧∀ t∈f.terms.take k,(YC rp t.field).isSome=true) (λ _ b _=>f.terms.length - (intOf b).toNat) ⟨0,_,rfl,rfl,by omega,Ext.refl _,Yc.nil _ _ _ _ _,by simp⟩ ?_
 rintro sv _ w ⟨k,_,rfl,rfl,hk,e,hO,hin⟩
 have E:=E1.trans e
 have hcX:=hBX.c2 (e1.trans e)
 have hcW:=Xw.c2 (eX.trans (e1.trans e))
 unfold Zc5
 rcases ZH hk with ⟨x,hx,hdr,Ym,ZK⟩ | ⟨hk,hdr,ZK⟩
 · obtain ⟨bt,ot,cst,rfl,_,hAt,rfl⟩:=helt k x hx
   refine Qqh ZK hcX ?_
   refine ZB ?_
   unfold Zc2
   refine Qqb hcX hcW (hAt.c2 E) ?_
   refine zcr (KA _ _ m x.field i ⟨_,rfl,hF0.ext ee⟩ (Nat.le_of_lt hil)) λ w2 e2=>?_
   refine ⟨e2,?_⟩
   unfold Zc1
   rcases hnf x.field with ⟨h1,h2⟩ | ⟨kk,g,h1,h2,h3⟩
   · rw [h1]
     refine Qqk ?_
     exact ⟨by rw [zA (List.mem_of_getElem? hx) h2];rfl,ee⟩
   · have hg:=xc h2
     have VY:kk < m.fields.length:=(Qqj hg).1
     obtain ⟨csg,_,hAg,hEg⟩:=YS kk g hg
     obtain ⟨tg,cg,rfl,hTg,hCg,htg,hcg⟩:=hEg.op
     have f2:Ext w0 w2:=E.drew.trans e2
     have hcg2:=hAg.c15 f2
     have hcW2:=Xw.c2 (eX.trans (e1.trans (e.drew.trans e2)))
     have hcX2:=hBX.c2 (e1.trans (e.drew.trans e2))
     rw [h1]
     simp (disch:=try exact DI) only [↓PR,QR,simprocAttr,show decide ((kk:Int) < 0)=false by simp,hcW2,hcg2]
     refine zcr (jd _ _ g ⟨tg,cg,rfl,hTg.ext f2,hCg.ext f2⟩) λ w3 e3=>?_
     have f3:=f2.trans e3
     have hd0:decide ((kk:Int) < 0)=false:=by simp
     cases hn:Xx g with
     | false=>
      rw [hn,if_neg (by simp)] at h3
      refine Qqg hd0 ?_
      exact ⟨by rw [zA (List.mem_of_getElem? hx) h3];rfl,f3⟩
     | true=>
      rw [hn,if_pos rfl] at h3
      have eW3:Ext w1 w3:=e.drew.trans (e2.trans e3)
      refine Qqg hd0 ?_
      unfold Zc0
      refine Qqh (Xw.c2 (eX.trans (e1.trans eW3))) (hAg.c15 f3) ?_
      refine zcr (BB _ _ g ⟨tg,cg,rfl,hTg.ext f3,hCg.ext f3⟩) λ w4 e4=>?_
      have eW4:Ext w1 w4:=eW3.trans e4
      have f4:=f3.trans e4
      unfold ZcZ
      refine Qqh (hBX.c2 (e1.trans eW4)) (hAt.c2 f4) ?_
      have hO4:=hO.ext (((((Ext.refl w).drew.trans e2).trans e3).trans e4).alloc (Obj.cells #[.string x.field,.int .i64 g.low,.int .i64 (XE g)] 266))
      have hlk:(Ge rp (f.terms.take k)).length=k:=by unfold Ge;rw [List.length_map,List.length_take];omega
      have sw:=eW4.size
      refine jV underlying264 BX Zff rfl K7 (λ _=>rfl) (x.field,g.low,XE g) (by simp only [BD,List.forall_mem_cons];exact ⟨rfl,rfl,rfl,by simp⟩) hO4 (Z6.new _ _) (by simp only [World.size_alloc];omega) (by rw [hlk];omega) ?_
      intro v' w' hO' hext
      have eN:Ext w1 w':=hext w1 (eW4.alloc _) (Nat.le_refl _)
      refine Qqk ?_
      refine ⟨⟨k+1,v',rfl,rfl,by omega,eN,?_,OR hin hx (by rw [h3];rfl)⟩,ZQ (kd := .i64) Ym⟩
      have:Ge rp (f.terms.take (k+1))=Ge rp (f.terms.take k)++[(x.field,g.low,XE g)]:=by
       unfold Ge
       rw [Yw hx,List.map_append]
       simp only [List.map_cons,List.map_nil]
       rw [BI h3]
      rw [this]
      exact hO'
 · subst hk
   rw [List.take_length] at hO hin
   refine Qqh ZK hcX ?_
   have hs3:xj w sv (Ge rp f.terms):=hO.slice (E:=ZdP) (λ _=>rfl) (λ _ _=>rfl)
   have hcon:=Pw (base:=f.base) (rp:=Ge rp f.terms) (rp':=rp) (ts:=f.terms) λ t ht=>BU hin ht
   refine zcr (Ce _ _ sv f.base f.terms (Ge rp f.terms) ⟨_,rfl,hT0.ext E⟩ hs3 (λ t ht=>by rw [BU hin ht];exact hin t ht)) λ w2 e2=>?_
   have E2:=E.trans e2
   unfold FO
   rw [hcon.1,hcon.2.1,hcon.2.2,qX hin]
   unfold Zc4
   have hL:(YW f.base f.terms rp != 0||decide (Qw f.base f.terms rp < 0)||decide (1048576 < Qv f.base f.terms rp))=!NS f.base f.terms rp:=by
    unfold NS
    rw [Bool.eq_iff_iff]
    simp only [Bool.or_eq_true,bne_iff_ne,decide_eq_true_eq,Bool.not_eq_true',Bool.and_eq_false_iff,beq_eq_false_iff_ne,decide_eq_false_iff_not]
    omega
   simp (disch:=try exact DI) only [↓PR,QR,simprocAttr,Zc3,hL]
   cases NS f.base f.terms rp with
   | false=>simp (disch:=try exact DI) only [↓PR,QR,simprocAttr];exact ⟨rfl,E2⟩
   | true=>simp (disch:=try exact DI) only [↓PR,QR,simprocAttr];exact ⟨rfl,E2⟩
def jC {hi n a b:Int}:Yf hi n [a,b]=if a < n∨hi < a∨b < a∨hi < b then 7 else 0:=by
 by_cases h1:a < n<;>by_cases h2:hi < a<;>by_cases h3:b < a<;>by_cases h4:hi < b<;>simp [Yf,Yn,orC, *]<;>omega
def Jq {α:Type} {p:α→Bool} {l:List α}:decide (idx p l < 0)=!l.any p:=by
 rw [← QH]
 by_cases h:idx p l < 0
 · have:¬ 0≤idx p l:=K9
   simp [h,this]
 · have:0≤idx p l:=K9
   simp [h,this]
def LF (w0:Wd) (v u:Vl) (d:Xc) (n:Nat) (f:Zt) (lo hi:Int) (deps:List (BAr×Int)) (hd:YM w0 v d) (hn:n≤d.msgs.length) (hf:Z0 w0 u f) (hD:∀ s,(ZM deps s).isSome=(d.msgs.take n).any λ m=>decide (m.name=s)) (hlo : -4611686018427387904≤lo) (hhi:hi≤4611686018427387904) :
 Ret Pg 176 #[v,.int .i64 (n:Int),u,.int .i64 lo,.int .i64 hi] w0 λ r w'=>r = .int .i64 (orC (Yn (decide (1≤(f.cases.length:Int))&&decide ((f.cases.length:Int)≤40)) 3) (WH hi (vI deps) lo f.cases))∧Ext w0 w':=by
 obtain ⟨mv,rfl,hM⟩:=hd
 obtain ⟨tv,cv,rfl,hT,hC,ht1,hc1⟩:=hf.op
 refine ZlC (R:=ZR _) ?_;unfold n64
 rw [Yi]
 have Xw:=Z6.new (w:=w0) (ZO d mv) (27)
 have eW:Ext w0 (w0.alloc (Obj.cells (List.toArray (ZO d mv)) (27))):=(Ext.refl _).alloc _
 generalize (w0.alloc (Obj.cells (List.toArray (ZO d mv)) (27)))=W at Xw eW ⊢
 rw [Yi]
 have hBX:=Z6.new (w:=W) (Zq f tv cv) (123)
 have eX:Ext W (W.alloc (Obj.cells (List.toArray (Zq f tv cv)) (123))):=(Ext.refl _).alloc _
 generalize (W.alloc (Obj.cells (List.toArray (Zq f tv cv)) (123)))=X at hBX eX ⊢
 obtain ⟨A,c,rfl,hlc,hcm,hlm,YS⟩:=Ze.open hC
 have hcX:=hBX.c15 (Ext.refl X)
 simp (disch:=try exact DI) only [↓PR,QR,Int.reduceBEq,Int.reduceBNe,Int.reduceLT,Int.reduceLE,Int.reduceGT,Int.reduceGE,Int.reduceNeg,hcX]
 have YH:(decide ((f.cases.length:Int) < 1)||decide (40 < (f.cases.length:Int)))=!(decide (1≤(f.cases.length:Int))&&decide ((f.cases.length:Int)≤40)):=by
  rw [Bool.eq_iff_iff];simp only [Bool.or_eq_true,decide_eq_true_eq,Bool.not_eq_true',Bool.and_eq_false_iff,decide_eq_false_iff_not];omega
 rw [YH]
 have EX:Ext w0 X:=eW.trans eX
 cases hl:(decide (1≤(f.cases.length:Int))&&decide ((f.cases.length:Int)≤40)) with
 | false=>simp (disch:=try exact DI) only [↓PR,QR,simprocAttr];exact ⟨rfl,EX⟩
 | true=>
 simp (disch:=try exact DI) only [↓PR,QR,Int.reduceBEq,Int.reduceBNe,Int.reduceLT,Int.reduceLE,Int.reduceGT,Int.reduceGE,Int.reduceNeg]
 refine ZE (λ a w'=>∃ (k:Nat) (b:Int),a = .int .i64 k∧k≤f.cases.length∧Ext X w'∧WH hi (vI deps) b (f.cases.drop k)=WH hi (vI deps) lo f.cases∧lo≤b∧(k=0→b=lo)∧∀ j p,k=j+1→f.cases[j]?=some p→b=p.high+1) (λ b _=>f.cases.length - (intOf b).toNat) ⟨0,lo,rfl,by omega,Ext.refl _,rfl,Int.le_refl _,λ _=>rfl,λ j p h=>by omega⟩ ?_
 rintro _ w ⟨k,b,rfl,hk,e,hI,hb0,hb1,hb2⟩
 have hcX:=hBX.c15 e
 have E:=EX.trans e
 unfold yH
 rcases ZH hk with ⟨x,hx,hdr,Ym,ZK⟩ | ⟨hk,hdr,ZK⟩
 ·
  simp (disch:=try exact DI) only [↓PR,QR,Int.reduceBEq,Int.reduceBNe,Int.reduceLT,Int.reduceLE,Int.reduceGT,Int.reduceGE,Int.reduceNeg,ZK,hcX]
  obtain ⟨bc,oc,cc,hA,_,_,_,_,hel2⟩:=UC hC hx
  injection hA with hA _ _
  subst hA
  obtain ⟨csc,_,hAc,rfl⟩:=hel2 k x hx
  have hcx:=hAc.c3 E
  unfold yA
  simp (disch:=try exact DI) only [↓PR,QR,Int.reduceBEq,Int.reduceBNe,Int.reduceLT,Int.reduceLE,Int.reduceGT,Int.reduceGE,Int.reduceNeg,hcX,hcx]
  have hBY:=Z6.new (w:=w) (Gl x) (213)
  have eY:Ext w (w.alloc (Obj.cells (List.toArray (Gl x)) (213))):=(Ext.refl _).alloc _
  generalize (w.alloc (Obj.cells (List.toArray (Gl x)) (213)))=Y at hBY eY ⊢
  have hcY:=hBY.c3 (Ext.refl Y)
  have hcW:=Xw.c3 (eX.trans (e.trans eY))
  have EY:Ext w0 Y:=E.trans eY
  refine ZB ?_
  rw [hdr] at hI
  simp only [WH,jC] at hI
  have hI7:(x.low < b∨hi < x.low∨x.high < x.low∨hi < x.high)→WH hi (vI deps) lo f.cases=7:=λ h=>by rw [← hI,if_pos h];rfl
  have hI0:¬ (x.low < b∨hi < x.low∨x.high < x.low∨hi < x.high)→orC (Yn (Yy (vI deps) x.of).isSome 8) (WH hi (vI deps) (x.high+1) (f.cases.drop (k+1)))=WH hi (vI deps) lo f.cases:=λ h=>by
   rw [← hI,if_neg h,YF K9 K9];rfl
  clear hI
  unfold yy
  rcases k with _ | k'
  case' zero=>
   have hb:=hb1 rfl
   subst hb
   simp (disch:=try exact DI) only [↓PR,QR,Int.reduceBEq,Int.reduceBNe,Int.reduceLT,Int.reduceLE,Int.reduceGT,Int.reduceGE,Int.reduceNeg,hcY,hcX,↓qC,↓qD,↓qE,↓qF,↓qG,↓qH,↓yy,↓yA,↓yH,show decide ((0:Int) < ((0:Nat):Int))=false by decide]
   refine VJ (λ hg=>?_) (λ hg=>?_)
   all_goals simp (disch:=try exact DI) only [↓PR,QR,Int.reduceBEq,Int.reduceBNe,Int.reduceLT,Int.reduceLE,Int.reduceGT,Int.reduceGE,Int.reduceNeg,hg,hcW,hcY,↓qC,↓qD,↓qE,↓qF,↓qG,↓qH,↓yy,↓yA,↓yH]
   all_goals simp only [Bool.or_eq_true,Bool.or_eq_false_iff,decide_eq_true_eq,decide_eq_false_iff_not] at hg
   · exact ⟨by rw [hI7 K9];rfl,EY.drew⟩
   have hI0:=hI0 K9
  case' succ=>
   obtain ⟨p,hp⟩:=getElem?_lt (l:=f.cases) (k:=k') K9
   have hb:=hb2 k' p rfl hp
   subst hb
   obtain ⟨csp,_,hAp,rfl⟩:=hel2 k' p hp
   have hcp:=hAp.c3 EY
   simp (disch:=try exact DI) only [↓PR,QR,Int.reduceBEq,Int.reduceBNe,Int.reduceLT,Int.reduceLE,Int.reduceGT,Int.reduceGE,Int.reduceNeg,hcY,hcp,hBX.c15 (e.trans eY),↓qC,↓qD,↓qE,↓qF,↓qG,↓qH,↓yy,↓yA,↓yH,show decide ((0:Int) < ((k'+1:Nat):Int))=true by simp only [decide_eq_true_eq];omega,show IntKind.i64.wrap (((k'+1:Nat):Int) - 1)=(k':Int) by rw [YF K9 K9];omega]
   refine VJ (λ hg=>?_) (λ hg=>?_)
   all_goals simp (disch:=try exact DI) only [↓PR,QR,Int.reduceBEq,Int.reduceBNe,Int.reduceLT,Int.reduceLE,Int.reduceGT,Int.reduceGE,Int.reduceNeg,hg,hcW,hcY,↓qC,↓qD,↓qE,↓qF,↓qG,↓qH,↓yy,↓yA,↓yH]
   all_goals simp only [Bool.or_eq_true,Bool.or_eq_false_iff,decide_eq_true_eq,decide_eq_false_iff_not] at hg
   · exact ⟨by rw [hI7 K9];rfl,EY.drew⟩
   refine Wa (λ hg2=>⟨_,rfl,by simp only [decide_eq_true_eq] at hg2;rw [hI7 K9];rfl,EY.drew⟩) (λ hg2=>?_)
   simp only [decide_eq_false_iff_not] at hg2
   have hI0:=hI0 K9
   simp (disch:=try exact DI) only [↓PR,QR,Int.reduceBEq,Int.reduceBNe,Int.reduceLT,Int.reduceLE,Int.reduceGT,Int.reduceGE,Int.reduceNeg,hcW,hcY,↓qC,↓qD,↓qE,↓qF,↓qG,↓qH,↓yy,↓yA,↓yH]
  all_goals
   refine zcr (W5 _ _ d x.of n ⟨_,rfl,hM.ext EY.drew⟩ hn) λ w2 e2=>?_
   have e3:Ext X w2:=(e.trans eY).drew.trans e2
   rw [W3,Option.isSome_map,hD] at hI0
   have hdi:=Jq (p:=λ m:Yh=>decide (m.name=x.of)) (l:=d.msgs.take n)
   cases hs:(d.msgs.take n).any (λ m=>decide (m.name=x.of)) with
   | false=>
    rw [hs] at hI0 hdi
    simp (disch:=try exact DI) only [↓PR,QR,Int.reduceBEq,Int.reduceBNe,Int.reduceLT,Int.reduceLE,Int.reduceGT,Int.reduceGE,Int.reduceNeg,hdi,↓qC,↓qD,↓qE,↓qF,↓qG,↓qH,↓yy,↓yA,↓yH]
    exact ⟨by rw [← hI0];rfl,EX.trans e3⟩
   | true=>
    rw [hs] at hI0 hdi
    simp (disch:=try exact DI) only [↓PR,QR,Int.reduceBEq,Int.reduceBNe,Int.reduceLT,Int.reduceLE,Int.reduceGT,Int.reduceGE,Int.reduceNeg,hdi,↓qC,↓qD,↓qE,↓qF,↓qG,↓qH,↓yy,↓yA,↓yH]
    exact ⟨⟨_,x.high+1,rfl,Ym,e3,hI0,by omega,λ h=>by omega,λ j p h hp=>by injection h with h;subst h;rw [hx] at hp;injection hp with hp;subst hp;rfl⟩,ZQ (kd := .i64) Ym⟩
 · rw [hdr] at hI
   simp (disch:=try exact DI) only [↓PR,QR,Int.reduceBEq,Int.reduceBNe,Int.reduceLT,Int.reduceLE,Int.reduceGT,Int.reduceGE,Int.reduceNeg,ZK,hcX]
   exact ⟨by rw [← hI];rfl,E⟩
def qg (l:List Yh):Prop:=l.Pairwise λ a b=>a.name≠b.name
def CH:∀ (l:List Yh) (a:List (BAr×Bool)),(l.foldl VQ a).map (·.1)=a.map (·.1)++l.map (·.name)
 | [],a=>by simp
 | m::l,a=>by rw [List.foldl_cons,CH l,VQ,List.map_append];simp
def CG:∀ (l:List Yh) (a:List (BAr×Int)),(l.foldl Vn a).map (·.1)=a.map (·.1)++l.map (·.name)
 | [],a=>by simp
 | m::l,a=>by rw [List.foldl_cons,CG l,Vn,List.map_append];simp
def Kk {β:Type} {ps:List (BAr×β)} {l:List Yh} (hp:ps.map (·.1)=l.map (·.name)) (hd:qg l) (s:BAr):(idx (λ m:Yh=>decide (m.name=s)) l = -1∧ZM ps s=none)∨∃ (k:Nat) (b:β),idx (λ m:Yh=>decide (m.name=s)) l=k∧k < l.length∧ps[k]?=some (s,b)∧ZM ps s=some b:=by
 have YH:ps.length=l.length:=by simpa using congrArg List.length hp
 have hk:∀ (k:Nat) (m:Yh),l[k]?=some m→∃ b,ps[k]?=some (m.name,b):=by
  intro k m hm
  obtain ⟨q,hq⟩:=getElem?_lt (l:=ps) (k:=k) (by rw [YH];exact (Qqj hm).1)
  have:=congrArg (λ x=>x[k]?) hp
  simp only [List.getElem?_map,hm,hq,Option.map_some] at this
  injection this with this
  exact ⟨q.2,by rw [hq,← this]⟩
 have hin:∀ q∈ps,∃ (k:Nat) (m:Yh),l[k]?=some m∧ps[k]?=some q∧m.name=q.1:=by
  intro q hq
  obtain ⟨k,hkq⟩:=List.getElem?_of_mem hq
  obtain ⟨m,hm⟩:=getElem?_lt (l:=l) (k:=k) (by rw [← YH];exact (Qqj hkq).1)
  obtain ⟨b,hb⟩:=hk k m hm
  rw [hkq] at hb
  injection hb with hb
  exact ⟨k,m,hm,hkq,by rw [hb]⟩
 have hone:∀ (k j:Nat) (a b:Yh),l[k]?=some a→l[j]?=some b→a.name=b.name→k=j:=by
  intro k j a b ha hb hn
  obtain ⟨h1,ha'⟩:=Qqj ha
  obtain ⟨h2,hb'⟩:=Qqj hb
  have hpw:=List.pairwise_iff_getElem.1 hd
  rcases Nat.lt_trichotomy k j with h | h | h
  · have:=hpw k j h1 h2 h;rw [ha',hb'] at this;exact absurd hn this
  · exact h
  · have:=hpw j k h2 h1 h;rw [ha',hb'] at this;exact absurd hn.symm this
 unfold idx
 cases h:l.findIdx? (λ m=>decide (m.name=s)) with
 | none=>
  rw [List.findIdx?_eq_none_iff] at h
  refine .inl ⟨rfl,?_⟩
  cases hl:ZM ps s with
  | none=>rfl
  | some b=>
   obtain ⟨k,m,h1,_,h3⟩:=hin _ (V3 hl)
   simpa [h3] using h m (List.mem_of_getElem? h1)
 | some k=>
  obtain ⟨hkl,hpk,_⟩:=List.findIdx?_eq_some_iff_getElem.1 h
  simp only [decide_eq_true_eq] at hpk
  obtain ⟨b,hb⟩:=hk k _ (List.getElem?_eq_getElem hkl)
  rw [hpk] at hb
  refine .inr ⟨k,b,rfl,hkl,hb,?_⟩
  cases hl:ZM ps s with
  | none=>
   have Ir:=List.mem_of_getElem? hb
   unfold ZM at hl
   rw [Option.map_eq_none_iff,List.find?_eq_none] at hl
   exact absurd (hl (s,b) (List.mem_reverse.2 Ir)) (by simp)
  | some b'=>
   obtain ⟨j,m,h1,h2,h3⟩:=hin _ (V3 hl)
   have:=hone k j _ m (List.getElem?_eq_getElem hkl) h1 (hpk.trans h3.symm)
   subst this
   rw [hb] at h2
   injection h2 with h2
   injection h2 with _ h2
   rw [h2]
abbrev Mg (b:Bool):List Vl:=[.bool b]
abbrev Zjx (w:Wd) (base:Nat) (v:Vl) (l:List Bool):Prop:=Yc w base 4 1 Mg v l
def PA (l:List Yh):(Yt l).map (·.1)=l.map (·.name):=by unfold Yt;rw [CH];rfl
def Pz (l:List Yh):(ZY l).map (·.1)=l.map (·.name):=by unfold ZY;rw [CG];rfl
def DC (l:List Yh) (n:Nat):Prop:=∀ (k:Nat) (m:Yh),k < n→l[k]?=some m→∀ s∈WC m,((l.take k).any λ m=>decide (m.name=s))=true
def EM (w0:Wd) (v:Vl) (d:Xc) (n:Nat) (hd:YM w0 v d) (hn:n≤d.msgs.length) (hN:qg (d.msgs.take n)) (hR:DC d.msgs n) (hb:∀ (k:Nat) (m:Yh),k < n→d.msgs[k]?=some m→(Z9 m.fields).length≤1048576) (hn1:n≤1048576) :
 Ret Pg 177 #[v,.int .i64 (n:Int)] w0 λ r w'=>Ze w' 1 OG r ((Yt (d.msgs.take n)).map (·.2))∧Ext w0 w':=by
 obtain ⟨mv,rfl,hM⟩:=hd
 refine ZlA (R:=ZR _) ?_;unfold n62
 rw [Yi]
 have Xw:=Z6.new (w:=w0) (ZO d mv) (27)
 have eW:Ext w0 (w0.alloc (Obj.cells (List.toArray (ZO d mv)) (27))):=(Ext.refl _).alloc _
 generalize (w0.alloc (Obj.cells (List.toArray (ZO d mv)) (27)))=W at Xw eW ⊢
 refine YA (λ a b w'=>∃ k:Nat,b = .int .i64 k∧k≤n∧Ext W w'∧Zjx w' W.heap.size a ((Yt (d.msgs.take k)).map (·.2))) (λ _ b _=>n - (intOf b).toNat) ⟨0,rfl,by omega,Ext.refl _,Yc.nil _ _ _ _ _⟩ ?_
 rintro out _ w ⟨k,rfl,hk,e,hO⟩
 have E:=eW.trans e
 unfold ZcV
 by_cases hkn:k < n
 · have d1:decide ((k:Int) < (n:Int))=true:=by simp only [decide_eq_true_eq];omega
   obtain ⟨m,hm⟩:=getElem?_lt (l:=d.msgs) (k:=k) K9
   have hM0:=hM
   obtain ⟨bm,om,cm,rfl,hlc,hcm,hlm,hkl,YS⟩:=UC hM hm
   obtain ⟨csm,_,hAm,hEm⟩:=YS k m hm
   obtain ⟨fv,rfl,hF⟩:=hEm
   have hF0:=hF
   obtain ⟨Af,cf,rfl,hlf,hcf,hlmf,helf⟩:=Ze.open hF
   refine Qqg d1 ?_
   refine YA (λ a b w'=>∃ i:Nat,a = .bool ((m.fields.take i).all λ f=>!f.loose)∧b = .int .i64 i∧i≤m.fields.length∧Ext w w') (λ _ b _=>m.fields.length - (intOf b).toNat) ⟨0,by simp,rfl,by omega,Ext.refl _⟩ ?_
   rintro _ _ w2 ⟨i,rfl,rfl,hi,e2⟩
   have hcW:=Xw.c3 (e.trans e2)
   have hcm2:=hAm.c2 (E.trans e2)
   unfold ZcU
   rcases ZH hi with ⟨x,hx,hdr,Ym,ZK⟩ | ⟨hi,hdr,ZK⟩
   · have hall:((m.fields.take (i+1)).all λ f=>!f.loose)=(((m.fields.take i).all λ f=>!f.loose)&&!x.loose):=by rw [Yw hx,List.all_append];simp
     obtain ⟨bf,of,csf,rfl,_,hAf,hEf⟩:=helf i x hx
     obtain ⟨tf,cf',rfl,hTf,hCf,_,_⟩:=hEf.op
     have hcf:=hAf.c15 (E.trans e2)
     refine Qqb hcW hcm2 ZK ?_
     unfold ZcT
     cases hs:(m.fields.take i).all (λ f=>!f.loose) with
     | false=>
      rw [hs] at hall
      refine Qqk ?_
      exact ⟨⟨i+1,by rw [hall];rfl,rfl,Ym,e2⟩,ZQ (kd := .i64) Ym⟩
     | true=>
      rw [hs] at hall
      simp (disch:=try exact DI) only [↓PR,QR,simprocAttr,hcW,hcm2,hcf,ZcO]
      exact ⟨⟨i+1,by rw [hall];rfl,rfl,Ym,e2⟩,ZQ (kd := .i64) Ym⟩
   · subst hi
     rw [List.take_length]
     refine Qqb hcW hcm2 ZK ?_
     unfold ZcS
     refine Qqh hcW hcm2 ?_
     refine Zs (je _ _ m ⟨_,rfl,hF0.ext (E.trans e2)⟩ (hb k m hkn hm)) ?_
     rintro rv w3 ⟨hS,e3⟩
     have e23:=e2.trans e3
     have hSl:=hS.slice (E:=KN) (λ _=>rfl) (λ _ _=>rfl)
     obtain ⟨Ar,cr,rfl,hlr,hcr,hlmr,helr⟩:=Ze.open hSl
     have hsM:UH (Yt (d.msgs.take k)) m=((m.fields.all λ f=>!f.loose)&&(WC m).all λ s=>(ZM (Yt (d.msgs.take k)) s).getD false):=rfl
     generalize hA:(m.fields.all λ f=>!f.loose)=A0 at hsM ⊢
     have hDk:qg (d.msgs.take k):=by
      have:=List.Pairwise.sublist (List.take_sublist k (d.msgs.take n)) hN
      rwa [List.take_take,Nat.min_eq_left K9] at this
     refine YA (λ a b w'=>∃ j:Nat,a = .bool (A0&&((WC m).take j).all λ s=>(ZM (Yt (d.msgs.take k)) s).getD false)∧b = .int .i64 j∧j≤(WC m).length∧Ext w3 w') (λ _ b _=>(WC m).length - (intOf b).toNat) ⟨0,by simp,rfl,by omega,Ext.refl _⟩ ?_
     rintro _ _ w4 ⟨j,rfl,rfl,hj,e4⟩
     have e24:=e23.trans e4
     unfold ZcR
     rcases ZH hj with ⟨s,hx,hdr,Ym,ZK⟩ | ⟨hj,hdr,ZK⟩
     · obtain ⟨bs,os,css,rfl,_,hAs,rfl⟩:=helr j s hx
       have hall:(A0&&((WC m).take (j+1)).all λ s=>(ZM (Yt (d.msgs.take k)) s).getD false)=((A0&&((WC m).take j).all λ s=>(ZM (Yt (d.msgs.take k)) s).getD false)&&(ZM (Yt (d.msgs.take k)) s).getD false):=by rw [Yw hx,List.all_append];simp [Bool.and_assoc]
       refine Qqg ZK ?_
       refine ZB ?_
       unfold ZcP
       generalize (A0&&((WC m).take j).all λ s=>(ZM (Yt (d.msgs.take k)) s).getD false)=B at hall ⊢
       cases B with
       | false=>
        refine Qqk ?_
        exact ⟨⟨j+1,by rw [hall];rfl,rfl,Ym,e4.drew⟩,ZQ (kd := .i64) Ym⟩
       | true=>
        refine Qqh (Xw.c3 (e.trans e24)) (hAs.c1 e4) ?_
        refine zcr (W5 _ _ d s k ⟨_,rfl,hM0.ext (E.trans e24).drew⟩ K9) λ w5 e5=>?_
        refine ⟨e5,?_⟩
        have hex:=hR k m hkn hm s (List.mem_of_getElem? hx)
        rcases Kk (PA (d.msgs.take k)) hDk s with ⟨h1,_⟩ | ⟨q,b,h1,h2,h3,h4⟩
        · have:=QH (p:=λ m:Yh=>decide (m.name=s)) (l:=d.msgs.take k)
          rw [hex,h1] at this
          exact absurd this K7
        · rw [h1]
          have hO4:=(hO.ext e24).slice (E:=OG) (λ _=>rfl) (λ _ _=>rfl)
          have hq:((Yt (d.msgs.take k)).map (·.2))[q]?=some b:=by rw [List.getElem?_map,h3];rfl
          obtain ⟨bo,oo,co,rfl,_,_,_,hql,helo⟩:=UC hO4 hq
          obtain ⟨cso,_,hAo,rfl⟩:=helo q b hq
          rw [h4] at hall
          refine Qqg (hAo.c1 (Ext.refl _)) ?_
          exact ⟨⟨j+1,by rw [hall];rfl,rfl,Ym,e4.drew.trans e5⟩,ZQ (kd := .i64) Ym⟩
     · subst hj
       rw [List.take_length,← hsM]
       refine Qqg ZK ?_
       unfold ZcQ
       refine Qqk ?_
       have sw:=e24.size
       have s0:=e.size
       have hlk:((Yt (d.msgs.take k)).map (·.2)).length=k:=by
        have:=congrArg List.length (PA (d.msgs.take k))
        simp only [List.length_map,List.length_take] at this ⊢
        omega
       refine jV underlying170 ty4 by4 rfl K7 (λ _=>rfl) (UH (Yt (d.msgs.take k)) m) (by simp only [Mg,List.forall_mem_cons];exact ⟨rfl,by simp⟩) (hO.ext (e24.alloc (Obj.cells #[.bool (UH (Yt (d.msgs.take k)) m)] 4))) (Z6.new _ _) (by simp only [World.size_alloc];omega) (by rw [hlk];omega) ?_
       intro v' w' hO' hext
       have eN:Ext W w':=hext W ((e.trans e24).alloc _) (Nat.le_refl _)
       refine Qqk ?_
       refine ⟨⟨k+1,rfl,by omega,eN,?_⟩,ZQ (kd := .i64) hkn⟩
       rw [Yw hm,Ov,List.map_append]
       exact hO'
 · have hke:k=n:=K9
   subst hke
   have d1:decide ((k:Int) < (k:Int))=false:=by simp
   refine Qqg d1 ?_
   exact ⟨hO.slice (λ _=>rfl) (λ _ _=>rfl),E⟩
def Wt d e f (g:WPr) (R:RT) w:=
 Zw e (.bool true) f λ b=>
 Zm (λ (a:Vl) (w:Wd)=>
 Zw b (.bool true) a λ h=>
 Zo h (
 R (.returned (QqJ 7)) w) (
 g w)) λ c=>
 Zl b false (
 F0 123 d 6 R w λ i w=>
 L0 3 i R w λ j w=>
 B0 .gtr 3 true j (QqJ 1048576) R w λ a w=>
 c a w) (
 c undef w)
def Wu b e f (g:WPr) R w:=
 Zw e (.bool true) f λ c=>
 Zm (λ (a:Vl) (w:Wd)=>
 Wt b c a g R w) λ d=>
 Zl c false (
 F0 123 b 6 R w λ h w=>
 L0 3 h R w λ i w=>
 B0 .lss 3 true i (QqJ 0) R w λ a w=>
 d a w) (
 d undef w)
def Wv a b c R w:=
 B0 .lss 3 true c (QqJ 0) R w λ d w=>
 Zo d (
 R (.returned (QqJ 8)) w) (
 L0 74 b R w λ e w=>
 C0 172 #[e,a] R w λ f w=>
 R (.returned f) w)
def Ww b c d a R w:=
 E0q a 0 R w λ e w=>
 E0q a 1 R w λ f w=>
 L0 27 c R w λ g w=>
 L0 123 d R w λ h w=>
 C0 176 #[g,b,h,e,f] R w λ i w=>
 R (.returned i) w
def Wx a b c d e R w:=
 F0 74 c 1 R w λ f w=>
 L0 72 f R w λ g w=>
 X0 72 g e R w λ h w=>
 L0 123 h R w λ i w=>
 C0 175 #[i] R w λ j w=>
 Ww a b d j R w
def Wy f g h b c i j k (R:RT) w:=
 Zw j (.bool true) k λ d=>
 Zm (λ (a:Vl) (w:Wd)=>
 Zw d (.bool true) a λ l=>
 Zo l (
 R (.returned (QqJ 8)) w) (
 Wx f h b c i R w)) λ e=>
 Zl d false (
 L0 74 b R w λ m w=>
 F0 123 c 9 R w λ n w=>
 L0 9 n R w λ o w=>
 C0 174 #[m,o,g] R w λ a w=>
 e a w) (
 e undef w)
def Wz f g h c i a R w:=
 B0 .lss 3 true a (QqJ 0) R w λ d w=>
 Zm (λ (b:Vl) (w:Wd)=>
 Wy f g h c i a d b R w) λ e=>
 Zl d false (
 F0 74 c 1 R w λ j w=>
 L0 72 j R w λ k w=>
 X0 72 k a R w λ l w=>
 L0 123 l R w λ m w=>
 C0 173 #[m] R w λ n w=>
 N0 n R w λ b w=>
 e b w) (
 e undef w)
def WA b d e (f:WPr) (R:RT) w:=
 Zm (λ (a:Vl) (w:Wd)=>
 Zw b a (.bool false) λ g=>
 Zo g (
 R (.returned (QqJ 6)) w) (
 f w)) λ c=>
 Zl b true (
 Zw d (.bool true) e λ a=>
 c a w) (
 c undef w)
def WB d e b (f:WPr) R w:=
 Zm (λ (a:Vl) (w:Wd)=>
 WA e b a f R w) λ c=>
 Zl b false (
 F0 123 d 2 R w λ g w=>
 L0 3 g R w λ h w=>
 B0 .rem 3 true h (QqJ 8) R w λ i w=>
 B0 .neq 3 true i (QqJ 0) R w λ a w=>
 c a w) (
 c undef w)
def XY b c d (g:WPr) R w:=
 Zm (λ (a:Vl) (w:Wd)=>
 Zm (λ (h:Vl) (w:Wd)=>
 WB b c h g R w) λ e=>
 Zl c true (
 Zw d (.bool true) a λ i=>
 e i w) (
 e undef w)) λ f=>
 Zl d false (
 F0 123 b 2 R w λ j w=>
 L0 3 j R w λ k w=>
 B0 .gtr 3 true k (QqJ 512) R w λ a w=>
 f a w) (
 f undef w)
def XZ a d e (f:WPr) R w:=
 Zw d e (.bool false) λ b=>
 Zm (λ (g:Vl) (w:Wd)=>
 XY a b g f R w) λ c=>
 Zl b true (
 F0 123 a 2 R w λ h w=>
 L0 3 h R w λ i w=>
 B0 .lss 3 true i (QqJ 8) R w λ j w=>
 c j w) (
 c undef w)
def X1 a b c (d:WPr) R w:=
 L0 74 b R w λ e w=>
 F0 123 c 10 R w λ f w=>
 L0 9 f R w λ g w=>
 C0 143 #[e,g,a] R w λ h w=>
 B0 .lss 3 true h (QqJ 0) R w λ i w=>
 Zo i (
 R (.returned (QqJ 8)) w) (
 d w)
def X2 a b c d (R:RT) w:=
 Zw c (.bool true) d λ e=>
 Zo e (
 R (.returned (QqJ 8)) w) (
 L0 74 b R w λ f w=>
 C0 172 #[f,a] R w λ g w=>
 R (.returned g) w)
def X3 a b (c:KV) R w:=
 X0 170 b a R w λ d w=>
 L0 4 d R w λ e w=>
 N0 e R w λ f w=>
 c f w
def X4 d e f g a R w:=
 B0 .lss 3 true a (QqJ 0) R w λ b w=>
 Zm (λ (h:Vl) (w:Wd)=>
 X2 e g b h R w) λ c=>
 Zl b false (
 L0 27 f R w λ i w=>
 C0 177 #[i,d] R w λ j w=>
 X3 a j c R w) (
 c undef w)
def X5 a c b d e R w:=
 L0 27 b R w λ f w=>
 F0 123 e 8 R w λ g w=>
 L0 9 g R w λ h w=>
 C0 115 #[f,h,a] R w λ i w=>
 X4 a c b d i R w
def X6 e f g h a R w:=
 F0 123 a 13 R w λ i w=>
 L0 3 i R w λ j w=>
 B0 .lss 3 true j (QqJ 0) R w λ c w=>
 Zm (λ (b:Vl) (w:Wd)=>
 Zw c (.bool true) b λ k=>
 Zo k (
 R (.returned (QqJ 7)) w) (
 X5 e f g h a R w)) λ d=>
 Zl c false (
 F0 123 a 13 R w λ l w=>
 L0 3 l R w λ m w=>
 B0 .gtr 3 true m (QqJ 4294967295) R w λ b w=>
 d b w) (
 d undef w)
def X7 e f a (g:WPr) R w:=
 F0 123 a 12 R w λ h w=>
 L0 3 h R w λ i w=>
 B0 .lss 3 true i (QqJ 1) R w λ c w=>
 Zm (λ (b:Vl) (w:Wd)=>
 Zw c (.bool true) b λ j=>
 Zo j (
 R (.returned (QqJ 7)) w) (
 X1 e f a g R w)) λ d=>
 Zl c false (
 F0 123 a 12 R w λ k w=>
 L0 3 k R w λ l w=>
 B0 .gtr 3 true l (QqJ 3) R w λ b w=>
 d b w) (
 d undef w)
def X8 a (e:WPr) R w:=
 F0 123 a 2 R w λ f w=>
 L0 3 f R w λ g w=>
 B0 .neq 3 true g (QqJ 2) R w λ c w=>
 Zm (λ (b:Vl) (w:Wd)=>
 XZ a c b e R w) λ d=>
 Zl c true (
 F0 123 a 2 R w λ h w=>
 L0 3 h R w λ i w=>
 B0 .neq 3 true i (QqJ 4) R w λ b w=>
 d b w) (
 d undef w)
def X9 f a g b c d (e:WPr) R w:=
 B0 .eql 3 true d (QqJ 11) R w λ h w=>
 Zo h (
 X7 a b c e R w) (
 B0 .eql 3 true d (QqJ 12) R w λ i w=>
 Zo i (
 X6 f a g b c R w) (
 e w))
def Qa d a e b c R w:=
 L0 74 b R w λ f w=>
 F0 123 c 9 R w λ g w=>
 L0 9 g R w λ h w=>
 C0 143 #[f,h,a] R w λ i w=>
 Wz d a e b c i R w
def Qb a b c (d:WPr) R w:=
 L0 27 b R w λ e w=>
 F0 123 c 8 R w λ f w=>
 L0 9 f R w λ g w=>
 C0 115 #[e,g,a] R w λ h w=>
 B0 .lss 3 true h (QqJ 0) R w λ i w=>
 Zo i (
 R (.returned (QqJ 8)) w) (
 d w)
def Qc c d e f a b (g:WPr) R w:=
 B0 .eql 3 true b (QqJ 9) R w λ h w=>
 Zo h (
 Qa c d e f a R w) (
 B0 .eql 3 true b (QqJ 10) R w λ i w=>
 Zo i (
 X8 a g R w) (
 X9 c d e f a b g R w))
def Qd a b c d e R w:=
 L0 27 c R w λ f w=>
 F0 123 e 8 R w λ g w=>
 L0 9 g R w λ h w=>
 C0 115 #[f,h,a] R w λ i w=>
 Wv b d i R w
def Qe b (e:WPr) R w:=
 F0 123 b 6 R w λ f w=>
 L0 3 f R w λ g w=>
 B0 .lss 3 true g (QqJ 2) R w λ c w=>
 Zm (λ (a:Vl) (w:Wd)=>
 Zw c (.bool true) a λ h=>
 Zo h (
 R (.returned (QqJ 7)) w) (
 e w)) λ d=>
 Zl c false (
 F0 123 b 6 R w λ i w=>
 L0 3 i R w λ j w=>
 B0 .gtr 3 true j (QqJ 1048576) R w λ a w=>
 d a w) (
 d undef w)
def Qf a e b f c d (g:WPr) R w:=
 B0 .eql 3 true d (QqJ 7) R w λ h w=>
 Zo h (
 Qd a e b f c R w) (
 B0 .eql 3 true d (QqJ 8) R w λ i w=>
 Zo i (
 Qb a b c g R w) (
 Qc a e b f c d g R w))
def Qg a (e:WPr) R w:=
 F0 123 a 5 R w λ f w=>
 L0 3 f R w λ g w=>
 B0 .lss 3 true g (QqJ 0) R w λ c w=>
 Zm (λ (b:Vl) (w:Wd)=>
 Wu a c b e R w) λ d=>
 Zl c false (
 F0 123 a 5 R w λ h w=>
 L0 3 h R w λ i w=>
 B0 .gtr 3 true i (QqJ 255) R w λ b w=>
 d b w) (
 d undef w)
def Qh d e f g a b (c:WPr) R w:=
 B0 .eql 3 true b (QqJ 5) R w λ h w=>
 Zo h (
 Qg a c R w) (
 B0 .eql 3 true b (QqJ 6) R w λ i w=>
 Zo i (
 Qe a c R w) (
 Qf d e f g a b c R w))
def Qi a (b:WPr) R w:=
 F0 123 a 5 R w λ c w=>
 L0 3 c R w λ d w=>
 F0 123 a 6 R w λ e w=>
 L0 3 e R w λ f w=>
 C0 171 #[d,f] R w λ g w=>
 N0 g R w λ h w=>
 Zo h (
 R (.returned (QqJ 7)) w) (
 b w)
def Qj d a e b f c (g:WPr) R w:=
 B0 .eql 3 true c (QqJ 4) R w λ h w=>
 Zo h (
 L0 74 b R w λ i w=>
 C0 172 #[i,a] R w λ j w=>
 R (.returned j) w) (
 Qh d a e b f c g R w)
def Qk d e f g a b R w:=
 B0 .eql 3 true b (QqJ 3) R w λ h w=>
 Zm (λ (w:Wd)=>
 R (.returned (QqJ 0)) w) λ c=>
 Zo h (
 Qi a c R w) (
 Qj d e f g a b c R w)
def Ql b c d e a f g R w:=
 Zo g (
 L0 123 a R w λ h w=>
 C0 170 #[h] R w λ i w=>
 R (.returned i) w) (
 Qk b c d e a f R w)
def n67 i d e R w:=
 opV Pg (box 27 i) (Zj R) w λ f w=>
 F0 27 f 1 R w λ j w=>
 L0 25 j R w λ k w=>
 X0 25 k d R w λ l w=>
 L0 74 l R w λ m w=>
 opV Pg (alloc 74 true (.tuple #[])) (Zj R) w λ a w=>
 S0 74 a m R w λ w=>
 F0 74 a 1 R w λ n w=>
 L0 72 n R w λ o w=>
 X0 72 o e R w λ p w=>
 L0 123 p R w λ q w=>
 opV Pg (alloc 123 true (.tuple #[])) (Zj R) w λ b w=>
 S0 123 b q R w λ w=>
 F0 123 b 1 R w λ r w=>
 L0 117 r R w λ c w=>
 B0 .eql 3 true c (QqJ 1) R w λ g w=>
 Zm (λ (s:Vl) (w:Wd)=>
 Ql d e f a b c s R w) λ h=>
 Zo g (
 h g w) (
 B0 .eql 3 true c (QqJ 2) R w λ t w=>
 h t w)
def ZlF:QqQ3 145 n67:=λ h=>by
 refine yD func145 ?_
 refine zs<|zr<|yv h λ h=>zm<|zn<|zk<|zs<|zr<|yv h λ h=>yv h λ h=>zm<|yv h λ h=>yv h λ h=>yv h λ h=>yu h λ h=>?_
 refine zn<|zk<|zs<|zr<|yv h λ h=>yv h λ h=>zm<|yv h λ h=>yv h λ h=>yv h λ h=>yu h λ h=>zn<|zk<|zs<|zs ?_
 refine zr<|yv h λ h=>yv h λ h=>zn<|zk<|Zk<|zs<|zs<|zr<|yb h λ h=>zm<|zn<|zk<|yJ1 [25,27] 25 h (λ _ _ hkK1 h=>?_) λ σ w h=>?_
 · refine yC h (λ h=>?_) λ h=>?_
   · refine Zi<|zk ?_
     exact zt hkK1 h
   refine zr<|yb h λ h=>zm<|zn<|zk ?_
   exact zt hkK1 h
 refine zk<|yC h (λ h=>zs<|zr<|yv h λ h=>yc h ZjY λ h=>zm<|zn<|zk<|Zh<|Zd<|Zb<|Zf rfl rfl h) λ h=>zs<|zr<|yb h λ h=>zm<|zn<|zk<|yJ0 [6,9,10,11,12,32,33,34,35,36,37,38,39,40,41,42,43,44,45,46,47,48,49,50,51,52,53,54,55,56,57,58,59,60,61,62,63,64,65,66,67,68,69,70,71,72,73,74,75,76,77,78,79,80,81,82,83,84,85,86,87,88,89,90,91,92,93,94,95,96,97,98,99,100,101,102,103,104,105,106,107,108,109,110,111,112,113,114,115,116,117,118,119,120,121,122,123,124,125,126,127,128,129,130,131,132,133,134,135,136,137,138,139,140,141,142,143,144,145,146,147,148,149,150,151,152,153,154,155,156,157,158,159,160,161,162,163,164,165,166,167,168,169,170,171,172,173,174,175,176,177,178,179,180,181,182,183,184,185,186,187,188,189,190,191,192,193,194,195,196,197,198,199,200,201,202] h (λ _ _ hkK2 h=>?_) λ σ w h=>?_
 · refine yC h (λ h=>?_) λ h=>?_
   · refine zs<|zr<|yv h λ h=>yv h λ h=>yv h λ h=>yv h λ h=>yc h ZjZ λ h=>yv h λ h=>zn<|zk<|yC h (λ h=>zs<|zr<|zm<|zn<|zk<|Zh<|Zb<|Zd<|Zb<|Zf rfl rfl h) λ h=>Zi<|zk ?_
     exact zt hkK2 h
   refine zs<|zr<|yb h λ h=>zm<|zn<|zk<|yC h (λ h=>zs<|zr<|yv h λ h=>zm<|yc h ZdT λ h=>zm<|zn<|zk<|Zh<|Zb<|Zd<|Zb<|Zf rfl rfl h) λ h=>zs<|zr<|yb h λ h=>zm<|zn<|zk<|yC h (λ h=>?_) λ h=>?_
   · refine zs<|Zr<|yG 4<|yv h λ h=>yv h λ h=>yb h λ h=>zm<|zn<|yg1 3 3 false [49,50,51] 51 h (λ _ T hT h=>?_) λ σ w h=>?_
     · refine yv h λ h=>yv h λ h=>yb h λ h=>zn ?_
       exact zt hT h
     refine yG 2<|yp h λ h=>zm<|zn<|yg1 3 8 false [54,55,56] 56 h (λ _ T hT h=>?_) λ σ w h=>?_
     · refine yv h λ h=>yv h λ h=>yb h λ h=>zn ?_
       exact zt hT h
     refine yG 2<|yp h λ h=>zm<|zn<|yg1 3 13 false [59,60,61] 61 h (λ _ T hT h=>?_) λ σ w h=>?_
     · refine yv h λ h=>yv h λ h=>yb h λ h=>zn ?_
       exact zt hT h
     refine yG 1<|yp h λ h=>zn<|ZG<|zk<|yC h (λ h=>zs<|zr<|zm<|zn<|zk<|Zh<|Zb<|Zd<|Zb<|Zf rfl rfl h) λ h=>Zi<|zk ?_
     exact zt hkK2 h
   refine zs<|zr<|yb h λ h=>zm<|zn<|zk<|yC h (λ h=>?_) λ h=>?_
   · refine zs<|Zr<|yG 4<|yv h λ h=>yv h λ h=>yb h λ h=>zm<|zn<|yg1 3 3 false [69,70,71] 71 h (λ _ T hT h=>?_) λ σ w h=>?_
     · refine yv h λ h=>yv h λ h=>yb h λ h=>zn ?_
       exact zt hT h
     refine yG 1<|yp h λ h=>zn<|ZG<|zk<|yC h (λ h=>zs<|zr<|zm<|zn<|zk<|Zh<|Zb<|Zd<|Zb<|Zf rfl rfl h) λ h=>Zi<|zk ?_
     exact zt hkK2 h
   refine zs<|zr<|yb h λ h=>zm<|zn<|zk<|yC h (λ h=>?_) λ h=>?_
   · refine zs<|zs<|zr<|yv h λ h=>yv h λ h=>yv h λ h=>zm<|yc h Fv λ h=>yb h λ h=>zn<|zk<|yC h (λ h=>zs<|zr<|zm<|zn<|zk<|Zh<|Zb<|Zb<|Zd<|Zb<|Zf rfl rfl h) λ h=>Zi<|zk ?_
     exact zs<|zr<|yv h λ h=>zm<|yc h ZdT λ h=>zm<|zn<|zk<|Zh<|Zb<|Zd<|Zb<|Zf rfl rfl h
   refine zs<|zr<|yb h λ h=>zm<|zn<|zk<|yC h (λ h=>?_) λ h=>?_
   · refine zs<|zr<|yv h λ h=>yv h λ h=>yv h λ h=>zm<|yc h Fv λ h=>yb h λ h=>zn<|zk<|yC h (λ h=>zs<|zr<|zm<|zn<|zk<|Zh<|Zb<|Zd<|Zb<|Zf rfl rfl h) λ h=>Zi<|zk ?_
     exact zt hkK2 h
   refine zs<|zr<|yb h λ h=>zm<|zn<|zk<|yC h (λ h=>?_) λ h=>?_
   · refine zs<|zr<|yv h λ h=>yv h λ h=>yv h λ h=>zm<|yc h Zac λ h=>zm<|zn<|zk<|zs<|zs<|Zr<|yG 3<|zm ?_
     refine yb h λ h=>zm<|zn<|yg1 7 2 false [102,103,104,105,106,107,108] 108 h (λ _ T hT h=>?_) λ σ w h=>?_
     · refine yv h λ h=>yv h λ h=>zm<|yv h λ h=>yv h λ h=>yc h Zfn λ h=>yv h λ h=>zn ?_
       exact zt hT h
     refine yG 2<|yp h λ h=>zm<|zn<|yg1 5 11 false [111,112,113,114,115] 115 h (λ _ T hT h=>?_) λ σ w h=>?_
     · refine yv h λ h=>yv h λ h=>yv h λ h=>zm<|yc h Zj0 λ h=>zn ?_
       exact zt hT h
     refine yG 1<|yp h λ h=>zn<|ZG<|zk<|yC h (λ h=>zs<|zr<|zm<|zn<|zk<|Zh<|Zb<|Zb<|Zd<|Zb<|Zf rfl rfl h) λ h=>Zi<|zk<|zs<|zr<|yv h λ h=>yv h λ h=>zm<|yv h λ h=>?_
     refine yv h λ h=>yc h Zfo λ h=>zm<|yv h λ h=>yv h λ h=>zm<|zm<|zn<|zk<|zs<|zr<|yv h λ h=>zm<|yv h λ h=>zm ?_
     exact zm<|yc h Zj1 λ h=>zm<|zn<|zk<|Zh<|Zb<|Zd<|Zb<|Zf rfl rfl h
   refine zs<|zr<|yb h λ h=>zm<|zn<|zk<|yC h (λ h=>?_) λ h=>?_
   · refine zs<|Zr<|yG 4<|yv h λ h=>yv h λ h=>yb h λ h=>zm<|zn<|yg1 3 3 true [138,139,140] 140 h (λ _ T hT h=>?_) λ σ w h=>?_
     · refine yv h λ h=>yv h λ h=>yb h λ h=>zn ?_
       exact zt hT h
     refine yG 2<|yp h λ h=>zm<|zn<|yg1 4 8 true [143,144,145,146] 146 h (λ _ T hT h=>?_) λ σ w h=>?_
     · refine yv h λ h=>yv h λ h=>yb h λ h=>zm<|zn ?_
       exact zt hT h
     refine yg1 3 12 false [147,148,149] 149 h (λ _ T hT h=>?_) λ σ w h=>?_
     · refine yv h λ h=>yv h λ h=>yb h λ h=>zn ?_
       exact zt hT h
     refine yg1 2 8 true [150,151] 151 h (λ _ T hT h=>?_) λ σ w h=>?_
     · refine yp h λ h=>zm<|zn ?_
       exact zt hT h
     refine yg1 4 17 false [152,153,154,155] 155 h (λ _ T hT h=>?_) λ σ w h=>?_
     · refine yv h λ h=>yv h λ h=>yb h λ h=>yb h λ h=>zn ?_
       exact zt hT h
     refine yg1 1 8 true [156] 156 h (λ _ T hT h=>?_) λ σ w h=>?_
     · refine yp h λ h=>zn ?_
       exact zt hT h
     refine yG 1<|yp h λ h=>zn<|ZG<|zk<|yC h (λ h=>zs<|zr<|zm<|zn<|zk<|Zh<|Zb<|Zd<|Zb<|Zf rfl rfl h) λ h=>Zi<|zk ?_
     exact zt hkK2 h
   refine zs<|zr<|yb h λ h=>zm<|zn<|zk<|yC h (λ h=>?_) λ h=>?_
   · refine zs<|zs<|Zr<|yG 4<|yv h λ h=>yv h λ h=>yb h λ h=>zm<|zn<|yg1 3 3 false [164,165,166] 166 h (λ _ T hT h=>?_) λ σ w h=>?_
     · refine yv h λ h=>yv h λ h=>yb h λ h=>zn ?_
       exact zt hT h
     refine yG 1<|yp h λ h=>zn<|ZG<|zk<|yC h (λ h=>zs<|zr<|zm<|zn<|zk<|Zh<|Zb<|Zb<|Zd<|Zb<|Zf rfl rfl h) λ h=>Zi<|zk<|zs<|zr<|yv h λ h=>yv h λ h=>yv h λ h=>zm ?_
     refine yc h Zac λ h=>yb h λ h=>zn<|zk<|yC h (λ h=>zs<|zr<|zm<|zn<|zk<|Zh<|Zb<|Zd<|Zb<|Zf rfl rfl h) λ h=>Zi<|zk ?_
     exact zt hkK2 h
   refine zs<|zr<|yb h λ h=>zm<|zn<|zk<|yC h (λ h=>?_) λ h=>?_
   · refine zs<|zs<|Zr<|yG 4<|yv h λ h=>yv h λ h=>yb h λ h=>zm<|zn<|yg1 3 3 false [180,181,182] 182 h (λ _ T hT h=>?_) λ σ w h=>?_
     · refine yv h λ h=>yv h λ h=>yb h λ h=>zn ?_
       exact zt hT h
     refine yG 1<|yp h λ h=>zn<|ZG<|zk<|yC h (λ h=>zs<|zr<|zm<|zn<|zk<|Zh<|Zb<|Zb<|Zd<|Zb<|Zf rfl rfl h) λ h=>Zi<|zk<|zs<|zr<|yv h λ h=>yv h λ h=>yv h λ h=>zm ?_
     refine yc h Fv λ h=>zm<|zn<|zk<|zs<|zs<|Zr<|yG 3<|zm<|yb h λ h=>zm<|zn<|yg1 7 2 false [192,193,194,195,196,197,198] 198 h (λ _ T hT h=>?_) λ σ w h=>?_
     · refine yv h λ h=>zm<|yc h Zj2 λ h=>zm<|yv h λ h=>yv h λ h=>yv h λ h=>zn ?_
       exact zt hT h
     refine yG 1<|yp h λ h=>zn<|ZG<|zk<|yC h (λ h=>zs<|zr<|zm<|zn<|zk<|Zh<|Zb<|Zb<|Zd<|Zb<|Zf rfl rfl h) λ h=>Zi<|zk<|zs<|zr<|yv h λ h=>zm<|yc h ZdT λ h=>zm ?_
     exact zn<|zk<|Zh<|Zb<|Zd<|Zb<|Zf rfl rfl h
   refine Zi<|zk ?_
   exact zt hkK2 h
 exact Zg<|zk<|zs<|zr<|zm<|zn<|zk<|Zh<|Zf rfl rfl h
def OS (l:List Yh) (hd:qg l) (s:BAr):(ZM (ZY l) s).isSome=l.any λ m=>decide (m.name=s):=by
 rcases Kk (Pz l) hd s with ⟨h1,h2⟩ | ⟨k,b,h1,_,_,h2⟩
 · rw [h2,← QH,h1];rfl
 · rw [h2,← QH,h1];simp
def HX {lo hi:Int}:Yf 34359738367 0 [lo,hi]=if Vq lo hi then 0 else 7:=by
 rw [jC]
 unfold Vq
 by_cases h1:0≤lo<;>by_cases h2:lo≤hi<;>by_cases h3:hi < 34359738368<;>simp [*]<;>omega
def Gu {hi n a:Int}:Yf hi n [a]=if a < n∨hi < a then 7 else 0:=by
 by_cases h1:a < n<;>by_cases h2:hi < a<;>simp [Yf,Yn,orC, *]<;>omega
def LL (w0:Wd) (v:Vl) (d:Xc) (n i:Nat) (m:Yh) (f:Zt) (hd:YM w0 v d) (hm:d.msgs[n]?=some m) (hi:m.fields[i]?=some f) (hN:qg (d.msgs.take n)) (hR:DC d.msgs n) (hD:H0 (m.fields.take i)) (hb:∀ (k:Nat) (m:Yh),k < n→d.msgs[k]?=some m→(Z9 m.fields).length≤1048576) (hn1:n≤1048576)
 (hg:∀ g∈m.fields.take i,Xx g=true → -4611686018427387904≤g.low∧XE g≤4611686018427387904) (hk:1≤f.kind∧f.kind≤12) :
 Ret Pg 145 #[v,.int .i64 (n:Int),.int .i64 (i:Int)] w0 λ r w'=>r = .int .i64 (Z4 (m.fields.take i) (vI (ZY (d.msgs.take n))) (vB (Yt (d.msgs.take n))) f)∧Ext w0 w':=by
 obtain ⟨mv,rfl,hM⟩:=hd
 have hM0:=hM
 have Ir:=List.mem_of_getElem? hm
 have hfm:=List.mem_of_getElem? hi
 refine ZlF (R:=ZR _) ?_;unfold n67
 rw [Yi]
 have Xw:=Z6.new (w:=w0) (ZO d mv) (27)
 have eW:Ext w0 (w0.alloc (Obj.cells (List.toArray (ZO d mv)) (27))):=(Ext.refl _).alloc _
 generalize (w0.alloc (Obj.cells (List.toArray (ZO d mv)) (27)))=W at Xw eW ⊢
 obtain ⟨bm,om,cm,rfl,_,_,_,hnl,YS⟩:=UC hM hm
 obtain ⟨csm,_,hAm,hEm⟩:=YS n m hm
 obtain ⟨fv,rfl,hF⟩:=hEm
 have hF0:=hF
 have hf1:=Ze.oneCell hF
 refine Qqh (Xw.c3 (Ext.refl W)) (hAm.c2 eW) ?_
 have hBX:=Z6.new (w:=W) (ZZ m fv) (74)
 have eX:Ext W (W.alloc (Obj.cells (List.toArray (ZZ m fv)) (74))):=(Ext.refl _).alloc _
 generalize (W.alloc (Obj.cells (List.toArray (ZZ m fv)) (74)))=X at hBX eX ⊢
 obtain ⟨bf,of,cf,rfl,_,_,_,hil,helf⟩:=UC hF hi
 obtain ⟨csf,_,hAf,hEf⟩:=helf i f hi
 obtain ⟨tv,cv,rfl,hT,hC,ht1,hc1⟩:=hEf.op
 refine Qqh (hBX.c2 (Ext.refl X)) (hAf.c15 (eW.trans eX)) ?_
 have hBY:=Z6.new (w:=X) (Zq f tv cv) (123)
 have eY:Ext X (X.alloc (Obj.cells (List.toArray (Zq f tv cv)) (123))):=(Ext.refl _).alloc _
 generalize (X.alloc (Obj.cells (List.toArray (Zq f tv cv)) (123)))=Y at hBY eY ⊢
 have hcY:=hBY.c15 (Ext.refl Y)
 have EY:Ext w0 Y:=eW.trans (eX.trans eY)
 have this:f.kind=1∨f.kind=2∨f.kind=3∨f.kind=4∨f.kind=5∨f.kind=6∨f.kind=7∨f.kind=8∨f.kind=9∨f.kind=10∨f.kind=11∨f.kind=12:=K9
 have hdv:∀ w,Ext Y w→YM w (.agg (ZO d (.slice (some ⟨bm,om,none⟩) d.msgs.length cm)).toArray) d:=λ w e=>⟨_,rfl,hM0.ext (EY.trans e)⟩
 have hmv:∀ w,Ext Y w→Qt w (.agg (ZZ m (.slice (some ⟨bf,of,none⟩) m.fields.length cf)).toArray) m:=λ w e=>⟨_,rfl,hF0.ext (EY.trans e)⟩
 have hfv:∀ w,Ext Y w→Z0 w (.agg (Zq f tv cv).toArray) f:=λ w e=>⟨_,_,rfl,hT.ext (EY.trans e),hC.ext (EY.trans e)⟩
 generalize hDD:vI (ZY (d.msgs.take n))=D
 generalize hSS:vB (Yt (d.msgs.take n))=S
 rcases this with hk | hk | hk | hk | hk | hk | hk | hk | hk | hk | hk | hk
 all_goals rw [show Zq f tv cv=[.string f.name,.int .i64 f.kind,.int .i64 f.bits,.bool f.little,.bool f.loose,.int .i64 f.low,.int .i64 f.high,.int .i64 f.base,tv,.string f.of,.string f.tag,.string f.fr,cv,.int .i64 f.check,.int .i64 f.key] from rfl,hk] at hfv
 all_goals simp (disch:=try exact DI) only [↓PR,QR,simprocAttr,hcY,hBX.c2 eY,Xw.c3 (eX.trans eY),hk,↓Wt,↓Wu,↓Wv,↓Ww,↓Wx,↓Wy,↓Wz,↓WA,↓WB,↓XY,↓XZ,↓X1,↓X2,↓X3,↓X4,↓X5,↓X6,↓X7,↓X8,↓X9,↓Qa,↓Qb,↓Qc,↓Qd,↓Qe,↓Qf,↓Qg,↓Qh,↓Qi,↓Qj,↓Qk,↓Ql]
 · have hcc:Z4 (m.fields.take i) D S f=ju f:=by rw [S3 hk];unfold Z4;rw [hk];rfl
   refine zcr (jh _ _ f (hfv _ (Ext.refl Y))) λ w1 e1=>?_
   exact ⟨_,rfl,by rw [hcc],EY.trans e1⟩
 · have hcc:Z4 (m.fields.take i) D S f=ju f:=by rw [S4 hk];unfold Z4;rw [hk];rfl
   refine zcr (jh _ _ f (hfv _ (Ext.refl Y))) λ w1 e1=>?_
   exact ⟨_,rfl,by rw [hcc],EY.trans e1⟩
 · have hcc:Z4 (m.fields.take i) D S f=if Vq f.low f.high then 0 else 7:=by rw [← HX];unfold Z4;rw [hk];rfl
   refine zcr (Of _ _ _) λ w1 e1=>?_
   cases hw:Vq f.low f.high<;>rw [hw] at hcc<;>simp (disch:=try exact DI) only [↓PR,QR,simprocAttr]<;>exact ⟨by rw [hcc];rfl,EY.trans e1⟩
 · have hcc:Z4 (m.fields.take i) D S f=Wg (Xo (m.fields.take i)) f:=by unfold Z4;rw [hk];rfl
   refine zcr (zH _ _ m i f (hmv _ (Ext.refl Y)) hi hD) λ w1 e1=>?_
   exact ⟨_,rfl,by rw [hcc],EY.trans e1⟩
 · have hcc:Z4 (m.fields.take i) D S f=if (decide (f.low < 0)||decide (255 < f.low)||decide (f.high < 0)||decide (1048576 < f.high)) then 7 else 0:=by
    rw [show Z4 (m.fields.take i) D S f=orC (Yf 255 0 [f.low]) (Yf 1048576 0 [f.high]) by unfold Z4;rw [hk];rfl,Gu,Gu]
    by_cases h1:f.low < 0<;>by_cases h2:255 < f.low<;>by_cases h3:f.high < 0<;>by_cases h4:1048576 < f.high<;>simp [orC, *]
   refine Wa (λ h=>⟨_,rfl,by rw [hcc,if_pos h],EY⟩) (λ h=>⟨_,rfl,by rw [hcc,if_neg (by rw [h];decide)],EY⟩)
 · have hcc:Z4 (m.fields.take i) D S f=if (decide (f.high < 2)||decide (1048576 < f.high)) then 7 else 0:=by
    rw [show Z4 (m.fields.take i) D S f=Yf 1048576 2 [f.high] by unfold Z4;rw [hk];rfl,Gu]
    by_cases h3:f.high < 2<;>by_cases h4:1048576 < f.high<;>simp [orC, *]
   refine Wa (λ h=>⟨_,rfl,by rw [hcc,if_pos h],EY⟩) (λ h=>⟨_,rfl,by rw [hcc,if_neg (by rw [h];decide)],EY⟩)
 · have hcc:Z4 (m.fields.take i) D S f=orC (Yn (Yy (vI (ZY (d.msgs.take n))) f.of).isSome 8) (Wg (Xo (m.fields.take i)) f):=by rw [← hDD];unfold Z4;rw [hk];rfl
   refine zcr (W5 _ _ d f.of n (hdv _ (Ext.refl Y)) (Nat.le_of_lt hnl)) λ w1 e1=>?_
   have hdi:=Jq (p:=λ m:Yh=>decide (m.name=f.of)) (l:=d.msgs.take n)
   rw [W3,Option.isSome_map,OS _ hN] at hcc
   cases hs:(d.msgs.take n).any (λ m=>decide (m.name=f.of)) with
   | false=>
    rw [hs] at hdi hcc
    simp (disch:=try exact DI) only [↓PR,QR,simprocAttr,hdi,↓Wt,↓Wu,↓Wv,↓Ww,↓Wx,↓Wy,↓Wz,↓WA,↓WB,↓XY,↓XZ,↓X1,↓X2,↓X3,↓X4,↓X5,↓X6,↓X7,↓X8,↓X9,↓Qa,↓Qb,↓Qc,↓Qd,↓Qe,↓Qf,↓Qg,↓Qh,↓Qi,↓Qj,↓Qk,↓Ql]
    exact ⟨by rw [hcc];rfl,EY.trans e1⟩
   | true=>
    rw [hs] at hdi hcc
    simp (disch:=try exact DI) only [↓PR,QR,simprocAttr,hdi,hBX.c2 (eY.trans e1),↓Wt,↓Wu,↓Wv,↓Ww,↓Wx,↓Wy,↓Wz,↓WA,↓WB,↓XY,↓XZ,↓X1,↓X2,↓X3,↓X4,↓X5,↓X6,↓X7,↓X8,↓X9,↓Qa,↓Qb,↓Qc,↓Qd,↓Qe,↓Qf,↓Qg,↓Qh,↓Qi,↓Qj,↓Qk,↓Ql]
    refine zcr (zH _ _ m i f (hmv _ e1) hi hD) λ w2 e2=>?_
    exact ⟨_,rfl,by rw [hcc];rfl,EY.trans (e1.trans e2)⟩
 · have hcc:Z4 (m.fields.take i) D S f=Yn (Yy (vI (ZY (d.msgs.take n))) f.of).isSome 8:=by rw [← hDD];unfold Z4;rw [hk];rfl
   refine zcr (W5 _ _ d f.of n (hdv _ (Ext.refl Y)) (Nat.le_of_lt hnl)) λ w1 e1=>?_
   have hdi:=Jq (p:=λ m:Yh=>decide (m.name=f.of)) (l:=d.msgs.take n)
   rw [W3,Option.isSome_map,OS _ hN] at hcc
   cases hs:(d.msgs.take n).any (λ m=>decide (m.name=f.of)) with
   | false=>
    rw [hs] at hdi hcc
    simp (disch:=try exact DI) only [↓PR,QR,simprocAttr,hdi,↓Wt,↓Wu,↓Wv,↓Ww,↓Wx,↓Wy,↓Wz,↓WA,↓WB,↓XY,↓XZ,↓X1,↓X2,↓X3,↓X4,↓X5,↓X6,↓X7,↓X8,↓X9,↓Qa,↓Qb,↓Qc,↓Qd,↓Qe,↓Qf,↓Qg,↓Qh,↓Qi,↓Qj,↓Qk,↓Ql]
    exact ⟨by rw [hcc];rfl,EY.trans e1⟩
   | true=>
    rw [hs] at hdi hcc
    simp (disch:=try exact DI) only [↓PR,QR,simprocAttr,hdi,↓Wt,↓Wu,↓Wv,↓Ww,↓Wx,↓Wy,↓Wz,↓WA,↓WB,↓XY,↓XZ,↓X1,↓X2,↓X3,↓X4,↓X5,↓X6,↓X7,↓X8,↓X9,↓Qa,↓Qb,↓Qc,↓Qd,↓Qe,↓Qf,↓Qg,↓Qh,↓Qi,↓Qj,↓Qk,↓Ql]
    exact ⟨by rw [hcc];rfl,EY.trans e1⟩
 · have hcc:Z4 (m.fields.take i) D S f=Vc (m.fields.take i) (vI (ZY (d.msgs.take n))) f:=by rw [← hDD];unfold Z4;rw [hk];rfl
   refine zcr (KA _ _ m f.tag i (hmv _ (Ext.refl Y)) (Nat.le_of_lt hil)) λ w1 e1=>?_
   have E1:=EY.trans e1
   unfold Vc at hcc
   rcases Dg hD f.tag with ⟨h1,h2⟩ | ⟨k,g,h1,h2,h3⟩
   · rw [h1]
     rw [h2] at hcc
     simp (disch:=try exact DI) only [↓PR,QR,simprocAttr,↓Wt,↓Wu,↓Wv,↓Ww,↓Wx,↓Wy,↓Wz,↓WA,↓WB,↓XY,↓XZ,↓X1,↓X2,↓X3,↓X4,↓X5,↓X6,↓X7,↓X8,↓X9,↓Qa,↓Qb,↓Qc,↓Qd,↓Qe,↓Qf,↓Qg,↓Qh,↓Qi,↓Qj,↓Qk,↓Ql]
     exact ⟨by rw [hcc];rfl,E1⟩
   · have hgk:=xc h2
     have hgm:=List.mem_of_getElem? h2
     obtain ⟨csg,_,hAg,hEg⟩:=helf k g hgk
     have hkl:k < m.fields.length:=(Qqj hgk).1
     obtain ⟨tg,cg,rfl,hTg,hCg,_,_⟩:=hEg.op
     have hd0:decide ((k:Int) < 0)=false:=by simp
     rw [h1]
     simp (disch:=try exact DI) only [↓PR,QR,simprocAttr,hd0,hBX.c2 (eY.trans e1),hAg.c15 E1,↓Wt,↓Wu,↓Wv,↓Ww,↓Wx,↓Wy,↓Wz,↓WA,↓WB,↓XY,↓XZ,↓X1,↓X2,↓X3,↓X4,↓X5,↓X6,↓X7,↓X8,↓X9,↓Qa,↓Qb,↓Qc,↓Qd,↓Qe,↓Qf,↓Qg,↓Qh,↓Qi,↓Qj,↓Qk,↓Ql]
     refine zcr (jd _ _ g ⟨_,_,rfl,hTg.ext E1,hCg.ext E1⟩) λ w2 e2=>?_
     cases hng:Xx g with
     | false=>
      rw [hng,if_neg (by simp)] at h3
      rw [h3] at hcc
      simp (disch:=try exact DI) only [↓PR,QR,simprocAttr,hd0,↓Wt,↓Wu,↓Wv,↓Ww,↓Wx,↓Wy,↓Wz,↓WA,↓WB,↓XY,↓XZ,↓X1,↓X2,↓X3,↓X4,↓X5,↓X6,↓X7,↓X8,↓X9,↓Qa,↓Qb,↓Qc,↓Qd,↓Qe,↓Qf,↓Qg,↓Qh,↓Qi,↓Qj,↓Qk,↓Ql]
      exact ⟨by rw [hcc];rfl,E1.trans e2⟩
     | true=>
     rw [hng,if_pos rfl] at h3
     rw [h3] at hcc
     have f2:Ext Y w2:=e1.trans e2
     simp (disch:=try exact DI) only [↓PR,QR,simprocAttr,hd0,hBX.c2 (eY.trans f2),hBY.c15 f2,↓Wt,↓Wu,↓Wv,↓Ww,↓Wx,↓Wy,↓Wz,↓WA,↓WB,↓XY,↓XZ,↓X1,↓X2,↓X3,↓X4,↓X5,↓X6,↓X7,↓X8,↓X9,↓Qa,↓Qb,↓Qc,↓Qd,↓Qe,↓Qf,↓Qg,↓Qh,↓Qi,↓Qj,↓Qk,↓Ql]
     refine zcr (HB _ _ m f.tag i (hmv _ f2) (Nat.le_of_lt hil)) λ w3 e3=>?_
     have f3:=f2.trans e3
     cases htg:(m.fields.take i).any (Wr f.tag) with
     | true=>
      rw [htg] at hcc
      simp (disch:=try exact DI) only [↓PR,QR,simprocAttr,hd0,↓Wt,↓Wu,↓Wv,↓Ww,↓Wx,↓Wy,↓Wz,↓WA,↓WB,↓XY,↓XZ,↓X1,↓X2,↓X3,↓X4,↓X5,↓X6,↓X7,↓X8,↓X9,↓Qa,↓Qb,↓Qc,↓Qd,↓Qe,↓Qf,↓Qg,↓Qh,↓Qi,↓Qj,↓Qk,↓Ql]
      exact ⟨by rw [hcc];rfl,EY.trans f3⟩
     | false=>
     rw [htg] at hcc
     simp (disch:=try exact DI) only [↓PR,QR,simprocAttr,hd0,hBX.c2 (eY.trans f3),hAg.c15 (EY.trans f3),↓Wt,↓Wu,↓Wv,↓Ww,↓Wx,↓Wy,↓Wz,↓WA,↓WB,↓XY,↓XZ,↓X1,↓X2,↓X3,↓X4,↓X5,↓X6,↓X7,↓X8,↓X9,↓Qa,↓Qb,↓Qc,↓Qd,↓Qe,↓Qf,↓Qg,↓Qh,↓Qi,↓Qj,↓Qk,↓Ql]
     refine zcr (BB _ _ g ⟨_,_,rfl,hTg.ext (EY.trans f3),hCg.ext (EY.trans f3)⟩) λ w4 e4=>?_
     have f4:=f3.trans e4
     simp (disch:=try exact DI) only [↓PR,QR,simprocAttr,Xw.c3 (eX.trans (eY.trans f4)),hBY.c15 f4,↓Wt,↓Wu,↓Wv,↓Ww,↓Wx,↓Wy,↓Wz,↓WA,↓WB,↓XY,↓XZ,↓X1,↓X2,↓X3,↓X4,↓X5,↓X6,↓X7,↓X8,↓X9,↓Qa,↓Qb,↓Qc,↓Qd,↓Qe,↓Qf,↓Qg,↓Qh,↓Qi,↓Qj,↓Qk,↓Ql]
     have hgb:=hg g hgm hng
     refine zcr (LF _ _ _ d n f g.low (XE g) (ZY (d.msgs.take n)) (hdv _ f4) (Nat.le_of_lt hnl) ⟨_,_,rfl,hT.ext (EY.trans f4),hC.ext (EY.trans f4)⟩ (OS _ hN) hgb.1 hgb.2) λ w5 e5=>?_
     exact ⟨_,rfl,by rw [hcc];rfl,EY.trans (f4.trans e5)⟩
 · have hcc:Z4 (m.fields.take i) D S f=Yn (Cb f) 6:=by unfold Z4;rw [hk];rfl
   have hP:Cb f=!((f.bits != 2&&f.bits != 4)&&(decide (f.bits < 8)||decide (512 < f.bits)||f.bits.tmod 8 != 0)):=by
    unfold Cb
    rw [show decide (f.bits < 8)=!decide (8≤f.bits) by rw [Bool.eq_iff_iff];simp,show decide (512 < f.bits)=!decide (f.bits≤512) by rw [Bool.eq_iff_iff];simp,bne,bne,bne]
    generalize (f.bits == 2)=a1
    generalize (f.bits == 4)=a2
    generalize decide (8≤f.bits)=a3
    generalize decide (f.bits≤512)=a4
    generalize (f.bits.tmod 8 == 0)=a5
    cases a1<;>cases a2<;>cases a3<;>cases a4<;>cases a5<;>rfl
   rw [hP] at hcc
   clear hP
   repeat' first
    | exact ⟨by rw [hcc];rfl,EY⟩
    | (refine VJ (λ hg=>?_) (λ hg=>?_)<;>(try rw [hg] at hcc)<;>simp (disch:=try exact DI) only [↓PR,QR,simprocAttr,hg,hcY,↓Wt,↓Wu,↓Wv,↓Ww,↓Wx,↓Wy,↓Wz,↓WA,↓WB,↓XY,↓XZ,↓X1,↓X2,↓X3,↓X4,↓X5,↓X6,↓X7,↓X8,↓X9,↓Qa,↓Qb,↓Qc,↓Qd,↓Qe,↓Qf,↓Qg,↓Qh,↓Qi,↓Qj,↓Qk,↓Ql])
    | (refine Wa (λ hg=>?_) (λ hg=>?_)<;>(try rw [hg] at hcc)<;>simp (disch:=try exact DI) only [↓PR,QR,simprocAttr,hg,↓Wt,↓Wu,↓Wv,↓Ww,↓Wx,↓Wy,↓Wz,↓WA,↓WB,↓XY,↓XZ,↓X1,↓X2,↓X3,↓X4,↓X5,↓X6,↓X7,↓X8,↓X9,↓Qa,↓Qb,↓Qc,↓Qd,↓Qe,↓Qf,↓Qg,↓Qh,↓Qi,↓Qj,↓Qk,↓Ql])
 · have hcc:Z4 (m.fields.take i) D S f=orC (Yf 3 1 [f.check]) (Yn ((m.fields.take i).any λ o=>decide (o.name=f.fr)) 8):=by unfold Z4;rw [hk];rfl
   rw [Gu] at hcc
   refine Wa (λ h=>⟨_,rfl,by rw [hcc,if_pos (by simpa using h)];rfl,EY⟩) (λ h=>?_)
   rw [if_neg (by simpa using h)] at hcc
   simp (disch:=try exact DI) only [↓PR,QR,simprocAttr,hBX.c2 eY,hcY,↓Wt,↓Wu,↓Wv,↓Ww,↓Wx,↓Wy,↓Wz,↓WA,↓WB,↓XY,↓XZ,↓X1,↓X2,↓X3,↓X4,↓X5,↓X6,↓X7,↓X8,↓X9,↓Qa,↓Qb,↓Qc,↓Qd,↓Qe,↓Qf,↓Qg,↓Qh,↓Qi,↓Qj,↓Qk,↓Ql]
   refine zcr (KA _ _ m f.fr i (hmv _ (Ext.refl Y)) (Nat.le_of_lt hil)) λ w1 e1=>?_
   have hdi:=Jq (p:=λ m:Zt=>decide (m.name=f.fr)) (l:=m.fields.take i)
   cases hs:(m.fields.take i).any (λ m=>decide (m.name=f.fr))<;>rw [hs] at hdi hcc<;>simp (disch:=try exact DI) only [↓PR,QR,simprocAttr,hdi,↓Wt,↓Wu,↓Wv,↓Ww,↓Wx,↓Wy,↓Wz,↓WA,↓WB,↓XY,↓XZ,↓X1,↓X2,↓X3,↓X4,↓X5,↓X6,↓X7,↓X8,↓X9,↓Qa,↓Qb,↓Qc,↓Qd,↓Qe,↓Qf,↓Qg,↓Qh,↓Qi,↓Qj,↓Qk,↓Ql]<;>exact ⟨by rw [hcc];rfl,EY.trans e1⟩
 · have hcc:Z4 (m.fields.take i) D S f=orC (Yf 4294967295 0 [f.key]) (orC (Yn (Fc (vB (Yt (d.msgs.take n))) f.of) 8) (Wg (Xo (m.fields.take i)) f)):=by rw [← hSS];unfold Z4;rw [hk];rfl
   rw [Gu,Fe] at hcc
   refine Wa (λ h=>⟨_,rfl,by rw [hcc,if_pos (by simpa using h)];rfl,EY⟩) (λ h=>?_)
   rw [if_neg (by simpa using h)] at hcc
   simp (disch:=try exact DI) only [↓PR,QR,simprocAttr,Xw.c3 (eX.trans eY),hcY,↓Wt,↓Wu,↓Wv,↓Ww,↓Wx,↓Wy,↓Wz,↓WA,↓WB,↓XY,↓XZ,↓X1,↓X2,↓X3,↓X4,↓X5,↓X6,↓X7,↓X8,↓X9,↓Qa,↓Qb,↓Qc,↓Qd,↓Qe,↓Qf,↓Qg,↓Qh,↓Qi,↓Qj,↓Qk,↓Ql]
   refine zcr (W5 _ _ d f.of n (hdv _ (Ext.refl Y)) (Nat.le_of_lt hnl)) λ w1 e1=>?_
   rcases Kk (PA (d.msgs.take n)) hN f.of with ⟨h1,h2⟩ | ⟨k,b,h1,_,h3,h4⟩
   · rw [h1]
     rw [h2] at hcc
     simp (disch:=try exact DI) only [↓PR,QR,simprocAttr,↓Wt,↓Wu,↓Wv,↓Ww,↓Wx,↓Wy,↓Wz,↓WA,↓WB,↓XY,↓XZ,↓X1,↓X2,↓X3,↓X4,↓X5,↓X6,↓X7,↓X8,↓X9,↓Qa,↓Qb,↓Qc,↓Qd,↓Qe,↓Qf,↓Qg,↓Qh,↓Qi,↓Qj,↓Qk,↓Ql]
     exact ⟨by rw [hcc];rfl,EY.trans e1⟩
   · rw [h1]
     rw [h4] at hcc
     have hd0:decide ((k:Int) < 0)=false:=by simp
     simp (disch:=try exact DI) only [↓PR,QR,simprocAttr,hd0,Xw.c3 (eX.trans (eY.trans e1)),↓Wt,↓Wu,↓Wv,↓Ww,↓Wx,↓Wy,↓Wz,↓WA,↓WB,↓XY,↓XZ,↓X1,↓X2,↓X3,↓X4,↓X5,↓X6,↓X7,↓X8,↓X9,↓Qa,↓Qb,↓Qc,↓Qd,↓Qe,↓Qf,↓Qg,↓Qh,↓Qi,↓Qj,↓Qk,↓Ql]
     refine Zs (EM _ _ d n (hdv _ e1) (Nat.le_of_lt hnl) hN hR hb hn1) ?_
     rintro _ w2 ⟨hO,e2⟩
     have hq:((Yt (d.msgs.take n)).map (·.2))[k]?=some b:=by rw [List.getElem?_map,h3];rfl
     obtain ⟨bo,oo,co,rfl,_,_,_,hql,helo⟩:=UC hO hq
     obtain ⟨cso,_,hAo,rfl⟩:=helo k b hq
     cases b with
     | false=>
      simp (disch:=try exact DI) only [↓PR,QR,simprocAttr,hd0,hAo.c1 (Ext.refl _),↓Wt,↓Wu,↓Wv,↓Ww,↓Wx,↓Wy,↓Wz,↓WA,↓WB,↓XY,↓XZ,↓X1,↓X2,↓X3,↓X4,↓X5,↓X6,↓X7,↓X8,↓X9,↓Qa,↓Qb,↓Qc,↓Qd,↓Qe,↓Qf,↓Qg,↓Qh,↓Qi,↓Qj,↓Qk,↓Ql]
      exact ⟨by rw [hcc];rfl,EY.trans (e1.trans e2)⟩
     | true=>
      simp (disch:=try exact DI) only [↓PR,QR,simprocAttr,hd0,hAo.c1 (Ext.refl _),hBX.c2 (eY.trans (e1.trans e2)),↓Wt,↓Wu,↓Wv,↓Ww,↓Wx,↓Wy,↓Wz,↓WA,↓WB,↓XY,↓XZ,↓X1,↓X2,↓X3,↓X4,↓X5,↓X6,↓X7,↓X8,↓X9,↓Qa,↓Qb,↓Qc,↓Qd,↓Qe,↓Qf,↓Qg,↓Qh,↓Qi,↓Qj,↓Qk,↓Ql]
      refine zcr (zH _ _ m i f (hmv _ (e1.trans e2)) hi hD) λ w3 e3=>?_
      exact ⟨_,rfl,by rw [hcc];rfl,EY.trans (e1.trans (e2.trans e3))⟩
def LK (w0:Wd) (v:Vl) (d:Xc) (n i:Nat) (m:Yh) (f:Zt) (hd:YM w0 v d) (hm:d.msgs[n]?=some m) (hi:m.fields[i]?=some f) (hN:qg (d.msgs.take n)) (hR:DC d.msgs n) (hD:H0 (m.fields.take i)) (hb:∀ (k:Nat) (m:Yh),k < n→d.msgs[k]?=some m→(Z9 m.fields).length≤1048576) (hn1:n≤1048576)
 (hg:∀ g∈m.fields.take i,Xx g=true → -4611686018427387904≤g.low∧XE g≤4611686018427387904) :
 Ret Pg 116 #[v,.int .i64 (n:Int),.int .i64 (i:Int)] w0 λ r w'=>r = .int .i64 (Xa (m.fields.take i) (vI (ZY (d.msgs.take n))) (vB (Yt (d.msgs.take n))) f)∧Ext w0 w':=by
 obtain ⟨mv,rfl,hM⟩:=hd
 have hM0:=hM
 refine ZlD (R:=ZR _) ?_;unfold n65
 rw [Yi]
 have Xw:=Z6.new (w:=w0) (ZO d mv) (27)
 have eW:Ext w0 (w0.alloc (Obj.cells (List.toArray (ZO d mv)) (27))):=(Ext.refl _).alloc _
 generalize (w0.alloc (Obj.cells (List.toArray (ZO d mv)) (27)))=W at Xw eW ⊢
 obtain ⟨bm,om,cm,rfl,_,_,_,hnl,YS⟩:=UC hM hm
 obtain ⟨csm,_,hAm,hEm⟩:=YS n m hm
 obtain ⟨fv,rfl,hF⟩:=hEm
 have hF0:=hF
 obtain ⟨bf,of,cf,rfl,_,_,_,hil,helf⟩:=UC hF hi
 obtain ⟨csf,_,hAf,hEf⟩:=helf i f hi
 obtain ⟨tv,cv,rfl,hT,hC,ht1,hc1⟩:=hEf.op
 refine Qqb (Xw.c3 (Ext.refl W)) (hAm.c2 eW) (hAf.c15 eW) ?_
 have hBX:=Z6.new (w:=W) (Zq f tv cv) (123)
 have eX:Ext W (W.alloc (Obj.cells (List.toArray (Zq f tv cv)) (123))):=(Ext.refl _).alloc _
 generalize (W.alloc (Obj.cells (List.toArray (Zq f tv cv)) (123)))=X at hBX eX ⊢
 have EX:Ext w0 X:=eW.trans eX
 unfold Xa
 refine zcr (U7 _ _) λ w1 e1=>?_
 have E1:=EX.trans e1
 cases hnm:YZ f.name with
 | false=>simp (disch:=try exact DI) only [↓PR,QR,simprocAttr];exact ⟨rfl,E1⟩
 | true=>
 refine Qqk ?_
 refine ZB ?_
 simp (disch:=try exact DI) only [↓PR,QR,simprocAttr,Xw.c3 (eX.trans e1),hBX.c15 e1,hAm.c2 E1,↓CR,↓CS,↓CT,↓CU]
 refine zcr (KA _ _ m f.name i ⟨_,rfl,hF0.ext E1.drew⟩ (Nat.le_of_lt hil)) λ w2 e2=>?_
 have e12:=e1.drew.trans e2
 refine ⟨e2,?_⟩
 have hdi:=QH (p:=λ m:Zt=>decide (m.name=f.name)) (l:=m.fields.take i)
 cases hs:(m.fields.take i).any (λ m=>decide (m.name=f.name)) with
 | true=>
  rw [hs] at hdi
  simp (disch:=try exact DI) only [↓PR,QR,simprocAttr,hdi,↓CR,↓CS,↓CT,↓CU]
  exact ⟨rfl,EX.trans e12⟩
 | false=>
 rw [hs] at hdi
 simp (disch:=try exact DI) only [↓PR,QR,simprocAttr,hdi,hBX.c15 e12,↓CR,↓CS,↓CT,↓CU]
 have VY:(decide (f.kind < 1)||decide (12 < f.kind))=!decide (1≤f.kind∧f.kind≤12):=by
  rw [Bool.eq_iff_iff];simp only [Bool.or_eq_true,decide_eq_true_eq,Bool.not_eq_true',decide_eq_false_iff_not];omega
 rw [VY]
 cases hk:decide (1≤f.kind∧f.kind≤12) with
 | false=>simp (disch:=try exact DI) only [↓PR,QR,simprocAttr];exact ⟨rfl,EX.trans e12⟩
 | true=>
 have hk':1≤f.kind∧f.kind≤12:=by simpa using hk
 refine Qqg (hBX.c15 e12) ?_
 refine zcr (Og _ _ f ⟨_,_,rfl,hT.ext (EX.trans e12),hC.ext (EX.trans e12)⟩ hk') λ w3 e3=>?_
 have e13:=e12.trans e3
 rw [HZ hk']
 cases hz:decide (Y1 f=Jd f) with
 | false=>simp (disch:=try exact DI) only [↓PR,QR,simprocAttr,↓CR,↓CS,↓CT,↓CU];exact ⟨rfl,EX.trans e13⟩
 | true=>
 simp (disch:=try exact DI) only [↓PR,QR,simprocAttr,Xw.c3 (eX.trans e13),↓CR,↓CS,↓CT,↓CU]
 refine zcr (LL _ _ d n i m f ⟨_,rfl,hM0.ext (EX.trans e13)⟩ hm hi hN hR hD hb hn1 hg hk') λ w4 e4=>?_
 exact ⟨_,rfl,rfl,EX.trans (e13.trans e4)⟩
def US.dist {l:List Yh} (h:US l):qg l:=by
 refine List.pairwise_iff_getElem.2 λ i j hi hj hij hn=>?_
 have h6:=(Kw (h.next (List.getElem?_eq_getElem hj))).2.1
 rw [← Option.not_isSome_iff_eq_none,isD] at h6
 exact h6 ⟨l[i],List.mem_of_getElem? (i:=i) (by rw [List.getElem?_take,if_pos hij];exact List.getElem?_eq_getElem hi),hn⟩
def Df {deps:List (BAr×Int)} {strs:List (BAr×Bool)} (hds:∀ s,(ZM strs s).isSome=true→(ZM deps s).isSome=true) {m:Yh} (h:(YE deps strs [] m.fields).2=0):∀ s∈WC m,(ZM deps s).isSome=true:=
 λ s hs=>(qv (Sub.refl _) (Sub.refl _) hds _ _ h).2 s (NV hs)
def T8 {l:List Yh} {s:BAr} (h:(ZM (ZY l) s).isSome=true):(l.any λ m=>decide (m.name=s))=true:=by
 obtain ⟨m,hm,hn⟩:=isD.1 h
 exact List.any_eq_true.2 ⟨m,hm,by simpa using hn⟩
def US.refsIn {l:List Yh} {n:Nat} (h:US (l.take n)):DC l n:=by
 intro k m hk hm s hs
 have hm':(l.take n)[k]?=some m:=by rw [List.getElem?_take,if_pos hk];exact hm
 obtain ⟨_,_,_,h4,_⟩:=Kw (h.next hm')
 rw [List.take_take,Nat.min_eq_left K9] at h4
 exact T8 (Df (Zbp _) h4 s hs)
def GA (deps:List (BAr×Int)) (strs:List (BAr×Bool)) (l:List Zt):Prop:=∀ (j:Nat) (f:Zt),l[j]?=some f→Xa (l.take j) (vI deps) (vB strs) f=0
section
variable {deps:List (BAr×Int)} {strs:List (BAr×Bool)} {l:List Zt}
def Aj {bef:List Zt} {D S:List (BAr×Vl)} {f:Zt} (h:Xa bef D S f=0):(bef.any λ o=>decide (o.name=f.name))=false∧Z4 bef D S f=0:=by
 unfold Xa at h
 obtain ⟨_,h⟩:=QL.1 h
 obtain ⟨h2,h⟩:=QL.1 h
 obtain ⟨_,h⟩:=QL.1 h
 obtain ⟨_,h⟩:=QL.1 h
 exact ⟨by simpa using (QX K7).1 h2,h⟩
def GA.dist (h:GA deps strs l):H0 l:=by
 refine List.pairwise_iff_getElem.2 λ i j hi hj hij hn=>?_
 have h6:=(Aj (h j _ (List.getElem?_eq_getElem hj))).1
 rw [List.any_eq_false] at h6
 exact h6 l[i] (List.mem_of_getElem? (i:=i) (by rw [List.getElem?_take,if_pos hij];exact List.getElem?_eq_getElem hi)) (by simpa using hn)
def GA.step {k:Nat} {f:Zt} (h:GA deps strs (l.take k)) (hk:l[k]?=some f) (hf:Xa (l.take k) (vI deps) (vB strs) f=0):GA deps strs (l.take (k+1)):=by
 intro j g hg
 rw [List.getElem?_take] at hg
 split at hg
 · rename_i hj
   rw [List.take_take,Nat.min_eq_left K9]
   by_cases hjk:j=k
   · subst hjk;rw [hk] at hg;injection hg with hg;subst hg;exact hf
   · have:=h j g (by rw [List.getElem?_take,if_pos K9];exact hg)
     rwa [List.take_take,Nat.min_eq_left K9] at this
 · cases hg
def Hx {n:Int} (h1:1≤n) (h2:n≤32):(2:Int) ^ n.toNat≤4294967296:=by
 have hle:n.toNat≤32:=K9
 have hq:(2:Nat) ^ n.toNat≤2 ^ 32:=Nat.pow_le_pow_right K7 hle
 have hc:(2:Int) ^ n.toNat=((2 ^ n.toNat:Nat):Int):=by simp
 rw [hc]
 have:(2:Nat) ^ 32=4294967296:=rfl
 omega
def Ln {bef:List Zt} {D S:List (BAr×Vl)} {g:Zt} (h:Z4 bef D S g=0) (hn:Xx g=true):0≤g.low∧g.low≤XE g∧XE g≤34359738367:=by
 unfold Xx at hn
 simp only [Bool.or_eq_true,beq_iff_eq] at hn
 unfold XE
 rcases hn with (hk | hk) | hk
 · rw [show Z4 bef D S g=orC (Yn (XO g) 6) (Yf (KU g) 0 [g.low,g.high]) by unfold Z4;rw [hk];rfl] at h
   obtain ⟨h1,h2⟩:=QL.1 h
   have hb:=(QX K7).1 h1
   unfold XO at hb
   simp only [Bool.and_eq_true,decide_eq_true_eq] at hb
   have hp:=Hx hb.1.1 hb.1.2
   rw [jC] at h2
   unfold KU at h2
   split at h2
   · cases h2
   · rw [hk]
     show 0≤g.low∧g.low≤g.high∧g.high≤34359738367
     omega
 · rw [show Z4 bef D S g=orC (Yn (XO g) 6) (Yf (KU g) 0 [g.low]) by unfold Z4;rw [hk];rfl] at h
   obtain ⟨h1,h2⟩:=QL.1 h
   have hb:=(QX K7).1 h1
   unfold XO at hb
   simp only [Bool.and_eq_true,decide_eq_true_eq] at hb
   have hp:=Hx hb.1.1 hb.1.2
   rw [Gu] at h2
   unfold KU at h2
   split at h2
   · cases h2
   · rw [hk]
     show 0≤g.low∧g.low≤g.low∧g.low≤34359738367
     omega
 · rw [show Z4 bef D S g=Yf 34359738367 0 [g.low,g.high] by unfold Z4;rw [hk];rfl,jC] at h
   split at h
   · cases h
   · rw [hk]
     show 0≤g.low∧g.low≤g.high∧g.high≤34359738367
     omega
def GA.bounds (h:GA deps strs l):∀ g∈l,Xx g=true → -4611686018427387904≤g.low∧XE g≤4611686018427387904:=by
 intro g hg hn
 obtain ⟨j,hj⟩:=List.getElem?_of_mem hg
 have:=Ln (Aj (h j g hj)).2 hn
 omega
end
def KY (w:Wd) (b:Nat) (L:List Int):Prop:=w.heap[b]?=some (.cells (L.map λ n=>Value.int .i64 n).toArray 3 (0,0))
def KY.ext {w w':Wd} {b:Nat} {L:List Int} (h:KY w b L) (e:Ext w w'):KY w' b L:=e.obj h
def KY.cell {w:Wd} {b:Nat} {L:List Int} (h:KY w b L) {k:Nat} {n:Int} (hk:L[k]?=some n):w.cell? ⟨b,k*1,none⟩=some (.int .i64 n):=by
 rw [(Za h).1];simp [hk]
def KY.free {w:Wd} {b:Nat} {L:List Int} (h:KY w b L) (k:Nat):w.frozen? ⟨b,k,none⟩=false:=(Za h).2 k
def KY.set {w:Wd} {b:Nat} {L:List Int} (h:KY w b L) (k:Nat) (n:Int):KY (w.setCell ⟨b,k*1,none⟩ (.int .i64 n)) b (L.set k n):=by
 rw [Nat.mul_one]
 have:=Zy (o:=k) h (.int .i64 n)
 unfold KY
 rw [this]
 congr 2
 rw [List.setIfInBounds_toArray,List.map_set]
def Hq {QP:PEn} {w:Wd} {k:KV} (n:Nat) (hn:n≤1048576):opV Pg (Instr.makeSlice 61 (.int .i64 (n:Int)) (.int .i64 (n:Int))) QP w k =
 k (.slice (some ⟨w.heap.size,0,none⟩) n n) (w.alloc (.cells ((List.replicate n (0:Int)).map λ n=>Value.int .i64 n).toArray 3)):=by
 obtain ⟨⟨i,hi,hs,hby,hz⟩,_⟩:=ty3
 have h1:=by3
 rw [Yj (run_make_row (P:=Pg) 61 3 i _ underlying61 hi hz hs rfl .i64 .i64 n (by rw [hby];exact Nat.le_trans (Nat.mul_le_mul h1 hn) K7) K9 w)]
 congr 3
 rw [List.map_replicate,← toList_madeCells_one]
section
variable {w0 W w:Wd} {d:Xc} {mv:Vl} (Xw:Z6 W w0.heap.size 0 (ZO d mv)) (eW:Ext w0 W) (hM:Va w0 mv d.msgs)
include Xw eW hM
def HA {k N lo bd:Nat} {m:Yh} {L:List Int} {rv t2:Vl} {R:RT} {Zx:KV} (hkl:k < d.msgs.length) (hN:qg (d.msgs.take k)) (hrefs:∀ s∈WC m,(ZM (ZY (d.msgs.take k)) s).isSome=true) (e:Ext W w) (hbd:W.heap.size≤bd) (hL:KY w bd L) (YH:L.length=N)
 (hLk:∀ (j:Nat) (n:Int),((ZY (d.msgs.take k)).map (·.2))[j]?=some n→L[j]?=some n∧j < k) (h0:L[k]?=some 0) (hS:QZ w lo rv (WC m)) (hlo:bd < lo)
 (hn:∀ w',Ext W w'→KY w' bd (L.set k (Q1 (ZY (d.msgs.take k)) m))→MC t2 (.int .i64 (k:Int)) (.slice (some ⟨bd,0,none⟩) N N) Zx R w') :
 Yz (λ t10 w Y0=>MD (Qq4 w0.heap.size) t2 (.int .i64 (k:Int)) t10 (.slice (some ⟨bd,0,none⟩) N N) rv Zx Y0 R w) (.int .i64 0) w:=by
 have hkN:k < N:=by rw [← YH];exact (Qqj h0).1
 refine ZE (λ a w'=>∃ j:Nat,a = .int .i64 j∧j≤(WC m).length∧Ext W w'∧KY w' bd (L.set k (((WC m).take j).foldl (λ d' s=>WM d' ((ZM (ZY (d.msgs.take k)) s).getD 0)) 0))∧QZ w' lo rv (WC m)) (λ b _=>(WC m).length - (intOf b).toNat) ⟨0,rfl,by omega,e,by
  have:L.set k (((WC m).take 0).foldl (λ d' s=>WM d' ((ZM (ZY (d.msgs.take k)) s).getD 0)) 0)=L:=by
   refine List.ext_getElem? λ j=>?_
   rw [List.getElem?_set]
   split
   · rename_i h;subst h;rw [h0];simp [YH,hkN]
   · rfl
  rw [this];exact hL,hS⟩ ?_
 rintro _ w1 ⟨j,rfl,hj,e1,hL1,hS1⟩
 have hSl:=hS1.slice (E:=KN) (λ _=>rfl) (λ _ _=>rfl)
 obtain ⟨Ar,cr,rfl,hlr,hcr,hlmr,helr⟩:=Ze.open hSl
 have E1:=eW.trans e1
 unfold MD
 rcases ZH hj with ⟨s,hx,hdr,Ym,ZK⟩ | ⟨hj,hdr,ZK⟩
 · obtain ⟨bs,os,css,rfl,_,hAs,rfl⟩:=helr j s hx
   have Qu:((WC m).take (j+1)).foldl (λ d' s=>WM d' ((ZM (ZY (d.msgs.take k)) s).getD 0)) 0=WM (((WC m).take j).foldl (λ d' s=>WM d' ((ZM (ZY (d.msgs.take k)) s).getD 0)) 0) ((ZM (ZY (d.msgs.take k)) s).getD 0):=by rw [Yw hx,List.foldl_append];rfl
   generalize (((WC m).take j).foldl (λ d' s=>WM d' ((ZM (ZY (d.msgs.take k)) s).getD 0)) 0)=c at hL1 Qu
   have hck:(L.set k c)[k]?=some c:=by rw [List.getElem?_set,if_pos rfl,if_pos K9]
   refine Qqg ZK ?_
   refine ZB ?_
   unfold Sm
   refine Qqb (hL1.cell hck) (Xw.c3 e1) (hAs.c1 (Ext.refl w1)) ?_
   refine zcr (W5 _ _ d s k ⟨_,rfl,hM.ext E1.drew⟩ (Nat.le_of_lt hkl)) λ w2 e2=>?_
   have e12:Ext w1 w2:=(Ext.refl w1).drew.trans e2
   refine Kv e2 ?_
   unfold Sl
   rcases Kk (Pz (d.msgs.take k)) hN s with ⟨_,h2⟩ | ⟨q,b,h1,_,h3,h4⟩
   · have:=hrefs s (List.mem_of_getElem? hx)
     rw [h2] at this
     cases this
   · obtain ⟨hLq,hqk⟩:=hLk q b (by rw [List.getElem?_map,h3];rfl)
     have hcq:(L.set k c)[q]?=some b:=by rw [List.getElem?_set,if_neg K9];exact hLq
     rw [h1]
     have hq2:q < N:=K9
     have hL2:=hL1.ext e12
     simp (disch:=try exact DI) only [↓PR,QR,simprocAttr,hL1.cell hcq,hL2.cell hck,hL2.free]
     refine XL ?_
     refine Qqk ?_
     refine ⟨⟨j+1,rfl,Ym,(e1.trans e12).setCell hbd _,?_,((hS1.ext e12).range.only (YT.setCell w2 bd _ _) (.inr (.inl hlo))).1⟩,ZQ (kd := .i64) Ym⟩
     rw [Qu,h4]
     have:=hL2.set k (if b > c then b else c)
     rw [List.set_set] at this
     exact this
 · subst hj
   rw [List.take_length] at hL1
   refine Qqg ZK ?_
   exact hn w1 e1 hL1
end
def VH {w0 w:Wd} {bt:Nat} {x0 x1 x2:Vl} {QP QP':PEn} {k:KV} (e:Ext w0 w) (hb:w0.heap.size≤bt) (h:w.heap[bt]?=some (.cells #[x0,x1,x2] 131 (0,0))) (a f c:Int) (hk:∀ w',Ext w0 w'→k (Wj a f c) w') :
 opV Pg (build 131 #[(0,.int .i64 a),(1,.int .i64 f),(2,.int .i64 c)]) QP w λ t w=>opU Pg (storeAt 131 (Qq4 bt) t) QP' w λ w=>qW Pg 131 (Qq4 bt) w λ r0=>k r0 w:=by
 refine Qqh (Za h).1 (Za h).2 ?_
 exact hk _ (((e.setCell hb _).setCell hb _).setCell hb _)
def VI {d:Xc} {a f c:Int} (h:Xe d=(a,f,c)) (h0:c≠0):Value.tuple #[Wj a f c,.bool true] = .tuple #[An (Xe d),.bool (YI d)]:=by
 unfold YI An
 rw [h]
 simp [h0]
def AG {l:List Yh} {k:Nat} (h:US (l.take k)) (hk:k≤l.length):Q5 [] [] 0 l=Q5 (ZY (l.take k)) (Yt (l.take k)) k (l.drop k):=by
 have:=(VK (l.drop k) (l.take k) [] [] 0).1 h
 rw [List.take_append_drop] at this
 rw [this,List.length_take,Nat.min_eq_left hk,Nat.zero_add]
 rfl
def US.step {l:List Yh} {k:Nat} {m:Yh} (h:US (l.take k)) (hm:l[k]?=some m) (h0:(QW (ZY (l.take k)) (Yt (l.take k)) m).2=0):US (l.take (k+1)):=by
 rw [Yw hm]
 unfold US
 rw [(VK [m] (l.take k) [] [] 0).1 h]
 show (Q5 (ZY (l.take k)) (Yt (l.take k)) _ [m]).2.2=0
 rw [zc h0]
 rfl
def Nz {d:Xc} {k:Nat} {m:Yh} {a c:Int} (h1:YZ d.name=true) (h2:1≤d.msgs.length∧d.msgs.length≤60) (h:US (d.msgs.take k)) (hm:d.msgs[k]?=some m) (hn:QW (ZY (d.msgs.take k)) (Yt (d.msgs.take k)) m=(a,c)) (h0:c≠0):Xe d=((k:Int),a,c):=by
 have hk:=(Qqj hm).1
 unfold Xe
 rw [if_pos h1,if_pos h2,AG h (Nat.le_of_lt hk),List.drop_eq_getElem_cons hk,Kp (by rw [(Qqj hm).2,hn];exact h0),(Qqj hm).2,hn]
 unfold Il
 rw [if_neg h0]
def jr (l:List Yh) (k:Nat):List Int:=(ZY (l.take k)).map (·.2)++List.replicate (l.length - k) 0
def Ua (l:List Yh) {k:Nat} (hk:k≤l.length):((ZY (l.take k)).map (·.2)).length=k:=by
 have:=congrArg List.length (Pz (l.take k))
 simp only [List.length_map,List.length_take] at this ⊢
 omega
def FA (l:List Yh) {k:Nat} (hk:k≤l.length):(jr l k).length=l.length:=by
 unfold jr
 rw [List.length_append,Ua l hk,List.length_replicate];omega
def NG (l:List Yh) {k:Nat} (hk:k < l.length):(jr l k)[k]?=some 0:=by
 unfold jr
 rw [List.getElem?_append_right (by rw [Ua l K9];omega),Ua l K9,List.getElem?_replicate,if_pos K9]
def O5 (l:List Yh) {k:Nat} (hk:k < l.length) (j:Nat) (n:Int) (h:((ZY (l.take k)).map (·.2))[j]?=some n):(jr l k)[j]?=some n∧j < k:=by
 have hj:=(Qqj h).1
 rw [Ua l K9] at hj
 unfold jr
 rw [List.getElem?_append_left (by rw [Ua l K9];exact hj)]
 exact ⟨h,hj⟩
def NF {l:List Yh} {k:Nat} {m:Yh} (hm:l[k]?=some m):(jr l k).set k (Q1 (ZY (l.take k)) m+1)=jr l (k+1):=by
 have hk:=(Qqj hm).1
 unfold jr
 rw [List.set_append_right _ _ (by rw [Ua l K9];omega),Ua l K9,Nat.sub_self,Yw hm,CB,List.map_append,List.append_assoc]
 congr 1
 rw [show l.length - k=(l.length - (k+1))+1 by omega,List.replicate_succ]
 rfl
def qu {deps:List (BAr×Int)} {strs:List (BAr×Bool)}:∀ (l:List Zt) (bef:List Zt) (k:Nat),(∀ (j:Nat) (f:Zt),j < k→l[j]?=some f→Xa (bef++l.take j) (vI deps) (vB strs) f=0)→YE deps strs (bef++l.take k) (l.drop k)=YE deps strs bef l
 | [],bef,k,_=>by simp
 | f::l,bef,0,_=>by simp
 | f::l,bef,k+1,h=>by
  have h0:=h 0 f K9 rfl
  rw [List.take_zero,List.append_nil] at h0
  have ih:=qu l (bef++[f]) k λ j g hj hg=>by
   have:=h (j+1) g K9 (by simpa using hg)
   rw [List.take_succ_cons] at this
   rw [List.append_assoc];exact this
  rw [List.take_succ_cons,List.drop_succ_cons,YE,if_pos h0,← ih,List.append_assoc]
  rfl
def GA.fields {deps:List (BAr×Int)} {strs:List (BAr×Bool)} {l:List Zt} {k:Nat} (h:GA deps strs (l.take k)):YE deps strs (l.take k) (l.drop k)=YE deps strs [] l:=by
 have:=qu (deps:=deps) (strs:=strs) l [] k λ j f hj hf=>by
  have:=h j f (by rw [List.getElem?_take,if_pos hj];exact hf)
  rwa [List.take_take,Nat.min_eq_left K9] at this
 simpa using this
def NJ {l:List Yh} {n:Nat} (h:US (l.take n)) (k:Nat) (m:Yh) (hk:k < n) (hm:l[k]?=some m):(Z9 m.fields).length≤1048576:=by
 have hm':(l.take n)[k]?=some m:=by rw [List.getElem?_take,if_pos hk];exact hm
 obtain ⟨_,_,h40,h4,_⟩:=Kw (h.next hm')
 have:=U8 _ _ _ _ h4
 omega
def LD (w0:Wd) (v:Vl) (d:Xc) (hd:YM w0 v d):Ret Pg 80 #[v] w0 λ r w'=>r = .tuple #[An (Xe d),.bool (YI d)]∧Ext w0 w':=by
 obtain ⟨mv,rfl,hM⟩:=hd
 have hM0:=hM
 refine Zlu (R:=ZR _) ?_;unfold n56
 rw [Yi]
 have Xw:=Z6.new (w:=w0) (ZO d mv) (27)
 have eW:Ext w0 (w0.alloc (Obj.cells (List.toArray (ZO d mv)) (27))):=(Ext.refl _).alloc _
 generalize (w0.alloc (Obj.cells (List.toArray (ZO d mv)) (27)))=W at Xw eW ⊢
 obtain ⟨A,cm,rfl,hlc,hcm,hlm,YS⟩:=Ze.open hM
 have sB:w0.heap.size < W.heap.size:=World.block_lt_of_cell? W ⟨w0.heap.size,0,none⟩ (Xw.c3 (Ext.refl W)).1
 refine Qqg (Xw.c3 (Ext.refl W)) ?_
 have oV:=Zv W #[.int .i64 0,.int .i64 0,.int .i64 0] 131
 have eV:Ext W (W.alloc (.cells #[.int .i64 0,.int .i64 0,.int .i64 0] 131)):=(Ext.refl W).alloc _
 have sV:(W.alloc (.cells #[.int .i64 0,.int .i64 0,.int .i64 0] 131)).heap.size=W.heap.size+1:=World.size_alloc _ _
 generalize W.alloc (.cells #[.int .i64 0,.int .i64 0,.int .i64 0] 131)=V at oV eV sV ⊢
 have EV:Ext w0 V:=eW.trans eV
 have sW:=eW.size
 refine zcr (U7 _ _) λ w1 e1=>?_
 have E1:=EV.trans e1
 cases hnm:YZ d.name with
 | false=>
  have hc:Xe d=(-1,-1,1):=by unfold Xe;rw [hnm];rfl
  refine Qqk ?_
  unfold I8
  exact VH E1 sW (e1.obj oV) _ _ _ λ w' e'=>⟨_,rfl,VI hc K7,e'⟩
 | true=>
 simp (disch:=try exact DI) only [↓PR,QR,simprocAttr,Xw.c3 (eV.trans e1),I9]
 have YH:(decide ((d.msgs.length:Int) < 1)||decide (60 < (d.msgs.length:Int)))=!decide (1≤d.msgs.length∧d.msgs.length≤60):=by
  rw [Bool.eq_iff_iff];simp only [Bool.or_eq_true,decide_eq_true_eq,Bool.not_eq_true',decide_eq_false_iff_not];omega
 rw [YH]
 by_cases hl:1≤d.msgs.length∧d.msgs.length≤60
 case neg=>
  have hc:Xe d=(-1,-1,3):=by unfold Xe;rw [hnm,if_pos rfl,if_neg hl]
  simp (disch:=try exact DI) only [↓PR,QR,simprocAttr,show decide (1≤d.msgs.length∧d.msgs.length≤60)=false by simpa using hl]
  unfold I6
  exact VH E1 sW (e1.obj oV) _ _ _ λ w' e'=>⟨_,rfl,VI hc K7,e'⟩
 case pos=>
 simp (disch:=try exact DI) only [↓PR,QR,simprocAttr,show decide (1≤d.msgs.length∧d.msgs.length≤60)=true by simpa using hl]
 unfold I7
 refine Qqg (Xw.c3 (eV.trans e1)) ?_
 rw [Hq _ K9]
 have oD:KY (w1.alloc (.cells ((List.replicate d.msgs.length (0:Int)).map λ n=>Value.int .i64 n).toArray 3)) w1.heap.size (jr d.msgs 0):=Zv w1 _ _
 have eD:Ext w1 (w1.alloc (.cells ((List.replicate d.msgs.length (0:Int)).map λ n=>Value.int .i64 n).toArray 3)):=(Ext.refl w1).alloc _
 generalize w1.alloc (.cells ((List.replicate d.msgs.length (0:Int)).map λ n=>Value.int .i64 n).toArray 3)=w2 at oD eD ⊢
 have sw1:=e1.size
 generalize hbd:w1.heap.size=bd at oD sw1 ⊢
 have e2:Ext V w2:=e1.trans eD
 refine ZE (λ a w'=>∃ k:Nat,a = .int .i64 k∧k≤d.msgs.length∧Ext V w'∧KY w' bd (jr d.msgs k)∧US (d.msgs.take k)) (λ b _=>d.msgs.length - (intOf b).toNat) ⟨0,rfl,by omega,e2,oD,rfl⟩ ?_
 rintro _ w ⟨k,rfl,hk,e,hL,hfine⟩
 have E:=EV.trans e
 have hcW:=Xw.c3 (eV.trans e)
 unfold I5
 rcases ZH hk with ⟨m,hm,hdr,Ym,ZK⟩ | ⟨hk,hdr,ZK⟩
 · obtain ⟨bm,om,csm,rfl,_,hAm,fv,rfl,hF⟩:=YS k m hm
   have hF0:=hF
   obtain ⟨Af,cf,rfl,hlf,hcf,hlmf,helf⟩:=Ze.open hF
   have hdist:=hfine.dist
   have hbad:=λ (a c:Int)=>Nz (d:=d) (k:=k) (m:=m) (a:=a) (c:=c) hnm hl hfine hm
   simp (disch:=try exact DI) only [↓PR,QR,simprocAttr,ZK,hcW,hAm.c2 E,I4]
   have hBY:=Z6.new (w:=w) (ZZ m (.slice Af m.fields.length cf)) (74)
   have eY:Ext w (w.alloc (Obj.cells (List.toArray (ZZ m (.slice Af m.fields.length cf))) (74))):=(Ext.refl _).alloc _
   generalize (w.alloc (Obj.cells (List.toArray (ZZ m (.slice Af m.fields.length cf))) (74)))=Y at hBY eY ⊢
   have eY':Ext V Y:=e.trans eY
   refine zcr (U7 _ _) λ w3 e3=>?_
   have f3:Ext V w3:=eY'.trans e3
   cases hmn:YZ m.name with
   | false=>
    have hc:=hbad (-1) 1 (by unfold QW;rw [hmn];rfl) K7
    refine Qqk ?_
    unfold IY
    exact VH (EV.trans f3) sW (f3.obj oV) _ _ _ λ w' e'=>⟨_,rfl,VI hc K7,e'⟩
   | true=>
   simp (disch:=try exact DI) only [↓PR,QR,simprocAttr,Xw.c3 (eV.trans f3),hBY.c2 e3,IZ]
   refine zcr (W5 _ _ d m.name k ⟨_,rfl,hM0.ext (EV.trans f3)⟩ hk) λ w4 e4=>?_
   have f4:=f3.trans e4
   have hdi:=QH (p:=λ x:Yh=>decide (x.name=m.name)) (l:=d.msgs.take k)
   rw [← OS _ hdist] at hdi
   cases hls:(ZM (ZY (d.msgs.take k)) m.name).isSome with
   | true=>
    rw [hls] at hdi
    have hc:=hbad (-1) 2 (by unfold QW;rw [hmn,hls];rfl) K7
    refine Qqg hdi ?_
    unfold IX
    exact VH (EV.trans f4) sW (f4.obj oV) _ _ _ λ w' e'=>⟨_,rfl,VI hc K7,e'⟩
   | false=>
   rw [hls] at hdi
   have hcY4:=hBY.c2 (e3.trans e4)
   simp (disch:=try exact DI) only [↓PR,QR,simprocAttr,hdi,hcY4,↓Sh,↓MB,↓Sl,↓Sm,↓Sn,↓MC,↓MD,↓So,↓Sp,↓Si,↓Sj,↓IX,↓Sk,↓IY,↓IZ,↓I1,↓I2,↓I3,↓I4,↓I5,↓I6,↓I7,↓I8,↓I9]
   have hlen2:(decide ((m.fields.length:Int) < 1)||decide (40 < (m.fields.length:Int)))=!decide (1≤m.fields.length∧m.fields.length≤40):=by
    rw [Bool.eq_iff_iff];simp only [Bool.or_eq_true,decide_eq_true_eq,Bool.not_eq_true',decide_eq_false_iff_not];omega
   rw [hlen2]
   by_cases hl2:1≤m.fields.length∧m.fields.length≤40
   case neg=>
    have hc:=hbad (-1) 3 (by unfold QW;rw [hmn,hls,if_pos rfl,if_neg (by simp),if_neg hl2]) K7
    rw [show decide (1≤m.fields.length∧m.fields.length≤40)=false by simpa using hl2]
    exact VH (EV.trans f4) sW (f4.obj oV) _ _ _ λ w' e'=>⟨_,rfl,VI hc K7,e'⟩
   case pos=>
   have hnx:QW (ZY (d.msgs.take k)) (Yt (d.msgs.take k)) m=Uo (ZY (d.msgs.take k)) m (YE (ZY (d.msgs.take k)) (Yt (d.msgs.take k)) [] m.fields):=by
    unfold QW;rw [hmn,hls,if_pos rfl,if_neg (by simp),if_pos hl2]
   rw [show decide (1≤m.fields.length∧m.fields.length≤40)=true by simpa using hl2]
   refine Qqk ?_
   refine ZE (λ a w'=>∃ i:Nat,a = .int .i64 i∧i≤m.fields.length∧Ext w4 w'∧GA (ZY (d.msgs.take k)) (Yt (d.msgs.take k)) (m.fields.take i)) (λ b _=>m.fields.length - (intOf b).toNat) ⟨0,rfl,by omega,Ext.refl _,by intro j f h;simp at h⟩ ?_
   rintro _ w5 ⟨i,rfl,hi,e5,hff⟩
   have f5:=f4.trans e5
   have hsp:=hff.fields
   unfold Sp
   rcases ZH hi with ⟨f,hx,hdf,hltf,Pp⟩ | ⟨hi,hdf,Pp⟩
   · rw [hdf,YE] at hsp
     refine Qqb Pp (hBY.c2 (e3.trans (e4.trans e5))) (Xw.c3 (eV.trans f5)) ?_
     refine zcr (LK _ _ d k i m f ⟨_,rfl,hM0.ext (EV.trans f5)⟩ hm hx hdist hfine.refsIn hff.dist (NJ hfine) K9 hff.bounds) λ w6 e6=>?_
     have f6:=f5.trans e6
     by_cases h0:Xa (m.fields.take i) (vI (ZY (d.msgs.take k))) (vB (Yt (d.msgs.take k))) f=0
     · simp (disch:=try exact DI) only [↓PR,QR,simprocAttr,h0,MB,show ((0:Int) != 0)=false from rfl]
       exact ⟨⟨i+1,rfl,hltf,e5.trans e6,hff.step hx h0⟩,ZQ (kd := .i64) hltf⟩
     · rw [if_neg h0,List.length_take,Nat.min_eq_left K9] at hsp
       have hc:=hbad i _ (by rw [hnx,← hsp];unfold Uo;rw [if_neg h0]) h0
       simp (disch:=try exact DI) only [↓PR,QR,simprocAttr,MB,show (Xa (m.fields.take i) (vI (ZY (d.msgs.take k))) (vB (Yt (d.msgs.take k))) f != 0)=true by simpa using h0]
       unfold Sh
       exact VH (EV.trans f6) sW (f6.obj oV) _ _ _ λ w' e'=>⟨_,rfl,VI hc h0,e'⟩
   · subst hi
     rw [hdf,YE] at hsp
     rw [← hsp] at hnx
     have hfd:(YE (ZY (d.msgs.take k)) (Yt (d.msgs.take k)) [] m.fields).2=0:=by rw [← hsp]
     refine Qqh Pp (hBY.c2 (e3.trans (e4.trans e5))) ?_
     have hkl:k < d.msgs.length:=(Qqj hm).1
     have hlow:=hfine.low k
     rw [List.take_take,Nat.min_self] at hlow
     have hdm:=Kl (λ s=>(ZM (ZY (d.msgs.take k)) s).getD 0) (Dl m) 0 K7 (λ s _=>hlow.get s) K7
     have hlo5:bd < w5.heap.size:=by
      have:=(Qqq hL).1
      have h1:=eY.size
      have h2:=e3.size
      have h3:=e4.size
      have h4:=e5.size
      omega
     unfold So
     refine Qqg (hBY.c2 (e3.trans (e4.trans e5))) ?_
     refine Zs (je _ _ m ⟨_,rfl,hF0.ext (EV.trans (e.trans (eY.trans (e3.trans (e4.trans e5)))))⟩ (by have:=U8 _ _ _ _ hfd;omega)) ?_
     rintro rv w6 ⟨hS,e6⟩
     have f6:=f5.trans e6
     have hL6:KY w6 bd (jr d.msgs k):=((((hL.ext eY).ext e3).ext e4).ext e5).ext e6
     refine HA (Xw.ext eV) EV hM0 hkl hdist (Df (Zbp _) hfd) f6 K9 hL6 (FA _ K9) (O5 _ hkl) (NG _ hkl) hS hlo5 ?_
     intro w7 f7 hL7
     have hdp:0≤Q1 (ZY (d.msgs.take k)) m∧Q1 (ZY (d.msgs.take k)) m≤16:=hdm
     have hst:=NF hm
     generalize hDM:Q1 (ZY (d.msgs.take k)) m=dm at hL7 hdp hst
     have hlL:=FA d.msgs (k:=k) K9
     have hc7:=hL7.cell (k:=k) (n:=dm) (by rw [List.getElem?_set,if_pos rfl,if_pos K9])
     have hL8:=hL7.set k (dm+1)
     rw [List.set_set,hst] at hL8
     unfold MC
     simp (disch:=try exact DI) only [↓PR,QR,simprocAttr,hc7,hL7.free,show IntKind.i64.wrap (dm+1)=dm+1 from YF K9 K9]
     have f8:Ext V (w7.setCell ⟨bd,k*1,none⟩ (.int .i64 (dm+1))):=f7.setCell K9 _
     have htl:QW (ZY (d.msgs.take k)) (Yt (d.msgs.take k)) m=if dm < 16 then (-1,0) else (-1,10):=by rw [hnx];unfold Uo;rw [if_pos rfl,hDM]
     by_cases h16:dm < 16
     · rw [if_pos h16] at htl
       simp (disch:=try exact DI) only [↓PR,QR,simprocAttr,show decide (16 < dm+1)=false by simp only [decide_eq_false_iff_not];omega]
       rw [YF K9 K9]
       exact ⟨⟨k+1,rfl,Ym,f8,hL8,hfine.step hm (by rw [htl])⟩,ZQ (kd := .i64) Ym⟩
     · rw [if_neg h16] at htl
       have hc:=hbad _ _ htl K7
       simp (disch:=try exact DI) only [↓PR,QR,simprocAttr,show decide (16 < dm+1)=true by simp only [decide_eq_true_eq];omega]
       rw [YF K9 K9]
       unfold Sn
       exact VH (EV.trans f8) sW (f8.obj oV) _ _ _ λ w' e'=>⟨_,rfl,VI hc K7,e'⟩
 · subst hk
   rw [List.take_length] at hfine
   have hmp:Q5 [] [] 0 d.msgs=(0,0,0):=by
    have:=AG (l:=d.msgs) (k:=d.msgs.length) (by rw [List.take_length];exact hfine) (Nat.le_refl _)
    rw [this,List.drop_length];rfl
   have hcp:Xe d=if (ZM (ZY d.msgs) d.start).isSome then (0,0,0) else (-1,-1,11):=by
    unfold Xe;rw [if_pos hnm,if_pos hl,hmp];rfl
   simp (disch:=try exact DI) only [↓PR,QR,simprocAttr,ZK,hcW,I3]
   refine zcr (W5 _ _ d d.start d.msgs.length ⟨_,rfl,hM0.ext E⟩ (Nat.le_refl _)) λ w3 e3=>?_
   have f3:=e.trans e3
   have hdi:=Jq (p:=λ x:Yh=>decide (x.name=d.start)) (l:=d.msgs.take d.msgs.length)
   rw [← OS _ (by rw [List.take_length];exact hfine.dist)] at hdi
   rw [List.take_length] at hdi
   cases hls:(ZM (ZY d.msgs) d.start).isSome with
   | false=>
    rw [hls] at hdi hcp
    simp (disch:=try exact DI) only [↓PR,QR,simprocAttr,hdi,List.take_length]
    unfold I1
    exact VH (EV.trans f3) sW (f3.obj oV) _ _ _ λ w' e'=>⟨_,rfl,VI hcp K7,e'⟩
   | true=>
    rw [hls] at hdi hcp
    simp (disch:=try exact DI) only [↓PR,QR,simprocAttr,hdi,List.take_length,I2,(Za (f3.obj oV)).1,(Za (f3.obj oV)).2]
    rw [if_pos rfl] at hcp
    exact ⟨by unfold YI An;rw [hcp];rfl,(((EV.trans f3).setCell sW _).setCell sW _).setCell sW _⟩
def BC (w0:Wd) (v:Vl) (d:Xc) (hd:YM w0 v d):Ret Pg 37 #[v] w0 λ r w'=>r = .bool (!YI d)∧Ext w0 w':=by
 obtain ⟨mv,rfl,hM⟩:=hd
 have hm1:=Ze.oneCell hM
 refine ZlB (R:=ZR _) ?_;unfold n63
 refine Qqk ?_
 refine zcr (LD _ _ d ⟨mv,rfl,hM.ext ee⟩) λ w1 e1=>?_
 unfold ZcW
 refine Qqk ?_
 exact ⟨by first | trivial | rfl,ee⟩
section
variable {w0 D:Wd} {m:Xd} {d e:Xc} {rv dv ev:Vl} {p3 p4 p5 p6:Nat}
def Nh (w0:Wd) (o:Option (Int×Int×Int)):Ending→Wd→Prop:=ZR λ u w'=>u=AA o∧Ext w0 w'
def NB {w:Wd} (e:Ext w0 w) (l6:w0.heap.size≤p6) {x0 x1 x2:Vl} (o6:w.heap[p6]?=some (.cells #[x0,x1,x2] 34 (0,0))) (a f c:Int):MR (Qq4 p6) (.tuple #[Wj a f c,.bool true]) (Nh w0 (some (a,f,c))) w:=by
 unfold MR Nh
 refine Qqh (Za o6).1 (Za o6).2 ?_
 exact ⟨by trivial,((e.setCell (p:=⟨p6,0,none⟩) l6 _).setCell (p:=⟨p6,1,none⟩) l6 _).setCell (p:=⟨p6,2,none⟩) l6 _⟩
end
def EL (w0:Wd) (v:Vl) (x:FrD) (hx:Ws w0 v x) (hk:x.kind=1∨x.kind=7):Ret Pg 60 #[v] w0 λ r w'=>QZ w' w0.heap.size r (VD x)∧Ext w0 w':=by
 obtain ⟨bv,tv,rfl,hB,hT,b1,b2⟩:=hx.op
 refine Zle (R:=ZR _) ?_;unfold n40
 rw [Yi]
 have q1:=Zv w0 (ZC x bv tv).toArray 43
 have e1:Ext w0 (w0.alloc (.cells (ZC x bv tv).toArray 43)):=(Ext.refl w0).alloc _
 generalize (w0.alloc (.cells (ZC x bv tv).toArray 43))=W at q1 e1 ⊢
 obtain ⟨p1,hp1⟩:∃ p1,w0.heap.size=p1:=⟨_,rfl⟩
 rw [hp1] at q1 ⊢
 have c1:=(Za q1).1
 have fin:∀ (w:Wd) (l:List BAr),Ext w0 w→l.length≤1000→VD x=l→(QZ (w.alloc (.cells (l.map Value.string).toArray 9)) p1 (.slice (some ⟨w.heap.size,0,none⟩) l.length l.length) (VD x)∧Ext w0 (w.alloc (.cells (l.map Value.string).toArray 9))):=by
  intro w l e hl hw
  rw [hw]
  exact ⟨JZ w l hl (by have:=e.size;omega),e.alloc _⟩
 rcases hk with k1 | k7
 · simp (disch:=try exact DI) only [↓PR,QR,simprocAttr,c1,k1,Rz]
   exact fin W [x.to,⟨#[99,111,112,121]⟩,x.fr] e1 (by simp) (by unfold VD Fi TR;rw [if_pos k1,k1];rfl)
 · simp (disch:=try exact DI) only [↓PR,QR,simprocAttr,c1,k7,Ry,Rx,Zcb]
   exact fin W [x.to,⟨#[102,105,116]⟩] e1 (by simp) (by unfold VD Fi TR;rw [k7];rfl)
def Hv:∀ x∈[xR,Ut],(x.kind=1∨x.kind=7)∧J1 x=true∧(VD x).length≤3∧VD x≠[]∧(yg ⟨#[32]⟩ (VD x)).size≤100:=K7
section
variable {a0 w:Wd} {base bF:Nat} {lv:Vl} {ls:List BAr} {R:RT}
def Zd4 (e:Ext a0 w) (oF:a0.heap[bF]?=some (.cells (ZC xR Yv Yv++ZC Ut Yv Yv).toArray 43 (0,0))) (hO:QZ w base lv ls) (hb:base≤w.heap.size) (h0:a0.heap.size≤base) (hl:ls.length≤100) {Zu:Vl→Vl→Vl→Wd→Prop}
 (hK:∀ lv' w',Ext a0 w'→QZ w' base lv' (ls++[xR,Ut].map (λ x=>yg ⟨#[32]⟩ (VD x))++[⟨#[101,110,100]⟩])→base≤w'.heap.size→Zu (.bool true) lv' (.int .i64 1) w') :
 GF (λ t1004 t1005 t47 w XQ=>opV Pg (ZP .lss 3 false t47 (.int .i64 2)) (Zj R) w λ t48 w=>Zo t48 (Rf (.slice (some ⟨bF,0,none⟩) 2 2) t47 t1004 t1005 XQ R w) (Re (.int .i64 0) t1004 t1005 Zu R w)) (.bool true) lv (.int .i64 0) w:=by
 have hF:=DX oF rfl rfl rfl rfl
 obtain ⟨A',c',hv,_,_,_,YS⟩:=Ze.open hF
 injection hv with hv1 _ hv2
 subst hv1 hv2
 refine Uy (λ x y z w'=>∃ k:Nat,x = .bool true∧z = .int .i64 k∧k≤[xR,Ut].length∧Ext a0 w'∧QZ w' base y (ls++([xR,Ut].take k).map λ x=>yg ⟨#[32]⟩ (VD x))∧base≤w'.heap.size) (λ _ _ z _=>[xR,Ut].length - (intOf z).toNat) ⟨0,rfl,rfl,Nat.zero_le _,e,by simpa using hO,hb⟩ ?_
 rintro _ y _ w1 ⟨k,rfl,rfl,hk,e1,hO1,hb1⟩
 have YH:(ls++([xR,Ut].take k).map λ x=>yg ⟨#[32]⟩ (VD x)).length≤1000000:=by
  rw [List.length_append,List.length_map,List.length_take]
  simp only [List.length_cons,List.length_nil]
  omega
 rcases ZH hk with ⟨x,hx,_,Ym,ZK⟩ | ⟨hk,_,ZK⟩
 · obtain ⟨g1,g2,g3,g4,g5⟩:=Hv x (List.mem_of_getElem? hx)
   obtain ⟨b,o,cs,hA0,_,hA,hEx⟩:=YS k x hx
   injection hA0 with hA0
   injection hA0 with hA1 hA2
   subst hA1 hA2
   rw [Nat.zero_add] at hA
   obtain ⟨bv,tv,rfl,hB,hT,o1,o2⟩:=hEx.op
   have dk:(k:Int) < 2:=by simp only [List.length_cons,List.length_nil] at Ym;omega
   have hwk:IntKind.i64.wrap ((k:Int)+1)=(k:Int)+1:=YF K9 K9
   refine Qqh ZK dk ?_
   unfold Rf
   refine Qqh (hA.c7 e1) dk ?_
   have oV:=Zv w1 (ZC x bv tv).toArray 43
   have eV:Ext w1 (w1.alloc (.cells (ZC x bv tv).toArray 43)):=(Ext.refl w1).alloc _
   generalize (w1.alloc (.cells (ZC x bv tv).toArray 43))=V at oV eV ⊢
   generalize w1.heap.size=p9 at oV ⊢
   have EV:=e1.trans eV
   refine Qqg (Za oV).1 ?_
   refine zcr (Cc V _ x ⟨_,_,rfl,hB.ext EV,hT.ext EV⟩) λ w2 e2=>?_
   rw [g2]
   have E2:=EV.trans e2
   unfold ZbQ
   refine Qqg (Za (e2.obj oV)).1 ?_
   refine Zs (EL w2 _ x ⟨_,_,rfl,hB.ext E2,hT.ext E2⟩ g1) ?_
   rintro u w3 ⟨hu,e3⟩
   have E3:=E2.trans e3
   refine zcr (Fm hu ⟨#[32]⟩ (List.length_pos_iff.2 g4) K9 K9) λ w4 e4=>?_
   have E4:=E3.trans e4
   unfold ZbP
   have e14:=eV.trans (e2.trans (e3.trans e4))
   refine Ft (w0:=a0) (yg ⟨#[32]⟩ (VD x)) (hO1.ext e14) (by have:=e14.size;omega) YH E4 h0 λ v' w5 hO5 e5 hb5=>?_
   refine Qqg hwk ?_
   refine ⟨⟨k+1,by trivial,rfl,Ym,e5,?_,hb5⟩,ZQ (kd := .i64) Ym⟩
   rw [Xr hx,List.map_append,← List.append_assoc]
   exact hO5
 · subst hk
   rw [List.take_length] at hO1
   rw [List.take_length] at YH
   have d2:decide ((([xR,Ut].length:Nat):Int) < 2)=false:=K7
   refine Qqg d2 ?_
   unfold Re
   refine Ft (w0:=a0) ⟨#[101,110,100]⟩ hO1 hb1 YH e1 h0 λ v' w5 hO5 e5 hb5=>?_
   refine Qqk ?_
   exact hK v' w5 e5 hO5 hb5
end
def ZfM:BAr:=⟨#[109,97,112,112,105,110,103,32,109,10,109,97,112,32,65,32,65,10,110,32,102,105,116,10,98,32,99,111,112,121,32,98,10,101,110,100,10]⟩
def Za4 (w0:Wd) {w:Wd} {v:Vl} {bF bM:Nat} (h:T5 w w0 v bF bM):Ret Pg 25 #[v] w0 λ r w'=>r = .tuple #[.string ZfM,.int .i64 0]∧Ext w0 w':=by
 obtain ⟨_,_,_,Y3,oF,oM,rfl⟩:=h
 refine ZkU (R:=ZR _) ?_;unfold n18
 rw [Yi]
 have q1:=Zv w0 #[.string ⟨#[109]⟩,.slice (some ⟨bM,0,none⟩) 1 1] 24
 have e1:Ext w0 (w0.alloc (.cells #[.string ⟨#[109]⟩,.slice (some ⟨bM,0,none⟩) 1 1] 24)):=(Ext.refl w0).alloc _
 generalize (w0.alloc (.cells #[.string ⟨#[109]⟩,.slice (some ⟨bM,0,none⟩) 1 1] 24))=W at q1 e1 ⊢
 generalize w0.heap.size=p1 at q1 ⊢
 refine Qqg (Za q1).1 ?_
 refine Zs (Kt W ⟨#[109]⟩) ?_
 rintro _ w1 ⟨rfl,e2⟩
 have E2:=e1.trans e2
 have q2:=e2.obj q1
 unfold ZbV
 rw [show YZ ⟨#[109]⟩=true from rfl]
 refine Qqg (Za q2).1 ?_
 rw [JY _ _ _ _ K7,show (⟨#[109,97,112,112,105,110,103,32]⟩:BAr)++⟨#[109]⟩=⟨#[109,97,112,112,105,110,103,32,109]⟩ from rfl]
 simp (disch:=try exact DI) only [↓PR,QR,simprocAttr,λ o=>(Za (((Ext.refl w1).alloc o).obj q2)).1]
 have hO:=JZ w1 [⟨#[109,97,112,112,105,110,103,32,109]⟩] (by simp) E2.size
 have eV:Ext w1 (w1.alloc (.cells (([⟨#[109,97,112,112,105,110,103,32,109]⟩]:List BAr).map Value.string).toArray 9)):=(Ext.refl w1).alloc _
 change GF _ _ _ _ (w1.alloc (.cells (([⟨#[109,97,112,112,105,110,103,32,109]⟩]:List BAr).map Value.string).toArray 9))
 generalize (w1.alloc (.cells (([⟨#[109,97,112,112,105,110,103,32,109]⟩]:List BAr).map Value.string).toArray 9))=V at hO eV ⊢
 have EV:=E2.trans eV
 have cM:=(Za (EV.obj oM)).1
 refine Uy (λ x y z w'=>x = .bool true∧Ext w0 w'∧((z = .int .i64 0∧Ext V w'∧QZ w' w0.heap.size y [⟨#[109,97,112,112,105,110,103,32,109]⟩])∨(z = .int .i64 1∧QZ w' w0.heap.size y ([⟨#[109,97,112,112,105,110,103,32,109]⟩,⟨#[109,97,112,32,65,32,65]⟩]++[xR,Ut].map (λ x=>yg ⟨#[32]⟩ (VD x))++[⟨#[101,110,100]⟩])))) (λ _ _ z _=>1 - (intOf z).toNat) ⟨rfl,EV,.inl ⟨rfl,Ext.refl V,hO⟩⟩ ?_
 rintro _ y _ w3 ⟨rfl,e3,h⟩
 unfold ZbU
 rcases h with ⟨rfl,eW,hO3⟩ | ⟨rfl,hO3⟩
 · refine Qqk ?_
   unfold ZbT
   try unfold X0
   rw [XS underlying22 qe bM 0 1 1 .i64 0 K7 K7,show 0+(0:Int).toNat*3=0 from rfl]
   refine Qqg (Za (e3.obj oM)).1 ?_
   have o7:=Zv w3 #[.string ⟨#[65]⟩,.string ⟨#[65]⟩,.slice (some ⟨bF,0,none⟩) 2 2] 60
   have eX:Ext w3 (w3.alloc (.cells #[.string ⟨#[65]⟩,.string ⟨#[65]⟩,.slice (some ⟨bF,0,none⟩) 2 2] 60)):=(Ext.refl w3).alloc _
   have sX:(w3.alloc (.cells #[.string ⟨#[65]⟩,.string ⟨#[65]⟩,.slice (some ⟨bF,0,none⟩) 2 2] 60)).heap.size=w3.heap.size+1:=World.size_alloc ..
   rw [← sX]
   generalize (w3.alloc (.cells #[.string ⟨#[65]⟩,.string ⟨#[65]⟩,.slice (some ⟨bF,0,none⟩) 2 2] 60))=X at o7 eX ⊢
   generalize w3.heap.size=p7 at o7 ⊢
   refine Zs (Lk X ⟨#[65]⟩ ⟨#[65]⟩) ?_
   rintro _ w ⟨rfl,e4⟩
   have E4:=e3.trans (eX.trans e4)
   replace o7:=e4.obj o7
   have hO:=hO3.ext (eX.trans e4)
   have lo7:y.ownBlock≠some p7:=XD hO o7 K7
   unfold ZbR
   rw [show (YZ ⟨#[65]⟩&&YZ ⟨#[65]⟩)=true from rfl]
   refine Qqg (Za o7).1 ?_
   rw [JY _ _ _ _ K7,JY _ _ _ _ K7]
   refine Qqg (Za o7).1 ?_
   rw [JY _ _ _ _ K7,show (⟨#[109,97,112,32]⟩:BAr)++⟨#[65]⟩++⟨#[32]⟩++⟨#[65]⟩=⟨#[109,97,112,32,65,32,65]⟩ from rfl]
   refine Qqk ?_
   have oY:(w.alloc (.cells #[.string ⟨#[109,97,112,32,65,32,65]⟩] 9)).cell? ⟨w.heap.size,0,none⟩=some (.string ⟨#[109,97,112,32,65,32,65]⟩):=by rw [Vd];rfl
   have eY:Ext w (w.alloc (.cells #[.string ⟨#[109,97,112,32,65,32,65]⟩] 9)):=(Ext.refl w).alloc _
   generalize (w.alloc (.cells #[.string ⟨#[109,97,112,32,65,32,65]⟩] 9))=Y at oY eY ⊢
   refine Kg ⟨#[109,97,112,32,65,32,65]⟩ (hO.ext eY) oY (by have:=E4.size;have:=eY.size;omega) K7 ?_
   intro v' w' hO' hg
   have e':Ext w0 w':=(E4.trans eY).grown hg λ b hb=>(World.ownsRow.lt hO b hb).1
   have l7:=(Qqq o7).1
   have o7':=(hg.block p7 (by have:=eY.size;omega) λ e=>lo7 e.symm).trans (eY.obj o7)
   refine Qqg (Za o7').1 ?_
   exact Zd4 e' oF hO' e'.size (Nat.le_refl _) K7 λ lv' w5 e5 hO5 hb5=>⟨⟨rfl,e5,.inr ⟨rfl,hO5⟩⟩,by decide⟩
 · refine Qqk ?_
   unfold ZbS
   refine zcr (Fm hO3 ⟨#[10]⟩ K7 K7 K7) λ w4 e4=>?_
   rw [JY _ _ _ _ K7]
   refine Qqk ?_
   exact ⟨by rfl,e3.trans e4⟩
def Ob (w0:Wd) (hE:xg w0) (s t k:List UInt8) (hs:s.length≤100) (hc:QE 32 s=[t,k]) (hk:∀ x∈[⟨#[99,111,112,121]⟩,⟨#[97,100,100]⟩,⟨#[118,97,108,117,101]⟩,⟨#[98,121,116,101,115]⟩,⟨#[116,97,98,108,101]⟩,⟨#[110,101,115,116,101,100]⟩,(⟨#[102,105,116]⟩:BAr)],decide (mkB k=x)=false) :
 Ret Pg 51 #[.string (mkB s)] w0 λ r w'=>Ext w0 w'∧r = .tuple #[.agg (ZC ⟨mkB t,0,ByteArray.empty,0,0,[],[]⟩ Yv Yv).toArray,.bool false]:=by
 refine Zlg (R:=ZR _) ?_;unfold n42
 refine Qqk ?_
 have oV:=Zv w0 #[.string Qqz,.int .i64 0,.string Qqz,.int .i64 0,.int .i64 0,.slice none 0 0,.slice none 0 0] 43
 have eV:Ext w0 (w0.alloc (.cells #[.string Qqz,.int .i64 0,.string Qqz,.int .i64 0,.int .i64 0,.slice none 0 0,.slice none 0 0] 43)):=(Ext.refl w0).alloc _
 have sV:(w0.alloc (.cells #[.string Qqz,.int .i64 0,.string Qqz,.int .i64 0,.int .i64 0,.slice none 0 0,.slice none 0 0] 43)).heap.size=w0.heap.size+1:=World.size_alloc ..
 generalize (w0.alloc (.cells #[.string Qqz,.int .i64 0,.string Qqz,.int .i64 0,.int .i64 0,.slice none 0 0,.slice none 0 0] 43))=V at oV eV sV ⊢
 refine Zs (Du (hE.ext eV).env s 32 K9) ?_
 rintro _ w1 ⟨e1,rfl,hW⟩
 rw [hc] at hW ⊢
 rw [show ([t,k]:List (List UInt8)).length=2 from rfl] at hW ⊢
 have o1:=e1.obj oV
 have nb:V.heap.size≠w0.heap.size:=K9
 generalize hp2:w0.heap.size=p2 at oV o1 nb ⊢
 generalize V.heap.size=b0 at hW nb ⊢
 obtain ⟨A,c,hv,_,_,_,YS⟩:=Ze.open hW
 injection hv with hv1 _ _
 obtain ⟨b',o',cs,hA0,_,hA,rfl⟩:=YS 0 (mkB t) rfl
 obtain ⟨b'',o'',cs,hA1,_,hAk,rfl⟩:=YS 1 (mkB k) rfl
 rw [← hv1] at hA0 hA1
 injection hA0 with hA0
 injection hA0 with g1 g2
 subst g1 g2
 injection hA1 with hA1
 injection hA1 with g1 g2
 subst g1 g2
 have ct:w1.cell? ⟨b0,0,none⟩=some (.string (mkB t)):=hA.c1 (Ext.refl w1)
 have ck:w1.cell? ⟨b0,1,none⟩=some (.string (mkB k)):=hAk.c1 (Ext.refl w1)
 unfold RI
 refine Qqk ?_
 unfold RH
 try unfold X0
 rw [XS underlying94 ty9 b0 0 2 2 .i64 0 K7 K7,show 0+(0:Int).toNat*1=0 from rfl]
 refine Qqb ct (Za o1).1 (Za o1).2 ?_
 have oX:=Zy (o:=0) o1 (.string (mkB t))
 have eX:Ext w0 (w1.setCell ⟨p2,0,none⟩ (.string (mkB t))):=(eV.trans e1).setCell (p:=⟨p2,0,none⟩) (show w0.heap.size≤p2 by omega) _
 have ckX:(w1.setCell ⟨p2,0,none⟩ (.string (mkB t))).cell? ⟨b0,1,none⟩=some (.string (mkB k)):=by rw [Xs (.inl nb)];exact ck
 generalize (w1.setCell ⟨p2,0,none⟩ (.string (mkB t)))=X at oX eX ckX ⊢
 refine (Ht underlying94 ty9 b0 0 2 2 2 2 K7 K7).mpr ?_
 refine Qqk ?_
 have hE2:=JZ X [ByteArray.empty,ByteArray.empty] (by simp) (Nat.le_refl _)
 have eY:Ext X (X.alloc (.cells (([ByteArray.empty,ByteArray.empty]:List BAr).map Value.string).toArray 9)):=(Ext.refl X).alloc _
 change opV _ _ _ (X.alloc (.cells (([ByteArray.empty,ByteArray.empty]:List BAr).map Value.string).toArray 9)) _
 generalize (X.alloc (.cells (([ByteArray.empty,ByteArray.empty]:List BAr).map Value.string).toArray 9))=Y at hE2 eY ⊢
 refine DJ (l:=[]) (l':=[ByteArray.empty,ByteArray.empty]) (λ j x hx=>by simp at hx) (Bv hE2) (by simp) (by simp) (by simp) ?_
 intro t27 Z hO27 eZ
 have eXZ:=eY.trans eZ
 have oZ:Z.heap[p2]?=some (.cells (ZC ⟨mkB t,0,ByteArray.empty,0,0,[],[]⟩ Yv Yv).toArray 43 (0,0)):=eXZ.obj oX
 try unfold X0
 rw [XS underlying94 ty9 b0 0 2 2 .i64 1 K7 K7,show 0+(1:Int).toNat*1=1 from rfl]
 simp (disch:=try exact DI) only [↓PR,QR,simprocAttr,eXZ.cell ckX,hk ⟨#[99,111,112,121]⟩ (by simp)]
 simp (disch:=try exact DI) only [↓PR,QR,simprocAttr,RG,hk ⟨#[97,100,100]⟩ (by simp)]
 simp (disch:=try exact DI) only [↓PR,QR,simprocAttr,RF,hk ⟨#[118,97,108,117,101]⟩ (by simp)]
 simp (disch:=try exact DI) only [↓PR,QR,simprocAttr,RE,hk ⟨#[98,121,116,101,115]⟩ (by simp)]
 simp (disch:=try exact DI) only [↓PR,QR,simprocAttr,RD,hk ⟨#[116,97,98,108,101]⟩ (by simp)]
 simp (disch:=try exact DI) only [↓PR,QR,simprocAttr,RC,hk ⟨#[110,101,115,116,101,100]⟩ (by simp)]
 simp (disch:=try exact DI) only [↓PR,QR,simprocAttr,RB,hk ⟨#[102,105,116]⟩ (by simp)]
 unfold RA
 have q:=Za oZ
 refine Qqh q.1 q.2 ?_
 rw [xW KE oZ (vs:=ZC ⟨mkB t,0,ByteArray.empty,0,0,[],[]⟩ Yv Yv) rfl (Nat.le_refl _) (by intro v hv;simp only [List.mem_cons,List.not_mem_nil,or_false] at hv;rcases hv with rfl | rfl | rfl | rfl | rfl | rfl | rfl<;>rfl)]
 have e3:=Pc (Ext.refl Z) oZ (vs:=ZC ⟨mkB t,0,ByteArray.empty,0,0,[],[]⟩ Yv Yv)
 have o3:=e3.obj oZ
 generalize (Xi Z p2 0 (ZC ⟨mkB t,0,ByteArray.empty,0,0,[],[]⟩ Yv Yv))=Z3 at e3 o3 ⊢
 refine Qqg (Za o3).1 ?_
 exact ⟨eX.trans (eXZ.trans e3),by trivial⟩
section
variable {w0 w:Wd} {p2 b16:Nat} {nm:BAr} {x t q u:List UInt8} {whole:Bool} {K1:KV} {Zx:Vl→Vl→Vl→Wd→Prop} {R:RT} {k:Nat}
def ZdH (hE:xg w) (hk:k < 2) (XC:w.cell? ⟨b16,k*1,none⟩=some (.string (mkB u))) (hu:u.length≤100) (hu1:Go.Lib.hasSuffix u [10]=whole) (hu2:Go.Lib.trimSuffix u [10]=x) (hx:x.length≤100) (hx0:decide (mkB x=⟨#[]⟩)=false) (hc:QE 32 x=[t,q])
 (hkw:∀ x∈[⟨#[99,111,112,121]⟩,⟨#[97,100,100]⟩,⟨#[118,97,108,117,101]⟩,⟨#[98,121,116,101,115]⟩,⟨#[116,97,98,108,101]⟩,⟨#[110,101,115,116,101,100]⟩,(⟨#[102,105,116]⟩:BAr)],decide (mkB q=x)=false)
 (hK:∀ w' t12 bw t43,Ext w w'→w'.cell? ⟨bw,0,none⟩=some (.string (mkB t))→w'.cell? ⟨bw,1,none⟩=some (.string (mkB q))→(whole=false→t43 = .bool false) →
  Ee (Qq4 p2) (.int .i64 0) (.bool false) t12 (.int .i64 k) (.string (mkB x)) (.bool whole) (.slice (some ⟨bw,0,none⟩) 2 2) (.bool false) (.bool (!whole)) t43 K1 Zx R w') :
 IG (Qq4 p2) (.int .i64 0) (.bool false) (.slice (some ⟨b16,0,none⟩) 2 2) (.int .i64 k) K1 Zx R w:=by
 have dk:(k:Int) < 2:=K9
 unfold IG
 refine Qqh dk XC ?_
 refine Zs (B2 w u 10 K9) ?_
 rintro _ w' ⟨rfl,rfl⟩
 rw [hu1,hu2]
 unfold Rc
 refine Qqk ?_
 refine Zs (Du hE.env x 32 K9) ?_
 rintro _ w1 ⟨e1,rfl,hW⟩
 rw [hc] at hW ⊢
 rw [show ([t,q]:List (List UInt8)).length=2 from rfl] at hW ⊢
 refine Zs (Ob w1 (hE.ext e1) x t q hx hc hkw) ?_
 rintro _ w2 ⟨e2,rfl⟩
 obtain ⟨A,c,hv,_,_,_,YS⟩:=Ze.open hW
 injection hv with hv1 _ _
 obtain ⟨b',o',cs,hA0,_,hA,rfl⟩:=YS 0 (mkB t) rfl
 obtain ⟨b'',o'',cs,hA1,_,hAk,rfl⟩:=YS 1 (mkB q) rfl
 rw [← hv1] at hA0 hA1
 injection hA0 with hA0
 injection hA0 with g1 g2
 subst g1 g2
 injection hA1 with hA1
 injection hA1 with g1 g2
 subst g1 g2
 have ct:=hA.c1 (Ext.refl w1)
 have ck:=hAk.c1 (Ext.refl w1)
 unfold Rb
 have e3:Ext w2 (w2.alloc (.cells (ZC ⟨mkB t,0,ByteArray.empty,0,0,[],[]⟩ Yv Yv).toArray 43)):=(Ext.refl w2).alloc _
 refine Qqk ?_
 have e13:=e2.trans e3
 cases whole with
 | true=>
  refine Qqk ?_
  exact hK _ _ _ _ (e1.trans e13) (e13.cell ct) (e13.cell ck) (λ h=>by cases h)
 | false=>
  refine Qqg hx0 ?_
  exact hK _ _ _ _ (e1.trans e13) (e13.cell ct) (e13.cell ck) (λ _=>rfl)
end
def Za3 (w0:Wd) (hE:xg w0):Ret Pg 22 #[.string ⟨#[109,97,112,112,105,110,103,32,109,10,109,97,112,32,65]⟩] w0 λ r w'=>Ext w0 w'∧∃ rv,r = .tuple #[.agg (ZL ⟨ByteArray.empty,[]⟩ rv).toArray,.int .i64 2,.int .i64 6]∧rv.oneCell'=true:=by
 refine ZkT (R:=ZR _) ?_;unfold n17
 refine Qqk ?_
 have oV:=Zv w0 (ZL ⟨ByteArray.empty,[]⟩ (.slice none 0 0)).toArray 24
 have eV:Ext w0 (w0.alloc (.cells (ZL ⟨ByteArray.empty,[]⟩ (.slice none 0 0)).toArray 24)):=(Ext.refl w0).alloc _
 change Yb _ _ _ _ (w0.alloc (.cells (ZL ⟨ByteArray.empty,[]⟩ (.slice none 0 0)).toArray 24)) _
 generalize (w0.alloc (.cells (ZL ⟨ByteArray.empty,[]⟩ (.slice none 0 0)).toArray 24))=V at oV eV ⊢
 refine Zs (jR (hE.ext eV).env [109,97,112,112,105,110,103,32,109,10,109,97,112,32,65] 10 K7) ?_
 rintro _ w1 ⟨e1,rfl,oL⟩
 rw [ZfN] at oL ⊢
 have o1:=e1.obj oV
 have n12:V.heap.size≠w0.heap.size:=by have:=(Qqq oV).1;omega
 generalize hp2:w0.heap.size=p2 at o1 n12 ⊢
 generalize V.heap.size=b16 at oL n12 ⊢
 unfold Rd
 refine Qqk ?_
 refine Uy (λ a b c w=>a = .int .i64 0∧b = .bool false∧Ext w0 w∧w.heap[b16]?=some (.cells #[.string (mkB [109,97,112,112,105,110,103,32,109,10]),.string (mkB [109,97,112,32,65])] 9 (0,0))∧((c = .int .i64 0∧w.heap[p2]?=some (.cells #[.string Qqz,.slice none 0 0] 24 (0,0)))∨(c = .int .i64 1∧w.heap[p2]?=some (.cells #[.string ⟨#[109]⟩,.slice none 0 0] 24 (0,0))))) (λ _ _ c _=>2 - (intOf c).toNat) ⟨rfl,rfl,eV.trans e1,oL,.inl ⟨rfl,o1⟩⟩ ?_
 rintro _ _ _ w ⟨rfl,rfl,e,oL,h⟩
 rcases h with ⟨rfl,o2⟩ | ⟨rfl,o2⟩
 · refine Qqk ?_
   refine ZdH (k:=0) (hE.ext e) K7 (u:=[109,97,112,112,105,110,103,32,109,10]) (by rw [(Za oL).1];rfl) K7 (whole:=true) K7 (x:=[109,97,112,112,105,110,103,32,109]) K7 K7 K7 (t:=[109,97,112,112,105,110,103]) (q:=[109]) K7 K7 ?_
   intro w2 t12 bw t43 e2 ct cq _
   unfold Ee IF IE
   refine Qqk ?_
   unfold Ra P9 P8
   have dm:decide (mkB [109,97,112,112,105,110,103]=⟨#[109,97,112,112,105,110,103]⟩)=true:=K7
   refine Qqk ?_
   try unfold X0
   rw [XS underlying94 ty9 bw 0 2 2 .i64 0 K7 K7,show 0+(0:Int).toNat*1=0 from rfl]
   refine Qqh ct dm ?_
   try unfold X0
   rw [XS underlying94 ty9 bw 0 2 2 .i64 1 K7 K7,show 0+(1:Int).toNat*1=1 from rfl]
   refine Qqg cq ?_
   refine Zs (Kt w2 (mkB [109])) ?_
   rintro _ w3 ⟨rfl,e3⟩
   rw [show YZ (mkB [109])=true from rfl]
   unfold P7 P6
   have q:=Za ((e2.trans e3).obj o2)
   refine Qqg dm ?_
   try unfold X0
   rw [XS underlying94 ty9 bw 0 2 2 .i64 1 K7 K7,show 0+(1:Int).toNat*1=1 from rfl]
   refine Qqb (e3.cell cq) q.1 q.2 ?_
   refine ⟨⟨by trivial,by trivial,(e.trans (e2.trans e3)).setCell (p:=⟨p2,0,none⟩) (show w0.heap.size≤p2 by omega) _,?_,.inr ⟨by trivial,?_⟩⟩,by decide⟩
   · exact (e2.trans e3).obj oL
   · exact Zy (o:=0) ((e2.trans e3).obj o2) (.string (mkB [109]))
 · refine Qqk ?_
   refine ZdH (k:=1) (hE.ext e) K7 (u:=[109,97,112,32,65]) (by rw [(Za oL).1];rfl) K7 (whole:=false) K7 (x:=[109,97,112,32,65]) K7 K7 K7 (t:=[109,97,112]) (q:=[65]) K7 K7 ?_
   intro w2 t12 bw t43 e2 ct cq h43
   rw [h43 rfl]
   unfold Ee IF IE
   have q2:=Za (e2.obj o2)
   unfold ZbO
   refine Qqh q2.1 q2.2 ?_
   exact ⟨((e.trans e2).setCell (p:=⟨p2,0,none⟩) (show w0.heap.size≤p2 by omega) _).setCell (p:=⟨p2,1,none⟩) (show w0.heap.size≤p2 by omega) _,_,rfl,rfl⟩
def D0 (w0:Wd) (hE:xg w0):Ret Pg 12 #[] w0 λ r w'=>r = .bool true∧Ext w0 w':=by
 refine Zli (R:=ZR _) ?_;unfold n44
 refine Zs (Gs w0) ?_
 rintro v1 w1 ⟨_,_,hP1⟩
 refine zcr (Za4 w1 hP1) λ w2 e2=>?_
 unfold ZfM
 have E2:=hP1.e.trans e2
 clear hP1 e2
 unfold R1 Zm
 refine Qqk ?_
 unfold R0 Zm
 refine Qqk ?_
 refine Zs (Gs w2) ?_
 rintro v3 w3 ⟨_,_,hP3⟩
 unfold RZ
 refine Zs (XA w3) ?_
 rintro v4 w4 ⟨hD4,e4⟩
 refine Zs (XA w4) ?_
 rintro v5 w5 ⟨hD5,e5⟩
 refine zcr (It w5 _ _ _ EK Ys Ys (hP3.val.ext (e4.trans e5)) (hD4.ext e5) hD5 (Zd7 _ (by simp))) λ w6 e6=>?_
 rw [ZaG]
 have E6:=E2.trans (hP3.e.trans (e4.trans (e5.trans e6)))
 clear hP3 hD4 hD5 e4 e5 e6 E2
 refine Qqk ?_
 unfold RY
 refine Qqk ?_
 refine Zs (Gs w6) ?_
 rintro v7 w7 ⟨bF1,bM1,hP7⟩
 refine Zs (Gs w7) ?_
 rintro v8 w8 ⟨bF2,bM2,hP8⟩
 unfold RX
 rw [hP7.v,hP8.v]
 refine Qqk ?_
 have a1:=Zv w8 #[.string ⟨#[109]⟩,.slice (some ⟨bM1,0,none⟩) 1 1] 24
 have ea:Ext w8 (w8.alloc (.cells #[.string ⟨#[109]⟩,.slice (some ⟨bM1,0,none⟩) 1 1] 24)):=(Ext.refl w8).alloc _
 have sa:(w8.alloc (.cells (Value.agg #[.string Qqz,.slice none 0 0]).cells 24)).heap.size=w8.heap.size+1:=World.size_alloc ..
 have sa':(w8.alloc (.cells #[.string ⟨#[109]⟩,.slice (some ⟨bM1,0,none⟩) 1 1] 24)).heap.size=w8.heap.size+1:=World.size_alloc ..
 rw [sa]
 generalize (w8.alloc (.cells #[.string ⟨#[109]⟩,.slice (some ⟨bM1,0,none⟩) 1 1] 24))=A at a1 ea sa' ⊢
 have a2:=Zv A #[.string ⟨#[109]⟩,.slice (some ⟨bM2,0,none⟩) 1 1] 24
 have eb:Ext A (A.alloc (.cells #[.string ⟨#[109]⟩,.slice (some ⟨bM2,0,none⟩) 1 1] 24)):=(Ext.refl A).alloc _
 rw [sa'] at a2
 generalize (A.alloc (.cells #[.string ⟨#[109]⟩,.slice (some ⟨bM2,0,none⟩) 1 1] 24))=B at a2 eb ⊢
 refine ZB ?_
 have eD:Ext B (drew B):=(Ext.refl B).drew
 generalize (drew B)=D at eD ⊢
 have l8:=hP8.e.size
 have l7:=hP7.e.size
 have lF1:=hP7.lF
 have lM1:=hP7.lM
 have lF2:=hP8.lF
 have lM2:=hP8.lM
 have nF1:=(Qqq hP7.oF).1
 have nM1:=(Qqq hP7.oM).1
 have nF2:=(Qqq hP8.oF).1
 have nM2:=(Qqq hP8.oM).1
 have nn1:=hP7.ne
 have nn2:=hP8.ne
 have eBD:=(ea.trans eb).trans eD
 have o3:=(eb.trans eD).obj a1
 have o4:=eD.obj a2
 have oM1:=(hP8.e.trans eBD).obj hP7.oM
 have oF1:=(hP8.e.trans eBD).obj hP7.oF
 have oM2:=eBD.obj hP8.oM
 have oF2:D.heap[bF2]?=some (.cells #[.string ⟨#[110]⟩,.int .i64 7,.string ⟨#[]⟩,.int .i64 0,.int .i64 0,Yv,Yv,.string ⟨#[98]⟩,.int .i64 1,.string ⟨#[98]⟩,.int .i64 0,.int .i64 0,Yv,Yv] 43 (0,0)):=eBD.obj hP8.oF
 have E0:Ext w0 D:=E6.trans (hP7.e.trans (hP8.e.trans eBD))
 have h06:=E6.size
 generalize w8.heap.size=p3 at *
 unfold RW
 refine Qqg (Za o3).1 ?_
 rw [YG λ QP w' k'=>XS (k:=k') underlying22 qe bM1 0 1 1 .i64 0 K7 K7,show 0+(0:Int).toNat*3=0 from rfl]
 refine Qqg (Za oM1).1 ?_
 refine (YG (s:=sliceAt 58 (.slice (some ⟨bF1,0,none⟩) 2 2) none (some (.int .i64 1)) none) λ QP w' k'=>Uk underlying58 KE bF1 0 2 2 .i64 1 K7).mpr ?_
 refine Qqk ?_
 rw [YG λ QP w' k'=>XS (k:=k') underlying22 qe bM1 0 1 1 .i64 0 K7 K7,show 0+(0:Int).toNat*3=0 from rfl]
 refine Qqh (Za oM1).1 (Za oM1).2 ?_
 refine XL ?_
 have k1:∀ b,b≠bM1→(D.setCell ⟨bM1,2,none⟩ (.slice (some ⟨bF1,0,none⟩) 1 2)).heap[b]?=D.heap[b]?:=λ b hb=>YT.setCell D bM1 2 _ b hb
 have E1:Ext w0 (D.setCell ⟨bM1,2,none⟩ (.slice (some ⟨bF1,0,none⟩) 1 2)):=E0.setCell (p:=⟨bM1,2,none⟩) (show w0.heap.size≤bM1 by omega) _
 replace oM1:=Zy (o:=2) oM1 (.slice (some ⟨bF1,0,none⟩) 1 2)
 replace oF1:=(k1 bF1 K9).trans oF1
 replace oM2:=(k1 bM2 K9).trans oM2
 replace oF2:=(k1 bF2 K9).trans oF2
 replace o3:=(k1 p3 K9).trans o3
 replace o4:=(k1 (p3+1) K9).trans o4
 clear k1 E0 eD eBD
 generalize (D.setCell ⟨bM1,2,none⟩ (.slice (some ⟨bF1,0,none⟩) 1 2))=S at *
 unfold RV
 refine Qqg (Za o4).1 ?_
 try unfold X0
 rw [XS underlying22 qe bM2 0 1 1 .i64 0 K7 K7,show 0+(0:Int).toNat*3=0 from rfl]
 refine Qqg (Za oM2).1 ?_
 try unfold X0
 rw [XS underlying58 KE bF2 0 2 2 .i64 0 K7 K7,show 0+(0:Int).toNat*7=0 from rfl]
 refine Qqh (Za oF2).1 (Za oF2).2 ?_
 refine (xW KE oF2 (vs:=ZC yK Yv Yv) rfl K7 (by intro v hv;simp only [List.mem_cons,List.not_mem_nil,or_false] at hv;rcases hv with rfl | rfl | rfl | rfl | rfl | rfl | rfl<;>rfl)).mpr ?_
 have kk:∀ b,b≠bF2→(Xi S bF2 0 (ZC yK Yv Yv)).heap[b]?=S.heap[b]?:=λ b hb=>UP _ _ _ b hb
 have E2:Ext w0 (Xi S bF2 0 (ZC yK Yv Yv)):=KD _ _ _ _ E1 K9
 have oF2':(Xi S bF2 0 (ZC yK Yv Yv)).heap[bF2]?=some (.cells (ZC yK Yv Yv++ZC Ut Yv Yv).toArray 43 (0,0)):=(VF (ZC yK Yv Yv) 0 oF2).trans rfl
 replace oF1:=(kk bF1 K9).trans oF1
 replace oM1:=(kk bM1 K9).trans oM1
 replace oM2:=(kk bM2 K9).trans oM2
 replace o3:=(kk p3 K9).trans o3
 replace o4:=(kk (p3+1) K9).trans o4
 clear kk E1 oF2
 generalize (Xi S bF2 0 (ZC yK Yv Yv))=Q at *
 have hM3:YN Q (.agg #[.string ⟨#[109]⟩,.slice (some ⟨bM1,0,none⟩) 1 1]) Fa:=⟨_,rfl,D6 (r:=⟨⟨#[65]⟩,⟨#[65]⟩,[xR]⟩) oM1 ⟨_,_,rfl,by decide,by decide,λ _=>⟨bF1,0,rfl,λ k x hx=>by
  match k,hx with
  | 0,hx=>
   cases hx
   exact ⟨_,rfl,λ j v hv=>by
    rw [(Za oF1).1]
    have hj:j < 7:=(Qqj hv).1
    have hs:0+0*7+j=j:=K9
    rw [hs,List.getElem?_toArray,List.getElem?_append_left hj]
    exact hv,DW _ _ rfl rfl⟩
  | _+1,hx=>simp at hx⟩⟩⟩
 have hM4:YN Q (.agg #[.string ⟨#[109]⟩,.slice (some ⟨bM2,0,none⟩) 1 1]) Fk:=⟨_,rfl,D6 (r:=⟨⟨#[65]⟩,⟨#[65]⟩,[yK,Ut]⟩) oM2 (DX oF2' rfl rfl rfl rfl)⟩
 refine ZB ?_
 have eH:Ext Q (drew Q):=(Ext.refl Q).drew
 generalize (drew Q)=H at eH ⊢
 unfold RU Zm
 refine Qqg (Za (eH.obj o3)).1 ?_
 have hin3:=Zd7 Fa (by simp)
 have hin4:=Zd7 Fk (by simp)
 have go2:∀ w' p,FlR H w' p 0 (-1) 10→Yg w' λ C7 w=>IQ (.pointer (some ⟨p3+1,0,none⟩)) (Qq4 p) (.bool true) C7 (ZR λ r w'=>r = .bool true∧Ext w0 w') w:=by
  rintro w9 p5 ⟨e9,o5⟩
  refine ZB ?_
  have eI:Ext w9 (drew w9):=(Ext.refl w9).drew
  generalize (drew w9)=I at eI ⊢
  have eQI:=eH.trans (e9.trans eI)
  replace o5:=eI.obj o5
  have oI4:=eQI.obj o4
  have hMI:=hM4.ext eQI
  have go3:∀ w' p,FlR I w' p 0 0 5→IJ (Qq4 p5) (.bool true) (Qq4 p) (.bool true) (ZR λ r w'=>r = .bool true∧Ext w0 w') w':=by
   rintro w10 p7 ⟨e10,o7⟩
   replace o5:=e10.obj o5
   have E3:=E2.trans (eQI.trans e10)
   unfold IJ Zm
   have d1:(!(decide ((0:Int)=0)&&(decide ((-1:Int) = -1)&&(decide ((10:Int)=10)&&true))))=false:=K7
   have d2:(!(decide ((0:Int)=0)&&(decide ((0:Int)=0)&&(decide ((5:Int)=5)&&true))))=false:=K7
   refine Qqm (Za o5).1 (Za o7).1 d1 d2 ?_
   unfold RO Zm
   refine Qqh d1 d2 ?_
   unfold RN Zm
   refine Qqk ?_
   unfold RM
   refine Qqk ?_
   have r1:=Zv w10 (Xh ⟨1,2,9⟩).toArray 78
   have er:Ext w10 (w10.alloc (.cells (Xh ⟨1,2,9⟩).toArray 78)):=(Ext.refl w10).alloc _
   change Yb _ _ _ _ ((w10.alloc (.cells (Xh ⟨1,2,9⟩).toArray 78)).alloc _) (λ t91 w=>R2 (.pointer (some ⟨(w10.alloc (.cells (Xh ⟨1,2,9⟩).toArray 78)).heap.size,0,none⟩)) t91 _ w)
   generalize (w10.alloc (.cells (Xh ⟨1,2,9⟩).toArray 78))=X at r1 er ⊢
   have r2:=Zv X (ZC xu Yv (.slice (some ⟨w10.heap.size,0,none⟩) 1 1)).toArray 43
   have ex:Ext X (X.alloc (.cells (ZC xu Yv (.slice (some ⟨w10.heap.size,0,none⟩) 1 1)).toArray 43)):=(Ext.refl X).alloc _
   change Yb _ _ _ _ (X.alloc (.cells (ZC xu Yv (.slice (some ⟨w10.heap.size,0,none⟩) 1 1)).toArray 43)) _
   generalize (X.alloc (.cells (ZC xu Yv (.slice (some ⟨w10.heap.size,0,none⟩) 1 1)).toArray 43))=Y at r2 ex ⊢
   have hRow:Q0 Y (.slice (some ⟨w10.heap.size,0,none⟩) 1 1) xu.table:=U9 (l:=xu.table) (ex.obj r1) K7 λ k z hz=>by
    match k,hz with
    | 0,hz=>cases hz;exact ⟨_,rfl,rfl,rfl⟩
    | _+1,hz=>simp [xu] at hz
   have hTab:Ws Y (.agg (ZC xu Yv (.slice (some ⟨w10.heap.size,0,none⟩) 1 1)).toArray) xu:=⟨_,_,rfl,Ze.nil ..,hRow⟩
   generalize X.heap.size=p9 at *
   refine zcr (Jt Y _ ZfL 3 ⟨Yv,Yv,rfl,Ze.nil ..,Ze.nil ..⟩ K7) λ w11 e11=>?_
   rw [ZkL]
   unfold R2
   refine Qqg (Za (e11.obj r2)).1 ?_
   refine zcr (Jt w11 _ xu 2 (hTab.ext e11) K7) λ w12 e12=>?_
   rw [ZkM]
   unfold Zcp
   refine Qqg (Za (e12.obj (e11.obj r2))).1 ?_
   refine zcr (Jt w12 _ xu 3 (hTab.ext (e11.trans e12)) K7) λ w13 e13=>?_
   rw [ZkN]
   have E4:=E3.trans (er.trans (ex.trans (e11.trans (e12.trans e13))))
   unfold Zco
   refine Qqk ?_
   refine Zs (Za3 w13 (hE.ext E4)) ?_
   rintro _ w14 ⟨e14,rv,rfl,t1⟩
   unfold Zcn Zm
   refine Qqk ?_
   unfold Zcm Zm
   refine Qqk ?_
   unfold Zcl Zm
   refine Qqk ?_
   unfold Zck Zm
   refine Qqk ?_
   unfold Zcj Zm
   refine Qqk ?_
   unfold Zci Zm
   refine Qqk ?_
   refine ⟨by trivial,?_⟩
   exact (E4.trans e14).alloc _
  unfold IQ Zm
  refine Qqg (Za oI4).1 ?_
  exact ⟨Zjh (Ext.refl I) hMI hin4 Mo go3,Zji (Ext.refl I) hMI hin4 Mo go3⟩
 exact ⟨Zjf (Ext.refl H) (hM3.ext eH) hin3 Mn go2,Zjg (Ext.refl H) (hM3.ext eH) hin3 Mn go2⟩
abbrev TrC (w0:Wd):Ending→Wd→Prop:=ZR λ r w'=>r = .bool true∧Ext w0 w'
def Mq {w0 w:Wd} (hE:xg w0) (e:Ext w0 w):Yb Pg 12 #[] (Zj (TrC w0)) w λ t w=>TrC w0 (.returned t) w:=by
 refine zcr (D0 w (hE.ext e)) λ w1 e9=>?_
 refine Qqk ?_
 exact ⟨by trivial,e.trans e9⟩
section
variable {w0 w1 w:Wd} {p2 p4 p7:Nat} {nm n:BAr} {rv fv:Vl} {done:List MrD} {fs:List FrD} {f:Zt} {K3:WPr} {R:RT}
def NC (f:Zt):0≤YV f:=by unfold YV;repeat' (first | omega | split)
def Tx (h:InI w1 w p7 n fv fs) (hl:fs.length≤1048576)
 (hK:∀ w' fv',InI w1 w' p7 n fv' (fs++[⟨f.name,6,f.name,0,0,[],[]⟩])→K3 w'):SF (Qq4 p7) (.string f.name) K3 R w:=by
 unfold SF
 refine Qqg (Za h.o7).1 ?_
 have eV:Ext w (w.alloc (.cells (Vr ⟨f.name,6,f.name,0,0,[],[]⟩).toArray 43)):=(Ext.refl w).alloc _
 have oV:=Zv w (Vr ⟨f.name,6,f.name,0,0,[],[]⟩).toArray 43
 change opV _ _ _ (w.alloc (.cells (Vr ⟨f.name,6,f.name,0,0,[],[]⟩).toArray 43)) _
 generalize (w.alloc (.cells (Vr ⟨f.name,6,f.name,0,0,[],[]⟩).toArray 43))=V at eV oV ⊢
 refine Kf ⟨f.name,6,f.name,0,0,[],[]⟩ (h.own.ext eV) oV (Nat.le_trans h.e.size eV.size) hl ?_
 intro v' w' hO' hg
 have o7:=Vg (h.own.ext eV) hg (eV.obj h.o7) K7
 have v1:v'.oneCell'=true:=Ze.oneCell (hO'.slice (E:=λ _ cs x=>cs=Vr x) (λ _=>rfl) (λ _ _=>rfl))
 refine Qqh (Za o7).1 (Za o7).2 ?_
 exact hK _ _ (h.add _ eV hO' hg)
def Tw (h:InI w1 w p7 n fv fs) (hl:fs.length≤1048576)
 (hK:∀ w' fv',InI w1 w' p7 n fv' (fs++[⟨f.name,1,f.name,0,0,[],[]⟩])→K3 w'):SE (Qq4 p7) (.string f.name) K3 R w:=by
 unfold SE
 refine Qqg (Za h.o7).1 ?_
 have eV:Ext w (w.alloc (.cells (Vr ⟨f.name,1,f.name,0,0,[],[]⟩).toArray 43)):=(Ext.refl w).alloc _
 have oV:=Zv w (Vr ⟨f.name,1,f.name,0,0,[],[]⟩).toArray 43
 change opV _ _ _ (w.alloc (.cells (Vr ⟨f.name,1,f.name,0,0,[],[]⟩).toArray 43)) _
 generalize (w.alloc (.cells (Vr ⟨f.name,1,f.name,0,0,[],[]⟩).toArray 43))=V at eV oV ⊢
 refine Kf ⟨f.name,1,f.name,0,0,[],[]⟩ (h.own.ext eV) oV (Nat.le_trans h.e.size eV.size) hl ?_
 intro v' w' hO' hg
 have o7:=Vg (h.own.ext eV) hg (eV.obj h.o7) K7
 have v1:v'.oneCell'=true:=Ze.oneCell (hO'.slice (E:=λ _ cs x=>cs=Vr x) (λ _=>rfl) (λ _ _=>rfl))
 refine Qqh (Za o7).1 (Za o7).2 ?_
 exact hK _ _ (h.add _ eV hO' hg)
def Oa {k:Nat} {Zx:KV} (h:InI w1 w p7 n fv fs) (hl:fs.length≤1048576) (hk:k≤1000000000)
 (hN:∀ w' fv',InI w1 w' p7 n fv' (fs++(idF f).toList)→Zx (.int .i64 ((k:Int)+1)) w'):SG (Qq4 p7) (.int .i64 k) (.string f.name) (.int .i64 (YV f)) Zx R w:=by
 have hwk:IntKind.i64.wrap ((k:Int)+1)=(k:Int)+1:=YF K9 K9
 unfold SG Zm
 rcases xr f with ⟨h0,h1⟩ | ⟨h0,h1⟩ | ⟨h0,h2,h1⟩
 · rw [h1] at hN
   rw [h0]
   refine Qqg hwk ?_
   exact hN _ _ (by simpa using h)
 · rw [h1] at hN
   have d1:decide (YV f > 3)=true:=by simp only [decide_eq_true_eq];omega
   refine Qqg d1 ?_
   refine Tx h hl λ w' fv' h'=>?_
   exact hN _ _ h'
 · rw [h1] at hN
   have d1:decide (YV f > 3)=false:=by simp only [decide_eq_false_iff_not];omega
   have d2:decide (YV f > 0)=true:=by simp only [decide_eq_true_eq];have:=NC f;omega
   refine Qqh d1 d2 ?_
   refine Tw h hl λ w' fv' h'=>?_
   exact hN _ _ h'
def Za6 {k:Nat} {Zu:KV} (h:IdS w0 w1 p2 p4 nm rv done) (hi:InI w1 w p7 n fv fs) (hp:∀ x∈fs,EJ x) (hl:done.length≤1048576) (hk:k≤1000000000)
 (hN:∀ w' rv',IdS w0 w' p2 p4 nm rv' (done++[⟨n,n,fs⟩])→Zu (.int .i64 ((k:Int)+1)) w'):SH (Qq4 p4) (.int .i64 k) (Qq4 p7) Zu R w:=by
 have hwk:IntKind.i64.wrap ((k:Int)+1)=(k:Int)+1:=YF K9 K9
 have h0:=h.go hi.e
 obtain ⟨css,hO,hM⟩:=h0.row
 have u1:fv.oneCell'=true:=Ze.oneCell (hi.own.slice (E:=λ _ cs x=>cs=Vr x) (λ _=>rfl) (λ _ _=>rfl))
 have u2:rv.oneCell'=true:=Ze.oneCell h0.read
 unfold SH
 refine Qqh (Za h0.o4).1 (Za hi.o7).1 ?_
 have eV:Ext w (w.alloc (.cells (ZT ⟨n,n,fs⟩ fv).toArray 60)):=(Ext.refl w).alloc _
 have oV:=Zv w (ZT ⟨n,n,fs⟩ fv).toArray 60
 change opV _ _ _ (w.alloc (.cells (ZT ⟨n,n,fs⟩ fv).toArray 60)) _
 generalize (w.alloc (.cells (ZT ⟨n,n,fs⟩ fv).toArray 60))=V at eV oV ⊢
 have hml:css.length=done.length:=hM.1
 refine xo (x:=⟨ZT ⟨n,n,fs⟩ fv,rfl⟩) (λ u hu=>?_) (hO.ext eV) oV (Nat.le_trans h0.e.size eV.size) K9 ?_
 · simp only [List.mem_cons,List.not_mem_nil,or_false] at hu
   rcases hu with rfl | rfl | rfl<;>first | rfl | assumption
 intro v' w' hO' hg
 have hOV:=hO.ext eV
 have o4:=Vg hOV hg (eV.obj h0.o4) K7
 have o2:=Vg hOV hg (eV.obj h0.o2) K7
 have e':Ext w0 w':=(h0.e.trans eV).grown hg λ b hb=>(World.ownsRow.lt hO b hb).1
 have v1:v'.oneCell'=true:=Ze.oneCell (hO'.slice (E:=λ _ cs x=>cs=x.1) (λ x=>x.2) (λ _ _=>rfl))
 refine Qqb (Za o4).1 (Za o4).2 hwk ?_
 have hc:Chg p4 w' (w'.setCell ⟨p4,1,none⟩ v'):=⟨by rw [World.size_setCell];exact Nat.le_refl _,λ b _ hb=>YT.setCell _ p4 _ _ b hb⟩
 have hnew:EId w w0.heap.size (ZT ⟨n,n,fs⟩ fv) ⟨n,n,fs⟩:=⟨fv,rfl,hi.own.base h.e.size,hp⟩
 refine hN _ v' ⟨e'.setCell (p:=⟨p4,1,none⟩) h.l4 _,h.l2,h.l4,h.ne,(YT.setCell _ p4 _ _ p2 h.ne).trans o2,Zy (o:=1) o4 v',css++[⟨ZT ⟨n,n,fs⟩ fv,rfl⟩],QN hO' hc (XD hO' o4 K7),Gn (hM.imp λ _ _ q=>((q.ext eV).grow hOV hg K7).chg hc o4 K7) ⟨rfl,λ j y cs hx hcs=>?_⟩⟩
 cases j with
 | succ j=>simp at hx
 | zero=>
  simp at hx hcs
  subst hx hcs
  exact ((hnew.ext eV).grow hOV hg K7).chg hc o4 K7
end
def Cd (w0:Wd) (v:Vl) (d:Xc) (hd:YM w0 v d) (hb:d.msgs.length≤1000000) (hb2:∀ x∈d.msgs,x.fields.length≤1000000):Ret Pg 29 #[v] w0 λ u w'=>YN w' u (idM d)∧Ext w0 w':=by
 obtain ⟨mv,rfl,hM⟩:=hd
 have hm1:=Ze.oneCell hM
 obtain ⟨A,c,rfl,hlc,hcm,hlm,YS⟩:=Ze.open hM
 refine ZlO (R:=ZR _) ?_;unfold n76
 rw [Yi]
 have o1:=Zv w0 (ZO d (.slice A d.msgs.length c)).toArray 27
 have e1:Ext w0 (w0.alloc (.cells (ZO d (.slice A d.msgs.length c)).toArray 27)):=(Ext.refl w0).alloc _
 have s1:(w0.alloc (.cells (ZO d (.slice A d.msgs.length c)).toArray 27)).heap.size=w0.heap.size+1:=World.size_alloc ..
 generalize (w0.alloc (.cells (ZO d (.slice A d.msgs.length c)).toArray 27))=W1 at o1 e1 s1 ⊢
 have o2:=Zv W1 (ZL ⟨ByteArray.empty,[]⟩ Yv).toArray 24
 have e2:Ext W1 (W1.alloc (.cells (ZL ⟨ByteArray.empty,[]⟩ Yv).toArray 24)):=(Ext.refl W1).alloc _
 have oA:=e2.obj o1
 have qA:∀ j,(W1.alloc (.cells #[Value.string ByteArray.empty,Value.slice none 0 0] 24)).cell? ⟨w0.heap.size,j,none⟩=(ZO d (.slice A d.msgs.length c)).toArray[j]?:=(Za oA).1
 refine Qqg qA ?_
 have e:Ext w0 (W1.alloc (.cells #[Value.string ByteArray.empty,Value.slice none 0 0] 24)):=e1.trans e2
 have o4:=Zv (W1.alloc (.cells #[Value.string ByteArray.empty,Value.slice none 0 0] 24)) #[.string d.name,Yv] 24
 have e4:Ext (W1.alloc (.cells #[Value.string ByteArray.empty,Value.slice none 0 0] 24)) ((W1.alloc (.cells #[Value.string ByteArray.empty,Value.slice none 0 0] 24)).alloc (.cells #[.string d.name,Yv] 24)):=(Ext.refl _).alloc _
 have s2:(W1.alloc (.cells #[Value.string ByteArray.empty,Value.slice none 0 0] 24)).heap.size=W1.heap.size+1:=World.size_alloc ..
 rw [s2] at o4
 have oB:=e4.obj oA
 have o24:=e4.obj o2
 have e04:=e.trans e4
 simp only [World.size_alloc]
 have e14:=e2.trans e4
 generalize ((W1.alloc (Obj.cells #[Value.string ByteArray.empty,Value.slice none 0 0] 24)).alloc (Obj.cells #[Value.string d.name,Value.slice none 0 0] 24))=V at o4 o24 e14 ⊢
 clear qA e4 oA oB o2 e2 e e04
 have l4:W1.heap.size≤W1.heap.size+1:=K9
 have n24:W1.heap.size≠W1.heap.size+1:=K9
 have hS0:IdS W1 V W1.heap.size (W1.heap.size+1) d.name Yv []:=⟨e14,Nat.le_refl _,l4,n24,o24,o4,[],Yc.nil _ _ _ _ _,rfl,λ k x cs hx=>by simp at hx⟩
 generalize W1.heap.size+1=p4 at hS0 ⊢
 generalize W1.heap.size=p2 at hS0 ⊢
 generalize w0.heap.size=p1 at o1 ⊢
 refine ZE (λ i w=>∃ (k:Nat) (rv:Vl),i = .int .i64 k∧k≤d.msgs.length∧IdS W1 w p2 p4 d.name rv ((d.msgs.take k).map idR)) (λ i _=>d.msgs.length - (intOf i).toNat) ⟨0,Yv,rfl,by omega,hS0⟩ ?_
 rintro _ w ⟨k,rv,rfl,hk,hS⟩
 have q1:=hS.e.obj o1
 unfold Zdb
 rcases ZH hk with ⟨x,hx,_,Ym,ZK⟩ | ⟨hke,_,ZK⟩
 · obtain ⟨b,o,cs,rfl,_,hA,fv,rfl,hF⟩:=YS k x hx
   have t2:=Ze.oneCell hF
   have hxl:=hb2 x (List.mem_of_getElem? hx)
   have dk:(k:Int) < (d.msgs.length:Int):=K9
   obtain ⟨A2,c2,rfl,hlc2,hcm2,hlm2,hel2⟩:=Ze.open hF
   have hq:=hA.c2 (e1.trans hS.e)
   refine Qqh (Za q1).1 ZK ?_
   unfold Zda
   have o5:=Zv w #[.string x.name,.slice A2 x.fields.length c2] 74
   have e5:Ext w (w.alloc (.cells #[.string x.name,.slice A2 x.fields.length c2] 74)):=(Ext.refl w).alloc _
   refine Qqb (Za q1).1 dk hq ?_
   simp only [World.size_setCell,World.size_alloc]
   have s5:(w.alloc (.cells #[.string x.name,.slice A2 x.fields.length c2] 74)).heap.size=w.heap.size+1:=World.size_alloc ..
   generalize (w.alloc (.cells #[.string x.name,.slice A2 x.fields.length c2] 74))=B at o5 e5 s5 ⊢
   have o7:=Zv B (ZT ⟨x.name,x.name,[]⟩ Yv).toArray 60
   have e7:Ext B (B.alloc (.cells (ZT ⟨x.name,x.name,[]⟩ Yv).toArray 60)):=(Ext.refl B).alloc _
   change Yz _ _ (B.alloc (.cells (ZT ⟨x.name,x.name,[]⟩ Yv).toArray 60))
   generalize (B.alloc (.cells (ZT ⟨x.name,x.name,[]⟩ Yv).toArray 60))=C at o7 e7 ⊢
   have hI0:InI B C (w.heap.size+1) x.name Yv []:=by rw [← s5];exact ⟨e7,Nat.le_refl _,o7,Yc.nil _ _ _ _ _⟩
   generalize w.heap.size+1=p7 at hI0 ⊢
   generalize w.heap.size=p5 at o5 ⊢
   have hSB:=hS.go e5
   refine ZE (λ i w'=>∃ (j:Nat) (fv:Vl),i = .int .i64 j∧j≤x.fields.length∧InI B w' p7 x.name fv ((x.fields.take j).filterMap idF)) (λ i _=>x.fields.length - (intOf i).toNat) ⟨0,Yv,rfl,by omega,hI0⟩ ?_
   rintro _ w2 ⟨j,fv,rfl,hj,hI⟩
   have q5:=hI.e.obj o5
   unfold Zc9
   rcases ZH hj with ⟨f,hf',_,hlt2,Jo⟩ | ⟨hje,_,Jo⟩
   · obtain ⟨b3,o3,cs,rfl,_,hA3,tv,cv,rfl,hT,hC⟩:=hel2 j f hf'
     have u1:=Ze.oneCell hT
     have u2:=Ze.oneCell hC
     have dj:(j:Int) < (x.fields.length:Int):=K9
     have ew2:=e1.trans (hSB.e.trans hI.e)
     have hq3:=hA3.c15 ew2
     have hfl:((x.fields.take j).filterMap idF).length≤1048576:=Nat.le_trans (List.length_filterMap_le _ _) (by rw [List.length_take];omega)
     refine Qqh (Za q5).1 Jo ?_
     unfold Zc8
     refine Qqb (Za q5).1 dj hq3 ?_
     refine Zs (Ni w2 _ f ⟨tv,cv,rfl,Z8.ext hT ew2,Yu.ext hC ew2⟩) ?_
     rintro _ w5 ⟨rfl,e5'⟩
     refine Oa (hI.go e5') hfl K9 λ w' fv' h'=>?_
     exact ⟨⟨j+1,fv',rfl,hlt2,by rw [Jl hf'];exact h'⟩,ZQ (kd := .i64) hlt2⟩
   · rw [hje,List.take_length] at hI
     refine Qqh (Za q5).1 Jo ?_
     refine Za6 hSB hI (λ y hy=>?_) (by rw [List.length_map,List.length_take];omega) K9 λ w' rv' h'=>?_
     · obtain ⟨g,_,hg⟩:=List.mem_filterMap.1 hy
       exact CE hg
     · exact ⟨⟨k+1,rv',rfl,Ym,by rw [Xr hx,List.map_append];exact h'⟩,ZQ (kd := .i64) Ym⟩
 · rw [hke,List.take_length] at hS
   have u2:rv.oneCell'=true:=Ze.oneCell hS.read
   refine QqZ (Za q1).1 ZK (Za hS.o4).1 (Za hS.o2).1 (Za hS.o2).2 ?_
   have hc:Chg p2 w ((w.setCell ⟨p2,0,none⟩ (.string d.name)).setCell ⟨p2,1,none⟩ rv):=⟨by rw [World.size_setCell,World.size_setCell];exact Nat.le_refl _,λ b _ hb=>(YT.setCell _ p2 1 _ b hb).trans (YT.setCell w p2 0 _ b hb)⟩
   obtain ⟨css,h6,h7⟩:=hS.row
   have hM':VG ((w.setCell ⟨p2,0,none⟩ (.string d.name)).setCell ⟨p2,1,none⟩ rv) rv (d.msgs.map idR):=(QN h6 hc (XD h6 hS.o2 K7)).reads (h7.imp λ _ _ q=>(q.chg hc hS.o2 K7).mr)
   exact ⟨⟨_,rfl,hM'⟩,e1.trans ((hS.e.setCell (p:=⟨p2,0,none⟩) hS.l2 _).setCell (p:=⟨p2,1,none⟩) hS.l2 _)⟩
def Hz (w0:Wd) (v1 v2 v3:Vl) (m:Xd) (d e:Xc) (hm:YN w0 v1 m) (hd:YM w0 v2 d) (he:YM w0 v3 e) (hn:YZ m.name=false):Ret Pg 15 #[v1,v2,v3] w0 λ u w'=>u=AA (W7 m d e)∧Ext w0 w':=by
 obtain ⟨rv,rfl,hR,t1⟩:=hm.op
 obtain ⟨dv,rfl,hD⟩:=hd
 obtain ⟨ev,rfl,hE⟩:=he
 have t2:=Ze.oneCell hD
 have t3:=Ze.oneCell hE
 refine ZlM (R:=ZR _) ?_;unfold n74
 change opV Pg _ (Zj (Nh w0 (W7 m d e))) w0 _
 rw [Yi]
 have o3:=Zv w0 (ZL m rv).toArray 24
 have e3:Ext w0 (w0.alloc (.cells (ZL m rv).toArray 24)):=(Ext.refl w0).alloc _
 generalize (w0.alloc (.cells (ZL m rv).toArray 24))=W at o3 e3 ⊢
 generalize w0.heap.size=p3 at o3 ⊢
 rw [Yi]
 have o4:=Zv W (ZO d dv).toArray 27
 have e4:Ext W (W.alloc (.cells (ZO d dv).toArray 27)):=(Ext.refl W).alloc _
 generalize (W.alloc (.cells (ZO d dv).toArray 27))=X at o4 e4 ⊢
 generalize W.heap.size=p4 at o4 ⊢
 rw [Yi]
 have o5:=Zv X (ZO e ev).toArray 27
 have e5:Ext X (X.alloc (.cells (ZO e ev).toArray 27)):=(Ext.refl X).alloc _
 generalize (X.alloc (.cells (ZO e ev).toArray 27))=Y at o5 e5 ⊢
 generalize X.heap.size=p5 at o5 ⊢
 have o3:=e5.obj (e4.obj o3)
 have o4:=e5.obj o4
 have eY:=e3.trans (e4.trans e5)
 have o6:=Zv Y #[.int .i64 0,.int .i64 0,.int .i64 0] 34
 have e6:Ext Y (Y.alloc (.cells #[.int .i64 0,.int .i64 0,.int .i64 0] 34)):=(Ext.refl Y).alloc _
 have q4:=(Za (e6.obj o4)).1
 refine Qqg q4 ?_
 change Yb _ _ _ (Zj (Nh w0 (W7 m d e))) (Y.alloc (.cells #[.int .i64 0,.int .i64 0,.int .i64 0] 34)) _
 have l6:w0.heap.size≤Y.heap.size:=eY.size
 generalize (Y.alloc (.cells #[.int .i64 0,.int .i64 0,.int .i64 0] 34))=D at o6 e6 ⊢
 clear q4
 generalize Y.heap.size=p6 at o6 l6 ⊢
 have o3:=e6.obj o3
 have o4:=e6.obj o4
 have o5:=e6.obj o5
 have eD:=eY.trans e6
 have bad:∀ {w:Wd} (_:Ext D w) (c:Int),W7 m d e=some (-1,-1,c)→Yb Pg 38 #[.int .i64 (-1),.int .i64 (-1),.int .i64 c] (Zj (Nh w0 (W7 m d e))) w λ t w=>MR (Qq4 p6) t (Nh w0 (W7 m d e)) w:=by
  intro w x c hc
  rw [hc]
  refine zcr (NW w _ _ _) λ w3 f3=>?_
  exact NB (eD.trans (x.trans f3)) l6 ((x.trans f3).obj o6) _ _ _
 refine zcr (BC D _ d ⟨_,rfl,hD.ext eD⟩) λ w1 f1=>?_
 unfold Sz
 cases hfd:YI d with
 | true=>
  have hc:W7 m d e=some (-1,-1,0):=by unfold W7;rw [hfd];rfl
  refine Qqk ?_
  unfold La
  refine Qqk ?_
  exact bad f1 0 hc
 | false=>
  refine Qqg (Za (f1.obj o5)).1 ?_
  refine zcr (BC w1 _ e ⟨_,rfl,hE.ext (eD.trans f1)⟩) λ w2 f2=>?_
  have F2:=f1.trans f2
  unfold La
  cases hfe:YI e with
  | true=>
   have hc:W7 m d e=some (-1,-1,0):=by unfold W7;rw [hfd,hfe];rfl
   refine Qqk ?_
   exact bad F2 0 hc
  | false=>
   refine Qqk ?_
   unfold Sy
   refine Qqg (Za (F2.obj o3)).1 ?_
   refine zcr (U7 w2 m.name) λ w3 f3=>?_
   have F3:=F2.trans f3
   unfold Sx
   cases hnm:YZ m.name with
   | false=>
    have hc:W7 m d e=some (-1,-1,1):=by unfold W7;rw [hfd,hfe,hnm];rfl
    refine Qqk ?_
    exact bad F3 1 hc
   | true=>rw [hn] at hnm;cases hnm
def NT {d:Xc}:W7 ⟨ByteArray.empty,[]⟩ d d=some (-1,-1,if YI d=true then 0 else 1):=by
 unfold W7
 cases hf:YI d<;>simp<;>rfl
section
variable {w0 D w:Wd} {p2 p5:Nat} {x:Xd} {d:Xc} {mv xv:Vl} {ec:Int}
def ZaD (hE:xg w0) (e0:Ext w0 D) (e:Ext D w) (o5:w.heap[p5]?=some (.cells (ZL ⟨ByteArray.empty,[]⟩ xv).toArray 24 (0,0))) (hX:VG w xv []) :
 RK (Qq4 p5) (.int .i64 2) (TrC w0) w:=by
 have t1:=Ze.oneCell hX
 unfold RK
 refine Qqg (Za o5).1 ?_
 refine zcr (jQ w _ _ ⟨ByteArray.empty,[]⟩ ⟨ByteArray.empty,[]⟩ ⟨xv,rfl,hX⟩ ⟨Yv,rfl,Ze.nil ..⟩) λ w1 e1=>?_
 have dm:decide ((⟨ByteArray.empty,[]⟩:Xd)=⟨ByteArray.empty,[]⟩)=true:=by simp
 rw [dm]
 unfold Zcc Zm
 refine Qqk ?_
 refine zcr (D0 w1 (hE.ext (e0.trans (e.trans e1)))) λ w2 e2=>?_
 refine Qqk ?_
 exact ⟨by trivial,e0.trans (e.trans (e1.trans e2))⟩
def Pt (hE:xg w0) (e0:Ext w0 w) (o5:w.heap[p5]?=some (.cells (ZL (idM d) xv).toArray 24 (0,0))) (hX:VG w xv (idM d).rules) (o2:w.heap[p2]?=some (.cells (ZO d mv).toArray 27 (0,0))) (hD:Va w mv d.msgs) (hb:d.msgs.length≤1000000) (hb2:∀ x∈d.msgs,x.fields.length≤1000000) :
 Yg w λ C7 w=>RJ (Qq4 p2) (Qq4 p5) (.int .i64 0) C7 (TrC w0) w:=by
 have t1:=Ze.oneCell hX
 have t2:=Ze.oneCell hD
 refine ZB ?_
 have eD:Ext w (drew w):=(Ext.refl w).drew
 generalize (drew w)=D at eD ⊢
 unfold RJ
 refine Qqh (Za (eD.obj o5)).1 (Za (eD.obj o2)).1 ?_
 refine Zs (Cd D _ d ⟨_,rfl,hD.ext eD⟩ hb hb2) ?_
 rintro u w1 ⟨hu,e1⟩
 refine ⟨e1,?_⟩
 refine zcr (jQ w1 _ _ (idM d) (idM d) ⟨xv,rfl,hX.ext (eD.trans e1)⟩ hu) λ w2 e2=>?_
 refine ⟨e1.trans e2,?_⟩
 have dm:decide (idM d=idM d)=true:=by simp
 rw [dm]
 unfold Zcd Zm
 refine Qqk ?_
 refine zcr (D0 w2 (hE.ext (e0.trans (eD.trans (e1.trans e2))))) λ w3 e3=>?_
 refine ⟨e1.trans (e2.trans e3),?_⟩
 refine Qqk ?_
 exact ⟨by trivial,e0.trans (eD.trans (e1.trans (e2.trans e3)))⟩
end
def KQ (w0:Wd) (hE:xg w0) (v0 v1:Vl) (d:Xc) (m:Xd) (hd:YM w0 v0 d) (hm:YN w0 v1 m):Ret Pg 8 #[v0,v1] w0 λ r w'=>r = .bool true∧Ext w0 w':=by
 obtain ⟨rv,rfl,hR,t1⟩:=hm.op
 obtain ⟨mv,rfl,hD⟩:=hd
 have t2:=Ze.oneCell hD
 refine Zlh (R:=ZR _) ?_;unfold n43
 change opV Pg _ (Zj (TrC w0)) w0 _
 rw [Yi]
 have o2:=Zv w0 (ZO d mv).toArray 27
 have e2:Ext w0 (w0.alloc (.cells (ZO d mv).toArray 27)):=(Ext.refl w0).alloc _
 generalize (w0.alloc (.cells (ZO d mv).toArray 27))=X at o2 e2 ⊢
 generalize w0.heap.size=p2 at o2 ⊢
 rw [Yi]
 have o3:=Zv X (ZL m rv).toArray 24
 have e3:Ext X (X.alloc (.cells (ZL m rv).toArray 24)):=(Ext.refl X).alloc _
 generalize (X.alloc (.cells (ZL m rv).toArray 24))=Y at o3 e3 ⊢
 generalize X.heap.size=p3 at o3 ⊢
 have o2:=e3.obj o2
 have eY:=e2.trans e3
 have hm':∀ w,Ext Y w→YN w (.agg (ZL m rv).toArray) m:=λ w x=>⟨_,rfl,hR.ext (eY.trans x)⟩
 have hd':∀ w,Ext Y w→YM w (.agg (ZO d mv).toArray) d:=λ w x=>⟨_,rfl,hD.ext (eY.trans x)⟩
 refine Qqg (Za o2).1 ?_
 refine zcr (TY Y _ d (hd' Y (Ext.refl Y))) λ w1 f1=>?_
 change II _ _ _ (TrC w0) w1
 unfold II Zm
 cases hwd:HV d with
 | true=>
  refine Qqk ?_
  unfold IH
  refine Qqk ?_
  exact Mq hE (eY.trans f1)
 | false=>
  obtain ⟨g1,g2⟩:=Zbi hwd
  refine Qqg (Za (f1.obj o3)).1 ?_
  refine zcr (NR w1 _ m (hm' w1 f1)) λ w2 f2=>?_
  have F2:=f1.trans f2
  unfold IH
  cases hlg:Au m with
  | true=>
   refine Qqk ?_
   exact Mq hE (eY.trans F2)
  | false=>
   obtain ⟨hrl,_,hno⟩:=NP hlg
   refine Qqg (Za (F2.obj o2)).1 ?_
   refine Zs (Dx w2 _ d (hd' w2 F2) K9 λ x hx=>by have:=g2 x hx;omega) ?_
   rintro r w3 ⟨f3,u,hu⟩
   have hu':∃ x ec,r = .tuple #[u,.int .i64 ec]∧YN w3 u x∧((YI d=true∧x=⟨ByteArray.empty,[]⟩∧ec=2)∨(YI d=false∧x=idM d∧ec=0)):=by
    rcases hu with ⟨h1,h2,h3⟩ | ⟨h1,h2,h3⟩
    · exact ⟨_,_,h2,h3,.inl ⟨h1,rfl,rfl⟩⟩
    · exact ⟨_,_,h2,h3,.inr ⟨h1,rfl,rfl⟩⟩
   clear hu
   obtain ⟨x,ec,rfl,hxv,hx⟩:=hu'
   obtain ⟨xv,rfl,hX,t3⟩:=hxv.op
   have F3:=F2.trans f3
   unfold Zch
   have o5:=Zv w3 (ZL x xv).toArray 24
   have e5:Ext w3 (w3.alloc (.cells (ZL x xv).toArray 24)):=(Ext.refl w3).alloc _
   refine Qqk ?_
   change Yg (w3.alloc (.cells (ZL x xv).toArray 24)) λ C2 w=>RL _ _ _ _ C2 (TrC w0) w
   generalize (w3.alloc (.cells (ZL x xv).toArray 24))=A at o5 e5 ⊢
   generalize w3.heap.size=p5 at o5 ⊢
   refine ZB ?_
   have eD:Ext A (drew A):=(Ext.refl A).drew
   generalize (drew A)=D at eD ⊢
   have FD:=F3.trans (e5.trans eD)
   have hxD:∀ w,Ext D w→YN w (.agg (ZL x xv).toArray) x:=λ w y=>⟨_,rfl,hX.ext (e5.trans (eD.trans y))⟩
   unfold RL
   refine Qqh (Za (eD.obj o5)).1 (Za (FD.obj o3)).1 ?_
   refine zcr (Az D _ _ x m (hxD D (Ext.refl D)) (hm' D FD)) λ w4 f4=>?_
   refine ⟨f4,?_⟩
   refine zcr (jQ w4 _ _ x m (hxD w4 f4) (hm' w4 (FD.trans f4))) λ w5 f5=>?_
   have F5:=f4.trans f5
   refine ⟨F5,?_⟩
   have hn:(decide (x=m) != decide (x=m))=false:=by simp
   unfold Zcg Zm
   refine Qqh hn (Za (FD.obj o3)).1 ?_
   refine Zs (T4 w5 _ m (hm' w5 (FD.trans F5)) K9 λ r hr=>⟨by have:=(CJ (hno r hr)).1;omega,λ x hx=>by
    obtain ⟨_,_,g1,g2⟩:=NQ ((CJ (hno r hr)).2.2.2 x hx)
    omega⟩) ?_
   rintro u w6 ⟨hO,f6⟩
   have F6:=F5.trans f6
   refine ⟨F6,?_⟩
   refine zcr (Az w6 _ _ m m (hm' w6 (FD.trans F6)) hO.val) λ w7 f7=>?_
   have F7:=F6.trans f7
   refine ⟨F7,?_⟩
   have dm:decide (m=m)=true:=by simp
   rw [dm]
   have G7:=FD.trans F7
   refine Qqg hn ?_
   unfold Zcf
   refine Qqg (Za (G7.obj o2)).1 ?_
   refine zcr (Hz w7 _ _ _ ⟨ByteArray.empty,[]⟩ d d ⟨Yv,rfl,Ze.nil ..⟩ (hd' w7 G7) (hd' w7 G7) rfl) λ w8 f8=>?_
   rw [NT]
   have G8:=G7.trans f8
   have F8:=F7.trans f8
   unfold Zce Zm
   rcases hx with ⟨hf,rfl,rfl⟩ | ⟨hf,rfl,rfl⟩
   · rw [if_pos hf,flV]
     have e9:Ext w8 (w8.alloc (.cells #[.int .i64 (-1),.int .i64 (-1),.int .i64 0] 34)):=(Ext.refl w8).alloc _
     refine Qqk ?_
     exact ZaD hE (eY.trans FD) (F8.trans e9) ((eD.trans (F8.trans e9)).obj o5) (hX.ext (e5.trans (eD.trans (F8.trans e9))))
   · rw [if_neg (by rw [hf];simp),flV]
     have e9:Ext w8 (w8.alloc (.cells #[.int .i64 (-1),.int .i64 (-1),.int .i64 1] 34)):=(Ext.refl w8).alloc _
     refine Qqk ?_
     exact Pt hE (eY.trans (G8.trans e9)) ((eD.trans (F8.trans e9)).obj o5) (hX.ext (e5.trans (eD.trans (F8.trans e9)))) ((G8.trans e9).obj o2) (hD.ext (eY.trans (G8.trans e9))) K9 λ x hx=>by have:=g2 x hx;omega
end Go.Proofs.YtgalpdihjbinjaaGreatDoor
namespace Go.Sw
open Go.ChangeShapes Go.WideShapes Go.RowKit Go.ChangeAt Go.Deep
def Mr {α:Type} {p:Nat→α→Prop}:∀ (n:Nat),(∀ i,i < n→∃ x,p i x)→∃ l:List α,l.length=n∧∀ k x,l[k]?=some x→p k x
 | 0,_=>⟨[],rfl,λ k x h=>by simp at h⟩
 | n+1,h=>by
  obtain ⟨l,hl,hp⟩:=Mr n (λ i hi=>h i K9)
  obtain ⟨x,hx⟩:=h n K9
  refine ⟨l++[x],by simp [hl],λ k y hy=>?_⟩
  rw [List.getElem?_append] at hy
  split at hy
  · exact hp k y hy
  · have hk:k=n:=by
     have:=(Qqj hy).1
     simp at this
     omega
    subst hk
    simp [hl] at hy
    subst hy
    exact hx
section
variable {H:Type} {enc:TypeId×Vl→H} {P:Program} {w:Wd} {base:Nat} {spare:Nat→Bool} {held:Bool}
def Gh {e:TypeId} {m:Nat} {d:DataW H}:∀ {l:List (DataW H)},d∈l→m∈d.weights P e→m∈DataW.weightsAll P e l
 | [],h,_=>by cases h
 | a::l,h,hm=>by
  rw [DataW.weightsAll,List.mem_append]
  rcases List.mem_cons.1 h with rfl | h
  · exact .inl hm
  · exact .inr (Gh h hm)
def XV (P:Program) (t:TypeId) (d:DataW H):Prop:=∀ m∈d.weights P t,m≤reachBytes
def BE {ts:List TypeId} {ds:List (DataW H)} (h:(DataW.weightsEach P ts ds).all (· ≤ reachBytes)=true) {j:Nat} {t:TypeId} {d:DataW H} (ht:ts[j]?=some t) (hd:ds[j]?=some d):XV P t d:=λ m hm=>by
 have:=List.all_eq_true.1 h _ (DataW.weights_mem_each ht hd m hm)
 simpa using this
def XK {α:Type} {E:Wd→List Vl→α→Prop} {Q:α→Prop} {t e:TypeId} {n fuel:Nat} {cs:List Vl} {x:DataW H×List MemPlace} (ht:P.underlying t=some (.slice e)) (hn:P.cellsOf e=n) (hb1:1≤P.bytesOf e) (h0:0 < n)
 (hE:∀ m cs' y,DataW.trod enc P w base spare held m e cs'=some y→XV P e y.1→∃ x,E w cs' x∧Q x) (h:DataW.trod enc P w base spare held fuel t cs=some x) (hr:XV P t x.1):∃ v l,cs=[v]∧Ze w n E v l∧(∀ x∈l,Q x)∧l.length≤140737488355328:=by
 rcases open_slice ht h with ⟨rfl,_⟩ | ⟨a,len,cap,m,k,D,Pl,rfl,hb,hl,hm,hmm,hx,YS⟩
 · exact ⟨_,[],rfl,Ze.nil _ _ _,λ x hx=>by (cases hx),Nat.zero_le _⟩
 · have hlm:len≤m:=by rw [hmm];split<;>omega
   subst hx
   have hw0:=hr ((len+(m - len))*P.bytesOf e) (by simp only [DataW.weights,ht];simp)
   have YH:len≤140737488355328:=by
    have:len*1≤(len+(m - len))*P.bytesOf e:=Nat.mul_le_mul K9 hb1
    simp only [reachBytes] at hw0
    omega
   have hD:∀ i,i < len→XV P e (D i):=λ i hi q hq=>hr q (by
    simp only [DataW.weights,ht,List.mem_cons,List.mem_append]
    exact .inr (.inl (Gh (List.mem_map.2 ⟨i,List.mem_range.2 hi,rfl⟩) hq)))
   obtain ⟨l,hll,hp⟩:=Mr (p:=λ i (x:α)=>∃ cs',w.cells? base (a.add (i*n)) n=some cs'∧E w cs' x∧Q x) len (λ i hi=>by
    obtain ⟨cs',h1,h2⟩:=YS i K9
    rw [hn] at h1
    obtain ⟨x,hx⟩:=hE _ _ _ h2 (hD i hi)
    exact ⟨x,cs',h1,hx⟩)
   refine ⟨_,l,rfl,⟨some a,cap,by rw [hll],by rw [hll];exact hl,by simp only [maxLen] at hm;omega,λ Y3=>?_⟩,λ x hx=>?_,by omega⟩
   · obtain ⟨b,o,spot⟩:=a
     have hspot:spot=none:=by
      have:0 < l.length:=List.length_pos_iff.2 Y3
      obtain ⟨y,hy⟩:=getElem?_lt this
      obtain ⟨cs',h1,_⟩:=hp 0 y hy
      obtain ⟨_,h2,h3⟩:=World.cells?_some h1
      have h4:=h3 0 h0
      rw [List.getElem?_eq_getElem K9] at h4
      simpa [Addr.add] using World.cell?_spot h4
     subst hspot
     refine ⟨b,o,rfl,λ k x hx=>?_⟩
     obtain ⟨cs',h1,h2,_⟩:=hp k x hx
     obtain ⟨_,h3,h4⟩:=World.cells?_some h1
     refine ⟨cs',h3,λ j v hv=>?_,h2⟩
     have h5:=h4 j (by have:=(Qqj hv).1;omega)
     rw [hv] at h5
     simpa [Addr.add_lit] using h5
   · obtain ⟨k,hk⟩:=List.getElem?_of_mem hx
     obtain ⟨_,_,_,hq⟩:=hp k x hk
     exact hq
def Y4 {fs:Array Field} {t:TypeId} {n fuel:Nat} {cs:List Vl} {x:DataW H×List MemPlace} (ht:P.underlying t=some (.struct fs)) (hn:P.cellsOf t=n) (h:DataW.trod enc P w base spare held fuel t cs=some x) (hr:XV P t x.1) :
 cs.length=n∧∃ m,∀ (i:Nat) (ty off k:Nat),(fs[i]?).map (λ f=>(f.type,f.offset))=some (ty,off)→P.cellsOf ty=k→∃ y,DataW.trod enc P w base spare held m ty ((cs.drop off).take k)=some y∧XV P ty y.1:=by
 obtain ⟨xs,m,_,rfl,hl,YH,hf⟩:=DataW.trod_struct ht h
 refine ⟨hl.trans hn,m,λ i ty off k hi hk=>?_⟩
 obtain ⟨f,hfi,he⟩:=Option.map_eq_some_iff.1 hi
 injection he with h1 h2
 subst h1 h2 hk
 have hil:i < xs.length:=by rw [YH];exact (Qqq hfi).1
 refine ⟨xs[i],(hf i f hfi).trans (List.getElem?_eq_getElem hil),λ q hq=>hr q ?_⟩
 simp only [DataW.weights,ht]
 refine DataW.weights_mem_each (j:=i) (t:=f.type) (d:=xs[i].1) ?_ ?_ q hq
 · rw [List.getElem?_map,Array.getElem?_toList,hfi];rfl
 · rw [List.getElem?_map,List.getElem?_eq_getElem hil];rfl
def GP (hl:laidOutB P=true) {W W':Wd} (he:Ext W W'):∀ {ts:List TypeId} {vs:List Vl} {ds:List (DataW H)} {ps:List MemPlace},(∀ t∈ts,P.readableRec t=true∧t < P.types.size)→(∀ x∈ps,x.block < W.heap.size) →
 DataW.TrodAll enc P W 0 (λ _=>true) true ts vs ds ps→DataW.TrodAll enc P W' 0 (λ b=>decide (b < W.heap.size)) true ts vs ds ps
 | [],_,_,_,_,_,h=>by obtain ⟨rfl,rfl,rfl⟩:=trodAll_nil h;exact trodAll_mk0
 | t::ts,_,_,_,hr,Ym,h=>by
  obtain ⟨v,vs1,d,ds1,a,b,rfl,rfl,rfl,h1,h2⟩:=trodAll_cons h
  refine ⟨a,b,?_,GP hl he (λ t ht=>hr t (List.mem_cons_of_mem _ ht)) (λ x hx=>Ym x (List.mem_append_right _ hx)) h2,rfl⟩
  exact Below.trod hl (hr t (List.mem_cons_self ..)).1 (hr t (List.mem_cons_self ..)).2 h1 ⟨he.os,he.tape,he.output,he.size,he.block⟩ (λ x hx=>Ym x (List.mem_append_left _ hx))
def PB {f:Func} {s:ChangeSpec} {W W':Wd} {args:AVl} {ds gs:List (DataW H)} {before:List MemPlace} {tb:TypeId} (hl:laidOutB P=true) (hr:∀ t∈f.params.toList,P.readableRec t=true∧t < P.types.size) (hs:s.vars=[])
 (hW:DataW.Whole enc P f.params.toList s.vars false W args.toList ds gs before) (he:Ext W W') (hres:f.resultTypes = #[tb]) (htb:P.underlying tb=some .bool) (hfn:(s.fn H ds).results=[.lit (.bool true)]) (hargs:(s.fn H ds).args=ds) (hvars:(s.fn H ds).vars=[]) :
 s.post enc P f false true false false W args (.bool true) W':=by
 have hW':=hW
 obtain ⟨p,q,hA,hV,rfl,_,_⟩:=hW
 rw [hs] at hV
 obtain ⟨rfl,rfl⟩:=trodVars_none hV
 have Ym:∀ x∈p,x.block < W.heap.size:=λ x hx=>hW'.lt x (by simpa using hx)
 rw [List.append_nil] at hW'
 refine ⟨ds,[],p,[],p,[],hW',?_,?_,?_,Below.frame ⟨he.os,he.tape,he.output,he.size,he.block⟩ _,λ h=>by cases h⟩
 · rw [List.append_nil,hfn,hres]
   exact trodAll_mk1 (shut_bool htb _)
 · rw [List.append_nil,hargs]
   exact GP hl he hr Ym hA
 · rw [List.append_nil,hvars,hs]
   exact rfl
end
end Go.Sw
namespace Go.Proofs.YtgalpdihjbinjaaGreatDoor
open Sw
open Go.ChangeShapes Go.WideShapes Go.RowKit Go.ChangeAt Go.Deep
def Cx:Pg.cellsOf 128=2:=K5
def Cv:Pg.cellsOf 213=3:=K5
def Cw:Pg.cellsOf 120=2:=K5
def j0:Pg.cellsOf 123=15:=K5
def zT:Pg.cellsOf 74=2:=K5
def jq:Pg.cellsOf 27=3:=K5
def Y2:Pg.cellsOf 9=1:=K5
def Qn:Pg.cellsOf 3=1:=K5
def Cu:Pg.cellsOf 4=1:=K5
def Nx:Pg.cellsOf 117=1:=K5
def Ie:Pg.cellsOf 118=1:=K5
def Ic:Pg.cellsOf 121=1:=K5
def Fx:Pg.cellsOf 72=1:=K5
def Nn:1≤Pg.bytesOf 128:=Nat.le_of_ble_eq_true K5
def Nm:1≤Pg.bytesOf 213:=Nat.le_of_ble_eq_true K5
def H8:1≤Pg.bytesOf 123:=Nat.le_of_ble_eq_true K5
def DK:1≤Pg.bytesOf 74:=Nat.le_of_ble_eq_true K5
def Dw (f:Zt):Prop:=f.terms.length≤140737488355328∧f.cases.length≤140737488355328∧∀ c∈f.cases,c.of.size≤140737488355328
def OL (m:Yh):Prop:=m.fields.length≤140737488355328∧∀ f∈m.fields,Dw f
def OF (d:Xc):Prop:=d.msgs.length≤140737488355328∧∀ m∈d.msgs,OL m
def B6:Pg.cellsOf 25=1:=K5
section
variable {H:Type} {enc:TypeId×Vl→H} {w:Wd} {base:Nat} {spare:Nat→Bool} {held:Bool}
def Zbf {m:Nat} {cs:List Vl} {y:DataW H×List MemPlace} (h:DataW.trod enc Pg w base spare held m 128 cs=some y) (hr:XV Pg 128 y.1):∃ x,qh w cs x:=by
 obtain ⟨hl,n,hf⟩:=Y4 underlying128 Cx h hr
 obtain ⟨y0,h0,r0⟩:=hf 0 9 0 1 rfl Y2
 obtain ⟨y1,h1,r1⟩:=hf 1 3 1 1 rfl Qn
 match cs,hl with
 | [c0,c1],_=>
  obtain ⟨s,e0,_⟩:=DataW.trod_string underlying9 h0
  obtain ⟨k,e1,_⟩:=DataW.trod_int underlying3 h1
  simp at e0 e1
  subst e0 e1
  exact ⟨⟨s,k⟩,rfl⟩
def Zae {m:Nat} {cs:List Vl} {y:DataW H×List MemPlace} (h:DataW.trod enc Pg w base spare held m 213 cs=some y) (hr:XV Pg 213 y.1):∃ x,Md w cs x∧x.of.size≤140737488355328:=by
 obtain ⟨hl,n,hf⟩:=Y4 underlying213 Cv h hr
 obtain ⟨y0,h0,r0⟩:=hf 0 3 0 1 rfl Qn
 obtain ⟨y1,h1,r1⟩:=hf 1 3 1 1 rfl Qn
 obtain ⟨y2,h2,r2⟩:=hf 2 9 2 1 rfl Y2
 match cs,hl with
 | [c0,c1,c2],_=>
  obtain ⟨a,e0,_⟩:=DataW.trod_int underlying3 h0
  obtain ⟨b,e1,_⟩:=DataW.trod_int underlying3 h1
  obtain ⟨s,e2,e3,_⟩:=DataW.trod_string underlying9 h2
  simp at e0 e1 e2
  subst e0 e1 e2
  refine ⟨⟨a,b,s⟩,rfl,?_⟩
  have:=r2 s.data.toList.length (by rw [e3];exact List.mem_singleton.2 rfl)
  simp only [reachBytes] at this
  have h4:s.size=s.data.toList.length:=Array.length_toList.symm
  show s.size≤_
  omega
def Zbc {m:Nat} {cs:List Vl} {y:DataW H×List MemPlace} (h:DataW.trod enc Pg w base spare held m 120 cs=some y) (hr:XV Pg 120 y.1):∃ b tv ts,cs=[.int .i64 b,tv]∧Z8 w tv ts∧ts.length≤140737488355328:=by
 obtain ⟨hl,n,hf⟩:=Y4 underlying120 Cw h hr
 obtain ⟨y0,h0,r0⟩:=hf 0 3 0 1 rfl Qn
 obtain ⟨y1,h1,r1⟩:=hf 1 118 1 1 rfl Ie
 match cs,hl with
 | [c0,c1],_=>
  obtain ⟨a,e0,_⟩:=DataW.trod_int underlying3 h0
  obtain ⟨v,l,e1,hS,_,hL⟩:=XK (E:=qh) (Q:=λ _=>True) underlying118 Cx Nn K7 (λ _ _ _ h hr=>let ⟨x,hx⟩:=Zbf h hr; ⟨x,hx,trivial⟩) h1 r1
  simp at e0 e1
  subst e0 e1
  exact ⟨a,_,l,rfl,hS,hL⟩
def Pd {m:Nat} {cs:List Vl} {y:DataW H×List MemPlace} (h:DataW.trod enc Pg w base spare held m 123 cs=some y) (hr:XV Pg 123 y.1):∃ x,GU w cs x∧Dw x:=by
 obtain ⟨hl,n,hf⟩:=Y4 underlying123 j0 h hr
 obtain ⟨y0,h0,r0⟩:=hf 0 9 0 1 rfl Y2
 obtain ⟨y1,h1,r1⟩:=hf 1 117 1 1 rfl Nx
 obtain ⟨y2,h2,r2⟩:=hf 2 3 2 1 rfl Qn
 obtain ⟨y3,h3,r3⟩:=hf 3 4 3 1 rfl Cu
 obtain ⟨y4,h4,r4⟩:=hf 4 4 4 1 rfl Cu
 obtain ⟨y5,h5,r5⟩:=hf 5 3 5 1 rfl Qn
 obtain ⟨y6,h6,r6⟩:=hf 6 3 6 1 rfl Qn
 obtain ⟨y7,h7,r7⟩:=hf 7 120 7 2 rfl Cw
 obtain ⟨y8,h8,r8⟩:=hf 8 9 9 1 rfl Y2
 obtain ⟨y9,h9,r9⟩:=hf 9 9 10 1 rfl Y2
 obtain ⟨y10,h10,r10⟩:=hf 10 9 11 1 rfl Y2
 obtain ⟨y11,h11,r11⟩:=hf 11 121 12 1 rfl Ic
 obtain ⟨y12,h12,r12⟩:=hf 12 3 13 1 rfl Qn
 obtain ⟨y13,h13,r13⟩:=hf 13 3 14 1 rfl Qn
 match cs,hl with
 | [c0,c1,c2,c3,c4,c5,c6,c7,c8,c9,c10,c11,c12,c13,c14],_=>
  obtain ⟨x0,e0,_⟩:=DataW.trod_string underlying9 h0
  obtain ⟨x1,e1,_⟩:=DataW.trod_int underlying117 h1
  obtain ⟨x2,e2,_⟩:=DataW.trod_int underlying3 h2
  obtain ⟨x3,e3,_⟩:=DataW.trod_bool underlying4 h3
  obtain ⟨x4,e4,_⟩:=DataW.trod_bool underlying4 h4
  obtain ⟨x5,e5,_⟩:=DataW.trod_int underlying3 h5
  obtain ⟨x6,e6,_⟩:=DataW.trod_int underlying3 h6
  obtain ⟨x7,tv,ts,e7,hT,hTl⟩:=Zbc h7 r7
  obtain ⟨x9,e9,_⟩:=DataW.trod_string underlying9 h8
  obtain ⟨x10,e10,_⟩:=DataW.trod_string underlying9 h9
  obtain ⟨x11,e11,_⟩:=DataW.trod_string underlying9 h10
  obtain ⟨cv,l,e12,hC,hCq,hCl⟩:=XK (E:=Md) (Q:=λ c=>c.of.size≤140737488355328) underlying121 Cv Nm K7 (λ _ _ _ h hr=>Zae h hr) h11 r11
  obtain ⟨x13,e13,_⟩:=DataW.trod_int underlying3 h12
  obtain ⟨x14,e14,_⟩:=DataW.trod_int underlying3 h13
  simp at e0 e1 e2 e3 e4 e5 e6 e7 e9 e10 e11 e12 e13 e14
  obtain ⟨e7,e8⟩:=e7
  subst e0 e1 e2 e3 e4 e5 e6 e7 e8 e9 e10 e11 e12 e13 e14
  exact ⟨⟨x0,x1,x2,x3,x4,x5,x6,x7,ts,x9,x10,x11,l,x13,x14⟩,⟨_,_,rfl,hT,hC⟩,hTl,hCl,hCq⟩
def Zeh {m:Nat} {cs:List Vl} {y:DataW H×List MemPlace} (h:DataW.trod enc Pg w base spare held m 74 cs=some y) (hr:XV Pg 74 y.1):∃ x,H1 w cs x∧OL x:=by
 obtain ⟨hl,n,hf⟩:=Y4 underlying74 zT h hr
 obtain ⟨y0,h0,r0⟩:=hf 0 9 0 1 rfl Y2
 obtain ⟨y1,h1,r1⟩:=hf 1 72 1 1 rfl Fx
 match cs,hl with
 | [c0,c1],_=>
  obtain ⟨a,e0,_⟩:=DataW.trod_string underlying9 h0
  obtain ⟨v,l,e1,hS,hQ,hL⟩:=XK (E:=GU) (Q:=Dw) underlying72 j0 H8 K7 (λ _ _ _ h hr=>Pd h hr) h1 r1
  simp at e0 e1
  subst e0 e1
  exact ⟨⟨a,l⟩,⟨_,rfl,hS⟩,hL,hQ⟩
def ZdZ {m:Nat} {cs:List Vl} {y:DataW H×List MemPlace} (h:DataW.trod enc Pg w base spare held m 27 cs=some y) (hr:XV Pg 27 y.1):∃ d mv,cs=ZO d mv∧Va w mv d.msgs∧OF d:=by
 obtain ⟨hl,n,hf⟩:=Y4 underlying27 jq h hr
 obtain ⟨y0,h0,r0⟩:=hf 0 9 0 1 rfl Y2
 obtain ⟨y1,h1,r1⟩:=hf 1 25 1 1 rfl B6
 obtain ⟨y2,h2,r2⟩:=hf 2 9 2 1 rfl Y2
 match cs,hl with
 | [c0,c1,c2],_=>
  obtain ⟨a,e0,_⟩:=DataW.trod_string underlying9 h0
  obtain ⟨v,l,e1,hS,hQ,hL⟩:=XK (E:=H1) (Q:=OL) underlying25 zT DK K7 (λ _ _ _ h hr=>Zeh h hr) h1 r1
  obtain ⟨b,e2,_⟩:=DataW.trod_string underlying9 h2
  simp at e0 e1 e2
  subst e0 e1 e2
  exact ⟨⟨a,l,b⟩,_,rfl,hS,hL,hQ⟩
def Zaq {r:Reach} {b0:Nat} {v:Vl} {d:DataW H} {ps:List MemPlace} (hval:Value.okWide Pg w r b0 27 v) (h:DataW.Trod enc Pg w base spare held 27 v d ps) (hr:XV Pg 27 d):∃ f,YM w v f∧OF f:=by
 obtain ⟨cs,rfl,_⟩:=okWide_struct underlying27 hval
 obtain ⟨fuel,hf⟩:=h
 obtain ⟨f,tv,h1,h2,hs⟩:=ZdZ hf hr
 exact ⟨f,⟨tv,congrArg Value.agg (by rw [← h1,ZA]),h2⟩,hs⟩
end
end Go.Proofs.YtgalpdihjbinjaaGreatDoor
namespace Go.Proofs.YtgalpdihjbinjaaGreatDoor
open Sw
open Go.ChangeShapes Go.WideShapes Go.RowKit Go.ChangeAt Go.Deep
def Fy:Pg.cellsOf 78=3:=K5
def Mh:Pg.cellsOf 43=7:=K5
def Mi:Pg.cellsOf 60=3:=K5
def OY:Pg.cellsOf 24=2:=K5
def Zag:Pg.cellsOf 39=1:=K5
def Zaf:Pg.cellsOf 40=1:=K5
def Ny:Pg.cellsOf 41=1:=K5
def OX:Pg.cellsOf 58=1:=K5
def OZ:Pg.cellsOf 22=1:=K5
def O0:Pg.cellsOf 5=1:=K5
def bytesRow:1≤Pg.bytesOf 78:=Nat.le_of_ble_eq_true K5
def Zaa:1≤Pg.bytesOf 43:=Nat.le_of_ble_eq_true K5
def Zab:1≤Pg.bytesOf 60:=Nat.le_of_ble_eq_true K5
def OU:1≤Pg.bytesOf 5:=Nat.le_of_ble_eq_true K5
def J6 {n:Int} (h:(Lit.int .i64 n).wf=true):zG n=true:=h
section
variable {H:Type} {enc:TypeId×Vl→H} {w:Wd} {base:Nat} {spare:Nat→Bool} {held:Bool}
def OT {m:Nat} {cs:List Vl} {y:DataW H×List MemPlace} (h:DataW.trod enc Pg w base spare held m 5 cs=some y):∃ x:UInt8,Cp w cs x:=by
 obtain ⟨k,rfl,_,hw⟩:=DataW.trod_int underlying5 h
 have hk:0≤k∧k≤255:=by
  have h2:(decide (IntKind.u8.min≤k)&&decide (k≤IntKind.u8.max))=true:=hw
  rw [Bool.and_eq_true,decide_eq_true_eq,decide_eq_true_eq,show IntKind.u8.min=0 from rfl,show IntKind.u8.max=255 from rfl] at h2
  exact h2
 refine ⟨UInt8.ofNat k.toNat,?_⟩
 show [Value.int .u8 k]=[Value.int .u8 ((UInt8.ofNat k.toNat).toNat:Int)]
 rw [UInt8.toNat_ofNat',Nat.mod_eq_of_lt K9]
 congr 2
 omega
def ZeS {m:Nat} {cs:List Vl} {y:DataW H×List MemPlace} (h:DataW.trod enc Pg w base spare held m 78 cs=some y) (hr:XV Pg 78 y.1):∃ x,T2 w cs x∧Mm x=true:=by
 obtain ⟨hl,n,hf⟩:=Y4 underlying78 Fy h hr
 obtain ⟨y0,h0,r0⟩:=hf 0 3 0 1 rfl Qn
 obtain ⟨y1,h1,r1⟩:=hf 1 3 1 1 rfl Qn
 obtain ⟨y2,h2,r2⟩:=hf 2 3 2 1 rfl Qn
 match cs,hl with
 | [c0,c1,c2],_=>
  obtain ⟨a,e0,_,w0⟩:=DataW.trod_int underlying3 h0
  obtain ⟨b,e1,_,w1⟩:=DataW.trod_int underlying3 h1
  obtain ⟨c,e2,_,w2⟩:=DataW.trod_int underlying3 h2
  simp at e0 e1 e2
  subst e0 e1 e2
  refine ⟨⟨a,b,c⟩,rfl,?_⟩
  unfold Mm
  rw [J6 w0,J6 w1,J6 w2]
  rfl
def ZfI {m:Nat} {cs:List Vl} {y:DataW H×List MemPlace} (h:DataW.trod enc Pg w base spare held m 43 cs=some y) (hr:XV Pg 43 y.1):∃ x,EFr w cs x∧inF x=true:=by
 obtain ⟨hl,n,hf⟩:=Y4 underlying43 Mh h hr
 obtain ⟨y0,h0,r0⟩:=hf 0 9 0 1 rfl Y2
 obtain ⟨y1,h1,r1⟩:=hf 1 39 1 1 rfl Zag
 obtain ⟨y2,h2,r2⟩:=hf 2 9 2 1 rfl Y2
 obtain ⟨y3,h3,r3⟩:=hf 3 3 3 1 rfl Qn
 obtain ⟨y4,h4,r4⟩:=hf 4 3 4 1 rfl Qn
 obtain ⟨y5,h5,r5⟩:=hf 5 40 5 1 rfl Zaf
 obtain ⟨y6,h6,r6⟩:=hf 6 41 6 1 rfl Ny
 match cs,hl with
 | [c0,c1,c2,c3,c4,c5,c6],_=>
  obtain ⟨x0,e0,_⟩:=DataW.trod_string underlying9 h0
  obtain ⟨x1,e1,_⟩:=DataW.trod_int underlying39 h1
  obtain ⟨x2,e2,_⟩:=DataW.trod_string underlying9 h2
  obtain ⟨x3,e3,_,w3⟩:=DataW.trod_int underlying3 h3
  obtain ⟨x4,e4,_,w4⟩:=DataW.trod_int underlying3 h4
  obtain ⟨v5,l5,e5,hS5,_,_⟩:=XK (E:=Cp) (Q:=λ _=>True) underlying40 O0 OU K7 (λ _ _ _ h hr=>let ⟨x,hx⟩:=OT h; ⟨x,hx,trivial⟩) h5 r5
  obtain ⟨v6,l6,e6,hS6,hQ6,_⟩:=XK (E:=T2) (Q:=λ x=>Mm x=true) underlying41 Fy bytesRow K7 (λ _ _ _ h hr=>ZeS h hr) h6 r6
  simp at e0 e1 e2 e3 e4 e5 e6
  subst e0 e1 e2 e3 e4 e5 e6
  refine ⟨⟨x0,x1,x2,x3,x4,l5,l6⟩,⟨_,_,rfl,hS5,hS6⟩,?_⟩
  unfold inF
  simp only [J6 w3,J6 w4,Bool.true_and,List.all_eq_true]
  exact hQ6
def ZfR {m:Nat} {cs:List Vl} {y:DataW H×List MemPlace} (h:DataW.trod enc Pg w base spare held m 60 cs=some y) (hr:XV Pg 60 y.1):∃ x,EMr w cs x∧∀ z∈x.fields,inF z=true:=by
 obtain ⟨hl,n,hf⟩:=Y4 underlying60 Mi h hr
 obtain ⟨y0,h0,r0⟩:=hf 0 9 0 1 rfl Y2
 obtain ⟨y1,h1,r1⟩:=hf 1 9 1 1 rfl Y2
 obtain ⟨y2,h2,r2⟩:=hf 2 58 2 1 rfl OX
 match cs,hl with
 | [c0,c1,c2],_=>
  obtain ⟨a,e0,_⟩:=DataW.trod_string underlying9 h0
  obtain ⟨b,e1,_⟩:=DataW.trod_string underlying9 h1
  obtain ⟨v,l,e2,hS,hQ,_⟩:=XK (E:=EFr) (Q:=λ x=>inF x=true) underlying58 Mh Zaa K7 (λ _ _ _ h hr=>ZfI h hr) h2 r2
  simp at e0 e1 e2
  subst e0 e1 e2
  exact ⟨⟨a,b,l⟩,⟨_,rfl,hS⟩,hQ⟩
def OK (m:Xd):Prop:=∀ r∈m.rules,∀ x∈r.fields,inF x=true
def Zeg {m:Nat} {cs:List Vl} {y:DataW H×List MemPlace} (h:DataW.trod enc Pg w base spare held m 24 cs=some y) (hr:XV Pg 24 y.1):∃ d rv,cs=ZL d rv∧VG w rv d.rules∧OK d:=by
 obtain ⟨hl,n,hf⟩:=Y4 underlying24 OY h hr
 obtain ⟨y0,h0,r0⟩:=hf 0 9 0 1 rfl Y2
 obtain ⟨y1,h1,r1⟩:=hf 1 22 1 1 rfl OZ
 match cs,hl with
 | [c0,c1],_=>
  obtain ⟨a,e0,_⟩:=DataW.trod_string underlying9 h0
  obtain ⟨v,l,e1,hS,hQ,_⟩:=XK (E:=EMr) (Q:=λ x=>∀ z∈x.fields,inF z=true) underlying22 Mi Zab K7 (λ _ _ _ h hr=>ZfR h hr) h1 r1
  simp at e0 e1
  subst e0 e1
  exact ⟨⟨a,l⟩,_,rfl,hS,hQ⟩
def ZaO {r:Reach} {b0:Nat} {v:Vl} {d:DataW H} {ps:List MemPlace} (hval:Value.okWide Pg w r b0 24 v) (h:DataW.Trod enc Pg w base spare held 24 v d ps) (hr:XV Pg 24 d):∃ f,YN w v f∧OK f:=by
 obtain ⟨cs,rfl,_⟩:=okWide_struct underlying24 hval
 obtain ⟨fuel,hf⟩:=h
 obtain ⟨f,tv,h1,h2,hs⟩:=Zeg hf hr
 exact ⟨f,⟨tv,congrArg Value.agg (by rw [← h1,ZA]),h2⟩,hs⟩
end
end Go.Proofs.YtgalpdihjbinjaaGreatDoor
namespace Go.Proofs.YtgalpdihjbinjaaGreatDoor
open Sw
open Go.RowKit Go.Deep
def Wp:List (String×DataW Unit):=[("math/bits.deBruijn32tab", Rows.laid_math_bits_deBruijn32tab),("math/bits.deBruijn64tab", Rows.laid_math_bits_deBruijn64tab),("internal/strconv.uint64pow10", Rows.laid_internal_strconv_uint64pow10),("unicode/utf8.acceptRanges", Rows.laid_unicode_utf8_acceptRanges),("strconv.ErrRange", Rows.laid_strconv_ErrRange),("strconv.ErrSyntax", Rows.laid_strconv_ErrSyntax),("unicode/utf8.first", Rows.laid_unicode_utf8_first)]
def role_own:ownKnob Pg.godebug=none:=K5
def role_laidOut:laidOutB Pg=true:=K5
def Tz (os:Os) (args:AVl):laidMetH Pg Wp ((World.laidAll Pg os Wp).forCall (λ _ _=>0) ⟨#[],args,[]⟩).memory:=by
 rw [MakeChecks.laidMetH_plain _ _ _ K5]
 exact laidMet_laidAll _ K5 K5
def TA {W:Wd} (h:laidMetH Pg Wp W):KG W:=by
 rw [MakeChecks.laidMetH_plain _ _ _ K5] at h
 have h3:=laidMet.tail (laidMet.tail h)
 have he:(Rows.laid_internal_strconv_uint64pow10:DataW Unit)=Go.Lib.tabData .u64 Go.Lib.pow10Tab:=K5
 rw [he] at h3
 obtain ⟨g,hg⟩:=Option.isSome_iff_exists.1 ZfJ
 have hty:(Pg.globals[g]?).map (·.type)=some 281:=by
  have h1:(Pg.globalNamed "internal/strconv.uint64pow10").bind (λ g=>(Pg.globals[g]?).map (·.type))=some 281:=K5
  rw [hg] at h1
  exact h1
 exact Go.Lib.tabIs_of_head hg hty underlying281 underlying191 K5 K5 h3
def Dm : "*" ++ "errors.errorString" = "*errors.errorString" := by decide
def ji (u:TypeId) (h:Pg.typeName? 3 u=some "*errors.errorString"):u=292:=
 typeName_ptr_named (nm := "errors.errorString") (by rw [Dm];kernel_rfl) K5 K7 u (by rw [Dm];exact h)
def Ty {W:Wd} (hs:W.ShapedOpen Pg) (h:laidMetH Pg Wp W):qi W:=by
 refine ⟨TA h,Go.Proofs.cell_of_shapedOpen_int (k := .i64) hs (of_decide_eq_true K5) (zero := #[.int .i64 0]) (t:=3) K5 rfl K5 K5 underlying3,?_,?_⟩
 · rw [MakeChecks.laidMetH_plain _ _ _ K5] at h
   have h5:=h.tail.tail.tail.tail.tail
   obtain ⟨a,s,hv,_⟩:=laid_sentinel (g:=3) h5 K5 K5 underlying162 ji underlying292 underlying294 rfl rfl underlying9 K5 K5
   refine ⟨_,by rw [World.var?_cell (show Pg.globalNamed "strconv.ErrSyntax" = some 3 by kernel_rfl) hv 0];rfl,.inr ⟨_,_,rfl⟩⟩
 · rw [MakeChecks.laidMetH_plain _ _ _ K5] at h
   have h5:=h.tail.tail.tail.tail
   obtain ⟨a,s,hv,_⟩:=laid_sentinel (g:=4) h5 K5 K5 underlying162 ji underlying292 underlying294 rfl rfl underlying9 K5 K5
   refine ⟨_,by rw [World.var?_cell (show Pg.globalNamed "strconv.ErrRange" = some 4 by kernel_rfl) hv 0];rfl,.inr ⟨_,_,rfl⟩⟩
def ZfD:List Int:=[0,1,56,2,57,49,28,3,61,58,42,50,38,29,17,4,62,47,59,36,45,43,51,22,53,39,33,30,24,18,12,5,63,55,48,27,60,41,37,16,46,35,44,21,52,32,23,11,54,26,40,15,34,20,31,10,25,14,19,9,13,8,7,6]
def ZaM {W:Wd} (hs:W.ShapedOpen Pg) (h:laidMetH Pg Wp W):xg W:=by
 refine ⟨Ty hs h,?_⟩
 rw [MakeChecks.laidMetH_plain _ _ _ K5] at h
 have h2:=laidMet.tail h
 have he:(Rows.laid_math_bits_deBruijn64tab:DataW Unit)=Go.Lib.tabData .u8 ZfD:=K5
 rw [he] at h2
 have hg:Pg.globalNamed "math/bits.deBruijn64tab" = some 7:=K5
 have hv:=Go.Lib.tabIs_of_head hg (t:=306) K5 underlying306 underlying5 K5 K5 h2
 rw [World.var?_cell hg hv 15]
 rfl
def Iq {H:Type} {enc:TypeId×Vl→H} {a:Assume} {C:Checked} {os:Os} {f:FuncId} {fn:Func} {s:ChangeSpec} {conds:List PathCond} {apart fresh handsOn again:Bool} {X:Wd→AVl→Prop}
 (hX:∀ (w w':Wd) (args:AVl),w.heap=w'.heap→X w args→X w' args)
 (own:ownKnob C.prog.godebug=none) (started:os.Started) (noInit:C.prog.inits.idxOf? f=none) (hfn:C.prog.funcs[f]?=some fn)
 (witness:∃ (w:Wd) (tape:Tape) (i:Input),w.os=os∧(w.forCall tape i).Shaped C.prog∧i.vars=[]∧Input.okWide C.prog (w.forCall tape i) .any w.heap.size f i ∧
  ((s.pre enc C.prog fn conds apart (w.forCall tape i).memory i.args∧X (w.forCall tape i).memory i.args)∧sizedMet enc C.prog fn (OpenSpec.ofChange s) apart (w.forCall tape i).memory i.args)∧a.holds C.prog (lone (Frame.enter C.prog f i.args .normal) [] (w.forCall tape i)))
 (contract:∀ (W:Wd) (base:Nat) (args:AVl) (ds gs:List (DataW H)) (before:List MemPlace),
  (∀ (j:Nat) t v,fn.params[j]?=some t→args[j]?=some v→Value.okWide C.prog W .any base t v) →
  DataW.Whole enc C.prog fn.params.toList s.vars apart W args.toList ds gs before →
  conds.all (PathCond.test C.prog ⟨fn.params.toList,ds,s.plain.varTypes C.prog,gs⟩)=true →
  (DataW.weightsEach C.prog (fn.params.toList++s.plain.varTypes C.prog) (ds++gs)).all (· ≤ reachBytes)=true→X W args→W.ShapedOpen C.prog →
  a.holds C.prog (lone (Frame.enter C.prog f args .normal) [] W) →
  Calls C.prog f args W λ e W'=>∃ v,e = .returned v∧s.post enc C.prog fn apart fresh handsOn again W args v W') :
 ReturnsInHanded a C os f .any (λ w args=>(s.pre enc C.prog fn conds apart w args∧X w args)∧sizedMet enc C.prog fn (OpenSpec.ofChange s) apart w args) (s.post enc C.prog fn apart fresh handsOn again):=by
 refine returnsInHanded_of_calls own started noInit witness ?_
 intro w tape i _ hsh _ hok hpre hholds
 obtain ⟨_,_,_,fn',hfn',_,_,_,_,hval⟩:=hok
 have e:fn'=fn:=Option.some.inj (hfn'.symm.trans hfn)
 subst e
 obtain ⟨⟨⟨ds,gs,before,hw,hc⟩,hx⟩,hz⟩:=hpre
 have hw':=DataW.Whole.of_heap (w':=w.forCall tape i) (by rfl) hw
 refine (contract (w.forCall tape i) w.heap.size i.args ds gs before hval hw' hc (hz.weights hw) (hX _ _ _ (by rfl) hx) hsh hholds).mono λ e W' ⟨v,he,hp⟩=>?_
 subst he
 exact ChangeSpec.post_blind hp
end Go.Proofs.YtgalpdihjbinjaaGreatDoor
namespace Go.Proofs.YtgalpdihjbinjaaGreatDoor
open Sw
open Go.ChangeShapes Go.WideShapes Go.RowKit Go.ChangeAt Go.Deep
theorem Ja (W:Wd) (v0:Vl) (f0:Xc) (v1:Vl) (f1:Xd) (hf0:YM W v0 f0) (hs0:OF f0) (hf1:YN W v1 f1) (hs1:OK f1) (hE:xg W):Ret Pg 8 #[v0,v1] W λ r w'=>r = .bool true∧Ext W w':=KQ W hE v0 v1 f0 f1 hf0 hf1
theorem midentities_lifted (os:Os) (started:os.Started) (H:Type) (enc:TypeId×Vl→H) :
 ReturnsInHanded {} Tryz.checked os 8 .any (λ w args=>(Rows.mappingIdentitiesSpec.pre enc Pg Tryz.f8 Rows.mappingIdentitiesRow.domain false w args∧laidMetH Pg Wp w)∧sizedMet enc Pg Tryz.f8 (OpenSpec.ofChange Rows.mappingIdentitiesSpec) false w args) (Rows.mappingIdentitiesSpec.post enc Pg Tryz.f8 false true false false):=by
 refine Iq (C:=Tryz.checked) (X:=λ w _=>laidMetH Pg Wp w) (λ _ _ _ hh h=>h.of_heap hh) role_own started K5 func8
  (ChangeSpec.witness_shaped (enc:=enc) (C:=Tryz.checked) (os:=os) (X:=λ w _=>laidMetH Pg Wp w) false (World.laidAll Pg os Wp) #[.agg #[.string Qqz,.slice none 0 0,.string Qqz],.agg #[.string Qqz,.slice none 0 0]] 8 (World.laidAll_os _ _ _) (World.shaped_of_ZipB K5 K5) K5 K5 K5 (Tz os _)) ?_
 intro W base args ds gs before hval hW _ Uq hL hsh _
 have hW':=hW
 obtain ⟨p,q,hA0,hV,rfl,_,_⟩:=hW
 have hA:DataW.TrodAll enc Pg W 0 (λ _=>true) true Tryz.f8.params.toList args.toList ds p:=hA0
 rw [Tryz.params8] at hA hval Uq
 obtain ⟨v0,vs0,d0,ds0,p0,q0,ha0,rfl,rfl,h0,r0⟩:=trodAll_cons hA
 obtain ⟨v1,vs1,d1,ds1,p1,q1,ha1,rfl,rfl,h1,r1⟩:=trodAll_cons r0
 obtain ⟨rfl,rfl,rfl⟩:=trodAll_nil r1
 subst ha1
 obtain rfl:args = #[v0,v1]:=by cases args;simp_all
 obtain ⟨f0,hf0,hs0⟩:=Zaq (hval 0 _ v0 rfl rfl) h0 (BE (j:=0) Uq rfl rfl)
 obtain ⟨f1,hf1,hs1⟩:=ZaO (hval 1 _ v1 rfl rfl) h1 (BE (j:=1) Uq rfl rfl)
 refine Calls.mono (Ja W v0 f0 v1 f1 hf0 hs0 hf1 hs1 (ZaM hsh hL)) λ e W' ⟨v,he,hv,hx⟩=>?_
 subst he hv
 exact ⟨_,rfl,PB role_laidOut (by decide +kernel) rfl hW' hx rfl underlying4 rfl rfl rfl⟩
theorem Gy:Pg.inPlace 8=Rows.mappingIdentitiesRow.inPlace:=K5
theorem Kn:Pg.unfollowed 8=Rows.mappingIdentitiesRow.unfollowed:=K5
theorem Ju:Pg.recurses 8=Rows.mappingIdentitiesRow.recurses:=K5
theorem KS:Pg.varsNamed 8=Rows.mappingIdentitiesRow.named:=K5
theorem yl:joinedFacts Pg 8 Tryz.f8 Rows.mappingIdentitiesSpec Rows.mappingIdentitiesRow=true:=by
 unfold joinedFacts
 rw [Gy,Kn,Ju,KS]
 kernel_rfl
theorem midentities_holds:Rows.MappingIdentitiesSaid:=
 OpenClaim.holds_of_wide 8 Tryz.f8 rfl rfl rfl rfl rfl rfl rfl ⟨rfl,rfl,rfl,rfl,rfl⟩ rfl rfl rfl rfl rfl K5 func8 yl
  (of_decide_eq_true K5) (by unfold Func.isWrapper;first | (rw [if_pos (by decide +kernel)];kernel_rfl) | (rw [if_neg (by decide +kernel)];exact ⟨rfl,rfl⟩))
  (λ os started H enc _=>midentities_lifted os started H enc)
theorem midentities_card:Rows.MappingIdentitiesCardSaid:=
 Claim7.holds_tied_plain_at .later [] [.data,.data,.data,.data,.sentinel,.sentinel,.pinned] true (true, "cedc2496089f77d4df55280aa44dc215bf5ea19b61a6b8ccb76ab88a333a5715") true
  midentities_holds (λ _ h=>by cases h) K5 (λ _ h=>by cases h) mappingIdentities_row_tie rfl ⟨rfl,rfl⟩ K5 rfl
  (λ f fn hf hfn=>by
   obtain rfl:f=8:=Option.some.inj ((show Pg.funcNamed "phrasebook/phrasebooklaw45.MappingIdentities" = some 8 by kernel_rfl).symm.trans hf) |>.symm
   obtain rfl:fn=Tryz.f8:=(Option.some.inj (func8.symm.trans hfn)).symm
   exact ⟨by kernel_rfl,λ j t ht=>by
    rw [Tryz.params8] at ht
    have hm:t∈[27,24]:=by simpa using Array.mem_of_getElem? ht
    have hall:([27,24].all λ u=>!Pg.wantsStandIn u)=true:=K5
    exact (show Pg.wantsStandIn t=false by simpa using List.all_eq_true.1 hall t hm)⟩)
  K5
end Go.Proofs.YtgalpdihjbinjaaGreatDoor
