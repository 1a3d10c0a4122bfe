/-
  Lemmas for the claim.
-/
import Derived.Test.YtfjjgjjlebllmaaGreatQe4
set_option linter.all false
set_option maxHeartbeats 4000000
set_option maxRecDepth 100000
namespace Go.Proofs.YtfjjgjjlebllmaaGreat
open Sw
open Go.RowKit (intOf Below)
theorem Ea (w0:World) (v:Value) (m:ZD) (s:ByteArray) (n:Nat) (hm:Xe w0 v m) (hn:n≤m.fields.length):Ret Pg 151 #[v,.string s,.int .i64 (n:Int)] w0 λ r w'=>r = .bool ((m.fields.take n).any (QB s))∧Ext w0 w':=by
 obtain ⟨fv,rfl,hF⟩:=hm
 obtain ⟨A,c,rfl,hlc,hcm,hlm,hel⟩:=Ze.open hF
 refine ZgR (R:=ZQ _) ?_;unfold n39
 simp (disch:=try exact DI) only [↓PR,QR,simprocAttr]
 have hBW:=ZS.new (w:=w0) (Zx m (.slice A m.fields.length c)) (24)
 have eW:Ext w0 (w0.alloc (Obj.cells (List.toArray (Zx m (.slice A m.fields.length c))) (24))):=(Ext.refl _).alloc _
 generalize (w0.alloc (Obj.cells (List.toArray (Zx m (.slice A m.fields.length c))) (24)))=W at hBW eW ⊢
 have hlen:(m.fields.take n).length=n:=by rw [List.length_take];omega
 refine ZA (λ i w'=>∃ k:Nat,i = .int .i64 k∧k≤n∧Ext W w'∧∀ j x,j < k→m.fields[j]?=some x→QB s x=false) (λ i _=>n - (intOf i).toNat) ⟨0,rfl,by omega,Ext.refl _,by intro j x h;omega⟩ ?_
 rintro _ w ⟨k,rfl,hk,e,hI⟩
 have E:=eW.trans e
 by_cases hkn:k < n
 · obtain ⟨x,hx⟩:=getElem?_lt (l:=m.fields) (k:=k) (by omega)
   obtain ⟨b,o,cs,rfl,hl,hA,hE⟩:=hel k x hx
   obtain ⟨tv,cv,rfl,hT,hC,ht1,hc1⟩:=hE.op
   have hcell:=hA.c15 E
   have d1:decide ((k:Int) < (n:Int))=true:=by simp;omega
   have hkl:(k:Int) < (m.fields.length:Int):=by omega
   have stop:QB s x=true→(m.fields.take n).any (QB s)=true:=λ h=>List.any_eq_true.2 ⟨x,List.mem_of_getElem? (i:=k) (by rw [List.getElem?_take,if_pos hkn];exact hx),h⟩
   have next:QB s x=false→∀ w',Ext W w'→(∃ k_1:Nat,Value.int .i64 ((k+1:Nat):Int) = .int .i64 k_1∧k_1≤n∧Ext W w'∧∀ j x,j < k_1→m.fields[j]?=some x→QB s x=false)∧n - (intOf (Value.int .i64 ((k+1:Nat):Int))).toNat < n - (intOf (Value.int .i64 (k:Int))).toNat:=by
    intro h w' e'
    refine ⟨⟨k+1,rfl,hkn,e',λ j y hj hy=>?_⟩,ZF (kd := .i64) hkn⟩
    by_cases hjk:j=k
    · subst hjk;rw [hx] at hy;injection hy with hy;subst hy;exact h
    · exact hI j y (by omega) hy
   simp (disch:=try exact DI) only [↓PR,QR,simprocAttr,d1]
   unfold RW
   cases hk9:(x.kind == 9) with
   | false =>
    simp (disch:=try exact DI) only [↓PR,QR,simprocAttr,hBW.c2,hcell,hk9]
    exact next (by unfold QB;rw [hk9];rfl) _ e
   | true =>
    by_cases hs:x.tag=s
    · simp (disch:=try exact DI) only [↓PR,QR,simprocAttr,hBW.c2,hcell,hk9,show decide (x.tag=s)=true by simp [hs]]
      exact ⟨by rw [stop (by unfold QB;rw [hk9];simp [hs])],E⟩
    · simp (disch:=try exact DI) only [↓PR,QR,simprocAttr,hBW.c2,hcell,hk9,show decide (x.tag=s)=false by simp [hs]]
      exact next (by unfold QB;simp [hs]) _ e
 · have hke:k=n:=by omega
   subst hke
   have d1:decide ((k:Int) < (k:Int))=false:=by simp
   simp (disch:=try exact DI) only [↓PR,QR,simprocAttr,d1]
   refine ⟨?_,E⟩
   congr 1
   symm
   rw [List.any_eq_false]
   intro x hx
   obtain ⟨j,hj⟩:=List.getElem?_of_mem hx
   rw [List.getElem?_take] at hj
   split at hj
   · rw [hI j x (by assumption) hj];decide
   · cases hj
def xH (f:Zm):Int:=if Xg f then (if f.low < 0∨f.low > (if f.kind=2 then f.low else f.high)∨(if f.kind=2 then f.low else f.high)≥2 ^ f.bits.toNat then 7 else 0) else 6
theorem Mx {f:Zm} (h:f.kind=1):xH f=orC (Ya (Xg f) 6) (Z1 (U2 f) 0 [f.low,f.high]):=by
 unfold xH U2
 have h2:¬ f.kind=2:=by omega
 simp only [if_neg h2]
 clear h h2
 cases Xg f with
 | false=>rfl
 | true =>
  have hp:(0:Int) < 2 ^ f.bits.toNat:=Int.pow_pos (by decide)
  generalize (2:Int) ^ f.bits.toNat=q at *
  simp only [Ya,if_true,orC,Z1]
  split<;>simp only [Bool.and_eq_true,decide_eq_true_eq]<;>(repeat' split)<;>first | rfl | omega | (simp only [Bool.and_eq_true,decide_eq_true_eq] at *;omega)
theorem N6 {f:Zm} (h:f.kind=2):xH f=orC (Ya (Xg f) 6) (Z1 (U2 f) 0 [f.low]):=by
 unfold xH U2
 simp only [if_pos h]
 clear h
 cases Xg f with
 | false=>rfl
 | true =>
  have hp:(0:Int) < 2 ^ f.bits.toNat:=Int.pow_pos (by decide)
  generalize (2:Int) ^ f.bits.toNat=q at *
  simp only [Ya,if_true,orC,Z1]
  split<;>simp only [Bool.and_eq_true,decide_eq_true_eq]<;>(repeat' split)<;>first | rfl | omega | (simp only [Bool.and_eq_true,decide_eq_true_eq] at *;omega)
theorem yH (w0:World) (v:Value) (f:Zm) (hf:ZV w0 v f):Ret Pg 148 #[v] w0 λ r w'=>r = .int .i64 (xH f)∧Ext w0 w':=by
 obtain ⟨tv,cv,rfl,hT,hC,ht1,hc1⟩:=hf.op
 refine Zf0 (R:=ZQ _) ?_;unfold n36
 simp (disch:=try exact DI) only [↓PR,QR,simprocAttr]
 have hBW:=ZS.new (w:=w0) (Zo f tv cv) (48)
 have eW:Ext w0 (w0.alloc (Obj.cells (List.toArray (Zo f tv cv)) (48))):=(Ext.refl _).alloc _
 generalize (w0.alloc (Obj.cells (List.toArray (Zo f tv cv)) (48)))=W at hBW eW ⊢
 have hcell:=hBW.c15 (Ext.refl W)
 have hbad:Xg f=false→Value.int .i64 6 = .int .i64 (xH f):=λ h=>by unfold xH;rw [h];rfl
 by_cases h1:f.bits < 1
 · have d1:decide (f.bits < 1)=true:=by simpa using h1
   simp (disch:=try exact DI) only [↓PR,QR,simprocAttr,hcell,d1,↓qh,↓EO,↓Dk,↓yR,↓xG,↓yX,↓xg,↓xh]
   exact ⟨hbad (by unfold Xg;simp;omega),eW⟩
 have d1:decide (f.bits < 1)=false:=by simpa using h1
 by_cases h2:f.bits > 32
 · have d2:decide (f.bits > 32)=true:=by simpa using h2
   simp (disch:=try exact DI) only [↓PR,QR,simprocAttr,hcell,d1,d2,↓qh,↓EO,↓Dk,↓yR,↓xG,↓yX,↓xg,↓xh]
   exact ⟨hbad (by unfold Xg;simp;omega),eW⟩
 have d2:decide (f.bits > 32)=false:=by simpa using h2
 have hsh:IntKind.i64.wrap (1*2 ^ f.bits.toNat)=2 ^ f.bits.toNat:=by
  have hle:f.bits.toNat≤32:=by omega
  have hq:(2:Nat) ^ f.bits.toNat≤2 ^ 32:=Nat.pow_le_pow_right (by decide) hle
  have hc:(2:Int) ^ f.bits.toNat=((2 ^ f.bits.toNat:Nat):Int):=by simp
  rw [Int.one_mul,hc]
  generalize (2:Nat) ^ f.bits.toNat=q at *
  have:(2:Nat) ^ 32=4294967296:=rfl
  exact Yk (by omega) (by omega)
 have hrest:Xg f=true→Dk (.pointer (some ⟨w0.heap.size,0,none⟩)) (ZQ λ r w'=>r = .int .i64 (xH f)∧Ext w0 w') W:=by
  intro hb
  have hv:xH f=if f.low < 0∨f.low > (if f.kind=2 then f.low else f.high)∨(if f.kind=2 then f.low else f.high)≥2 ^ f.bits.toNat then 7 else 0:=by unfold xH;rw [if_pos hb]
  rw [hv]
  clear hv
  have tail:∀ top:Int,top=(if f.kind=2 then f.low else f.high)→EO (.pointer (some ⟨w0.heap.size,0,none⟩)) (.int .i64 top) (ZQ λ r w'=>r = .int .i64 (if f.low < 0∨f.low > (if f.kind=2 then f.low else f.high)∨(if f.kind=2 then f.low else f.high)≥2 ^ f.bits.toNat then 7 else 0)∧Ext w0 w') W:=by
   intro top ht
   rw [← ht]
   have h0:(0:Int)≤f.bits:=by omega
   have h64:f.bits≤64:=by omega
   unfold EO
   by_cases a1:f.low < 0
   · simp (disch:=try exact DI) only [↓PR,QR,simprocAttr,hcell,show decide (f.low < 0)=true by simpa using a1]
     unfold qh
     simp (disch:=try exact DI) only [↓PR,QR,simprocAttr]
     exact ⟨by rw [if_pos (.inl a1)],eW⟩
   by_cases a2:f.low > top
   · simp (disch:=try exact DI) only [↓PR,QR,simprocAttr,hcell,show decide (f.low < 0)=false by simpa using a1,show decide (f.low > top)=true by simpa using a2]
     unfold qh
     simp (disch:=try exact DI) only [↓PR,QR,simprocAttr]
     exact ⟨by rw [if_pos (.inr (.inl a2))],eW⟩
   by_cases a3:top≥2 ^ f.bits.toNat
   · simp (disch:=try exact DI) only [↓PR,QR,simprocAttr,hcell,show decide (f.low < 0)=false by simpa using a1,show decide (f.low > top)=false by simpa using a2]
     unfold qh
     simp (disch:=try exact DI) only [↓PR,QR,simprocAttr,hcell,hsh,show decide (top≥2 ^ f.bits.toNat)=true by simpa using a3]
     exact ⟨by rw [if_pos (.inr (.inr a3))],eW⟩
   · simp (disch:=try exact DI) only [↓PR,QR,simprocAttr,hcell,show decide (f.low < 0)=false by simpa using a1,show decide (f.low > top)=false by simpa using a2]
     unfold qh
     simp (disch:=try exact DI) only [↓PR,QR,simprocAttr,hcell,hsh,show decide (top≥2 ^ f.bits.toNat)=false by simpa using a3]
     exact ⟨by rw [if_neg (by rintro (h | h | h)<;>contradiction)],eW⟩
  unfold Dk
  by_cases hk:f.kind=2
  · simp (disch:=try exact DI) only [↓PR,QR,simprocAttr,hcell,show (f.kind == 2)=true by simpa using hk]
    exact tail _ (by rw [if_pos hk])
  · simp (disch:=try exact DI) only [↓PR,QR,simprocAttr,hcell,show (f.kind == 2)=false by simpa using hk]
    exact tail _ (by rw [if_neg hk])
 cases hli:f.little with
 | false =>
  simp (disch:=try exact DI) only [↓PR,QR,simprocAttr,hcell,hli,d1,d2,↓xh,↓xg,↓yX,↓xG,↓yR]
  exact hrest (by unfold Xg;rw [hli];simp;omega)
 | true =>
  by_cases h16:f.bits=16
  · simp (disch:=try exact DI) only [↓PR,QR,simprocAttr,hcell,hli,d1,d2,show (f.bits != 16)=false by simp [h16],↓xh,↓xg,↓yX,↓xG,↓yR]
    exact hrest (by unfold Xg;rw [hli,h16];rfl)
  by_cases h24:f.bits=24
  · simp (disch:=try exact DI) only [↓PR,QR,simprocAttr,hcell,hli,d1,d2,show (f.bits != 16)=true by simp [h16],show (f.bits != 24)=false by simp [h24],↓xh,↓xg,↓yX,↓xG,↓yR]
    exact hrest (by unfold Xg;rw [hli,h24];rfl)
  by_cases h32:f.bits=32
  · simp (disch:=try exact DI) only [↓PR,QR,simprocAttr,hcell,hli,d1,d2,show (f.bits != 16)=true by simp [h16],show (f.bits != 24)=true by simp [h24],show (f.bits != 32)=false by simp [h32],↓xh,↓xg,↓yX,↓xG,↓yR]
    exact hrest (by unfold Xg;rw [hli,h32];rfl)
  · simp (disch:=try exact DI) only [↓PR,QR,simprocAttr,hcell,hli,d1,d2,show (f.bits != 16)=true by simp [h16],show (f.bits != 24)=true by simp [h24],show (f.bits != 32)=true by simp [h32],↓xh,↓xg,↓yX,↓xG,↓yR]
    refine ⟨hbad ?_,eW⟩
    unfold Xg
    rw [hli]
    by_cases h8:8 < f.bits
    · have:f.bits.tmod 8≠0:=by
       rw [Int.tmod_eq_emod_of_nonneg (by omega)];omega
      simp [this]
    · simp [h8]
def Ic (f:Zm):Bool :=
 (ZL (Zv f.kind) 98||!(f.bits != 0))&&((ZL (Zv f.kind) 108||!f.little)&&((ZL (Zv f.kind) 111||!f.loose)&&((ZL (Zv f.kind) 120||!(f.low != 0))&&((ZL (Zv f.kind) 104||!(f.high != 0)) &&
 ((ZL (Zv f.kind) 115||!(f.base != 0||(f.terms.length:Int) != 0))&&((ZL (Zv f.kind) 102||!!decide (f.of=⟨#[]⟩))&&((ZL (Zv f.kind) 116||!!decide (f.tag=⟨#[]⟩))&&((ZL (Zv f.kind) 114||!!decide (f.fr=⟨#[]⟩)) &&
 ((ZL (Zv f.kind) 99||(f.cases.length:Int) == 0)&&((ZL (Zv f.kind) 107||f.check == 0)&&(ZL (Zv f.kind) 121||f.key == 0)))))))))))
theorem EE {f:Zm} (h:1≤f.kind∧f.kind≤12):Ic f=decide (YA f=Kd f):=by
 have:f.kind=1∨f.kind=2∨f.kind=3∨f.kind=4∨f.kind=5∨f.kind=6∨f.kind=7∨f.kind=8∨f.kind=9∨f.kind=10∨f.kind=11∨f.kind=12:=by omega
 have e:(⟨#[]⟩:ByteArray)=ByteArray.empty:=rfl
 rw [Bool.eq_iff_iff]
 unfold Ic
 rcases this with hk | hk | hk | hk | hk | hk | hk | hk | hk | hk | hk | hk
 all_goals
  simp [YA,qa,jX,qH,jE,j6,jj,jv,jk,jt,GE,GL,Gy,Kd,hk,Zv,ZL,Zm.mk.injEq,and_assoc,e]
  try omega
theorem HT:ZL (Zv 1) 98=true∧ZL (Zv 1) 108=true∧ZL (Zv 1) 111=false∧ZL (Zv 1) 120=true∧ZL (Zv 1) 104=true∧ZL (Zv 1) 115=false∧ZL (Zv 1) 102=false∧ZL (Zv 1) 116=false∧ZL (Zv 1) 114=false∧ZL (Zv 1) 99=false∧ZL (Zv 1) 107=false∧ZL (Zv 1) 121=false∧ZL (Zv 2) 98=true∧ZL (Zv 2) 108=true∧ZL (Zv 2) 111=false∧ZL (Zv 2) 120=true∧ZL (Zv 2) 104=false∧ZL (Zv 2) 115=false∧ZL (Zv 2) 102=false∧ZL (Zv 2) 116=false∧ZL (Zv 2) 114=false∧ZL (Zv 2) 99=false∧ZL (Zv 2) 107=false∧ZL (Zv 2) 121=false∧ZL (Zv 3) 98=false∧ZL (Zv 3) 108=false∧ZL (Zv 3) 111=true∧ZL (Zv 3) 120=true∧ZL (Zv 3) 104=true∧ZL (Zv 3) 115=false∧ZL (Zv 3) 102=false∧ZL (Zv 3) 116=false∧ZL (Zv 3) 114=false∧ZL (Zv 3) 99=false∧ZL (Zv 3) 107=false∧ZL (Zv 3) 121=false∧ZL (Zv 4) 98=false∧ZL (Zv 4) 108=false∧ZL (Zv 4) 111=false∧ZL (Zv 4) 120=false∧ZL (Zv 4) 104=false∧ZL (Zv 4) 115=true∧ZL (Zv 4) 102=false∧ZL (Zv 4) 116=false∧ZL (Zv 4) 114=false∧ZL (Zv 4) 99=false∧ZL (Zv 4) 107=false∧ZL (Zv 4) 121=false∧ZL (Zv 5) 98=false∧ZL (Zv 5) 108=false∧ZL (Zv 5) 111=false∧ZL (Zv 5) 120=true∧ZL (Zv 5) 104=true∧ZL (Zv 5) 115=false∧ZL (Zv 5) 102=false∧ZL (Zv 5) 116=false∧ZL (Zv 5) 114=false∧ZL (Zv 5) 99=false∧ZL (Zv 5) 107=false∧ZL (Zv 5) 121=false∧ZL (Zv 6) 98=false∧ZL (Zv 6) 108=false∧ZL (Zv 6) 111=true∧ZL (Zv 6) 120=false∧ZL (Zv 6) 104=true∧ZL (Zv 6) 115=false∧ZL (Zv 6) 102=false∧ZL (Zv 6) 116=false∧ZL (Zv 6) 114=false∧ZL (Zv 6) 99=false∧ZL (Zv 6) 107=false∧ZL (Zv 6) 121=false∧ZL (Zv 7) 98=false∧ZL (Zv 7) 108=false∧ZL (Zv 7) 111=false∧ZL (Zv 7) 120=false∧ZL (Zv 7) 104=false∧ZL (Zv 7) 115=true∧ZL (Zv 7) 102=true∧ZL (Zv 7) 116=false∧ZL (Zv 7) 114=false∧ZL (Zv 7) 99=false∧ZL (Zv 7) 107=false∧ZL (Zv 7) 121=false∧ZL (Zv 8) 98=false∧ZL (Zv 8) 108=false∧ZL (Zv 8) 111=false∧ZL (Zv 8) 120=false∧ZL (Zv 8) 104=false∧ZL (Zv 8) 115=false∧ZL (Zv 8) 102=true∧ZL (Zv 8) 116=false∧ZL (Zv 8) 114=false∧ZL (Zv 8) 99=false∧ZL (Zv 8) 107=false∧ZL (Zv 8) 121=false∧ZL (Zv 9) 98=false∧ZL (Zv 9) 108=false∧ZL (Zv 9) 111=false∧ZL (Zv 9) 120=false∧ZL (Zv 9) 104=false∧ZL (Zv 9) 115=false∧ZL (Zv 9) 102=false∧ZL (Zv 9) 116=true∧ZL (Zv 9) 114=false∧ZL (Zv 9) 99=true∧ZL (Zv 9) 107=false∧ZL (Zv 9) 121=false∧ZL (Zv 10) 98=true∧ZL (Zv 10) 108=false∧ZL (Zv 10) 111=false∧ZL (Zv 10) 120=false∧ZL (Zv 10) 104=false∧ZL (Zv 10) 115=false∧ZL (Zv 10) 102=false∧ZL (Zv 10) 116=false∧ZL (Zv 10) 114=false∧ZL (Zv 10) 99=false∧ZL (Zv 10) 107=false∧ZL (Zv 10) 121=false∧ZL (Zv 11) 98=false∧ZL (Zv 11) 108=false∧ZL (Zv 11) 111=false∧ZL (Zv 11) 120=false∧ZL (Zv 11) 104=false∧ZL (Zv 11) 115=false∧ZL (Zv 11) 102=false∧ZL (Zv 11) 116=false∧ZL (Zv 11) 114=true∧ZL (Zv 11) 99=false∧ZL (Zv 11) 107=true∧ZL (Zv 11) 121=false∧ZL (Zv 12) 98=false∧ZL (Zv 12) 108=false∧ZL (Zv 12) 111=false∧ZL (Zv 12) 120=false∧ZL (Zv 12) 104=false∧ZL (Zv 12) 115=true∧ZL (Zv 12) 102=true∧ZL (Zv 12) 116=false∧ZL (Zv 12) 114=false∧ZL (Zv 12) 99=false∧ZL (Zv 12) 107=false∧ZL (Zv 12) 121=true:=by
 repeat' apply And.intro
 all_goals decide
theorem Mo (w0:World) (v:Value) (f:Zm) (hf:ZV w0 v f) (hk:1≤f.kind∧f.kind≤12):Ret Pg 119 #[v] w0 λ r w'=>r = .bool (Ic f)∧Ext w0 w':=by
 obtain ⟨tv,cv,rfl,hT,hC,_,_⟩:=hf.op
 obtain ⟨At,ct,rfl,_⟩:=Ze.open hT
 obtain ⟨Ac,cc,rfl,_⟩:=Ze.open hC
 refine Zfy (R:=ZQ _) ?_;unfold n42
 simp (disch:=try exact DI) only [↓PR,QR,simprocAttr]
 have hBW:=ZS.new (w:=w0) (Zo f (.slice At f.terms.length ct) (.slice Ac f.cases.length cc)) (48)
 have eW:Ext w0 (w0.alloc (Obj.cells (List.toArray (Zo f (.slice At f.terms.length ct) (.slice Ac f.cases.length cc))) (48))):=(Ext.refl _).alloc _
 generalize (w0.alloc (Obj.cells (List.toArray (Zo f (.slice At f.terms.length ct) (.slice Ac f.cases.length cc))) (48)))=W at hBW eW ⊢
 have hcell:=hBW.c15 (Ext.refl W)
 simp (disch:=try exact DI) only [↓PR,QR,simprocAttr,hcell]
 refine zcr (Li _ f.kind hk.1 hk.2) λ w1 e1=>?_
 have hcell:=hBW.c15 e1
 have E:=eW.trans e1
 unfold Ic
 have this:f.kind=1∨f.kind=2∨f.kind=3∨f.kind=4∨f.kind=5∨f.kind=6∨f.kind=7∨f.kind=8∨f.kind=9∨f.kind=10∨f.kind=11∨f.kind=12:=by omega
 clear hk hT hC e1 eW hBW
 rcases this with hk | hk | hk | hk | hk | hk | hk | hk | hk | hk | hk | hk
 all_goals
  simp only [hk,HT,Bool.true_or,Bool.false_or,Bool.true_and]
  repeat' first
   | exact ⟨by trivial,by first | trivial | exact E⟩
   | (refine Zt (N5 _ _ _ (by decide)) ?_;rintro _ _ ⟨rfl,rfl⟩;simp (disch:=try exact DI) only [↓PR,QR,simprocAttr,↓IY,↓HZ,↓HR,↓H6,↓HM,↓Iw,↓IQ,↓H7,↓HP,↓CB,↓CD,↓Cz,↓BM,↓Ca,↓CP,↓CN,↓Ce,↓BS,↓CL,↓CI,↓Cp,↓Cc,↓CV,↓Cl,↓Cw,HT, *])
   | (refine VV (λ _=>?_) (λ _=>?_)<;>simp (disch:=try exact DI) only [↓PR,QR,simprocAttr,↓IY,↓HZ,↓HR,↓H6,↓HM,↓Iw,↓IQ,↓H7,↓HP,↓CB,↓CD,↓Cz,↓BM,↓Ca,↓CP,↓CN,↓Ce,↓BS,↓CL,↓CI,↓Cp,↓Cc,↓CV,↓Cl,↓Cw,HT, *])
   | (refine We (λ _=>?_) (λ _=>?_)<;>simp (disch:=try exact DI) only [↓PR,QR,simprocAttr,↓IY,↓HZ,↓HR,↓H6,↓HM,↓Iw,↓IQ,↓H7,↓HP,↓CB,↓CD,↓Cz,↓BM,↓Ca,↓CP,↓CN,↓Ce,↓BS,↓CL,↓CI,↓Cp,↓Cc,↓CV,↓Cl,↓Cw,HT, *])
theorem qL {α:Type} {t T n m:Nat} {z:Value} {agg:Bool} {enc:α→List Value} {v:Value} {l:List α} {base b:Nat} {w:World} {QP:List PanicEntry→World→Prop} {k:Value→World→Prop} (ht:Pg.underlying t=some (.slice T)) (hT:ZJ Pg T agg n m z) (hby:m≤4096) (hz:z.cells.size=n) (h0:0 < n) (hn:∀ x,(enc x).length=n) (x:α) (h1:∀ u∈enc x,u.oneCell'=true)
 (hown:Z5 w base T n enc v l) (hc:ZS w b 0 (enc x)) (hbase:base≤w.heap.size) (hl:l.length≤1048576)
 (hk:∀ v' w',Z5 w' base T n enc v' (l++[x])→(∀ a,Ext a w→a.heap.size≤base→Ext a w')→k v' w') :
 opV Pg (Builtin.append_ #[t,t] t #[v,.slice (some ⟨b,0,none⟩) 1 1]) QP w k:=by
 refine X7 (l':=[x]) ht hT hz h0 hn (λ y hy=>by simp at hy;subst hy;exact h1) hown (λ j y hy=>?_) hbase ?_ (by simp;omega) (λ v' w' ho hg=>hk v' w' ho λ a e ha=>e.grown hg λ k hk=>Nat.le_trans ha ((World.ownsRow.lt hown k hk).1))
 · cases j with
   | zero=>simp at hy;subst hy;simpa using hc
   | succ j=>simp at hy
 · simp only [List.length_cons,List.length_nil]
   exact Nat.le_trans (Nat.mul_le_mul (Nat.add_le_add_right hl 1) hby) (by decide)
theorem Xk {P:Program} {QP:List PanicEntry→World→Prop} {w:World} {k:Value→World→Prop} (T:TypeId) (cs:Array Value):opV P (Instr.box T (.agg cs)) QP w k=k (.pointer (some ⟨w.heap.size,0,none⟩)) (w.alloc (.cells cs T)):=Pt T (.agg cs)
theorem UT {α:Type} {w:World} {n:Nat} {E:World→List Value→α→Prop} {v:Value} {l:List α} (h:Ze w n E v l) {i:Nat} {x:α} (hi:l[i]?=some x) :
 ∃ b o c,v = .slice (some ⟨b,o,none⟩) l.length c∧l.length≤c∧c≤9223372036854775807∧l.length≤9223372036854775807∧i < l.length∧∀ k x,l[k]?=some x→∃ cs,cs.length=n∧ZS w b (o+k*n) cs∧E w cs x:=by
 obtain ⟨A,c,h1,h2,h3,h4⟩:=h
 obtain ⟨b,o,rfl,h5⟩:=h4 (by rintro rfl;cases hi)
 exact ⟨b,o,c,h1,h2,h3,by omega,(List.getElem?_eq_some_iff.1 hi).1,h5⟩
theorem O7 {α:Type} {p:α→Prop} {l:List α} {k:Nat} {x:α} (h:∀ y∈l.take k,p y) (hx:l[k]?=some x) (hp:p x):∀ y∈l.take (k+1),p y:=by
 rw [ZU hx]
 intro y hy
 rcases List.mem_append.1 hy with hy | hy
 · exact h y hy
 · rw [List.mem_singleton.1 hy];exact hp
def Ha (l:List Zm):Prop:=l.Pairwise λ a b=>a.name≠b.name
theorem Ha.eq {l:List Zm} (h:Ha l) {a b:Zm} (ha:a∈l) (hb:b∈l) (hn:a.name=b.name):a=b:=by
 induction l with
 | nil=>cases ha
 | cons x l ih =>
  obtain ⟨h1,h2⟩:=List.pairwise_cons.1 h
  rcases List.mem_cons.1 ha with ha' | ha'<;>rcases List.mem_cons.1 hb with hb' | hb'
  · rw [ha',hb']
  · subst ha';exact absurd hn (h1 _ hb')
  · subst hb';exact absurd hn.symm (h1 _ ha')
  · exact ih h2 ha' hb'
theorem JY {rp:List (ByteArray×Int×Int)} {s:ByteArray}:Yn rp s=none↔∀ q,(s,q) ∉ rp:=by
 constructor
 · intro h q hq
   unfold Yn at h
   rw [Option.map_eq_none_iff,List.find?_eq_none] at h
   exact h (s,q) (List.mem_reverse.2 hq) (by simp)
 · intro h
   cases hl:Yn rp s with
   | none=>rfl
   | some q=>exact absurd (Vj hl) (h q)
theorem j2 {l:List Zm} {s:ByteArray} {q:Int×Int}:(s,q)∈YS l↔∃ f∈l,YB f=true∧f.name=s∧q=(f.low,Y5 f):=by
 unfold YS
 simp only [List.mem_map,List.mem_filter,Prod.mk.injEq]
 constructor
 · rintro ⟨f,⟨h1,h2⟩,h3,h4⟩;exact ⟨f,h1,h2,h3,by rw [← h4]⟩
 · rintro ⟨f,h1,h2,h3,h4⟩;exact ⟨f,⟨h1,h2⟩,h3,by rw [h4]⟩
theorem Bu {bef:List Zm} (hd:Ha bef) (s:ByteArray):(idx (λ g=>decide (g.name=s)) bef = -1∧Yn (YS bef) s=none) ∨
 ∃ (k:Nat) (g:Zm),idx (λ g=>decide (g.name=s)) bef=k∧bef[k]?=some g∧Yn (YS bef) s=if YB g then some (g.low,Y5 g) else none:=by
 unfold idx
 cases h:bef.findIdx? (λ g=>decide (g.name=s)) with
 | none =>
  rw [List.findIdx?_eq_none_iff] at h
  refine .inl ⟨rfl,JY.2 λ q hq=>?_⟩
  obtain ⟨f,hf,_,h3,_⟩:=j2.1 hq
  simpa [h3] using h f hf
 | some k =>
  obtain ⟨hk,hp,_⟩:=List.findIdx?_eq_some_iff_getElem.1 h
  refine .inr ⟨k,bef[k],rfl,List.getElem?_eq_getElem hk,?_⟩
  have hg:bef[k]∈bef:=List.getElem_mem hk
  generalize bef[k]=g at hg hp
  simp only [decide_eq_true_eq] at hp
  cases hl:Yn (YS bef) s with
  | none =>
   rw [if_neg]
   intro hn
   exact JY.1 hl _ (j2.2 ⟨g,hg,hn,hp,rfl⟩)
  | some q =>
   obtain ⟨f,hf,h2,h3,h4⟩:=j2.1 (Vj hl)
   have:=hd.eq hf hg (h3.trans hp.symm)
   subst this
   rw [if_pos h2,h4]
theorem JC {ps ps':List (ByteArray×Value)} {but:ByteArray} {p:Value→Bool}:∀ (ts:List ZX) (no:Bool),(∀ t∈ts,Yh ps t.field=Yh ps' t.field)→YX but ps p ts no=YX but ps' p ts no
 | [],no,_=>rfl
 | t::ts,no,h=>by
  have ih:=λ no=>JC (but:=but) (p:=p) ts no λ t ht=>h t (List.mem_cons_of_mem _ ht)
  simp only [YX,h t (List.mem_cons_self ..),ih]
theorem qy {f g:ZX→Int}:∀ (ts:List ZX) (n:Int),(∀ t∈ts,f t=g t)→G3 n f ts=G3 n g ts
 | [],n,_=>rfl
 | t::ts,n,h=>by
  have ih:=λ n=>qy ts n λ t ht=>h t (List.mem_cons_of_mem _ ht)
  unfold G3 at *
  simp only [List.foldl_cons,h t (List.mem_cons_self ..),ih]
theorem Om {base:Int} {ts:List ZX} {rp rp':List (ByteArray×Int×Int)} (h:∀ t∈ts,Yn rp t.field=Yn rp' t.field):Yw base ts rp=Yw base ts rp'∧X3 base ts rp=X3 base ts rp'∧X1 base ts rp=X1 base ts rp':=by
 have he:Yw base ts rp=Yw base ts rp':=by
  unfold Yw
  rw [JC (ps':=RP rp') ts false λ t ht=>by rw [QK,QK,h t ht]]
 have hl:∀ least,G3 base (Qu rp least) ts=G3 base (Qu rp' least) ts:=λ least=>qy ts base λ t ht=>by unfold Qu;rw [h t ht]
 unfold X3 X1
 rw [he,hl,hl]
 exact ⟨rfl,rfl,rfl⟩
def KA (rp:List (ByteArray×Int×Int)) (ts:List ZX):List (ByteArray×Int×Int):=ts.map λ t=>(t.field,XO rp t)
theorem jT {rp:List (ByteArray×Int×Int)} {ts:List ZX} (h:∀ t∈ts,(Yn rp t.field).isSome=true) {t:ZX} (ht:t∈ts):Yn (KA rp ts) t.field=Yn rp t.field:=by
 have e:∀ t∈ts,Yn rp t.field=some (XO rp t):=λ t ht=>by
  have:=h t ht
  unfold XO
  cases hl:Yn rp t.field with
  | none=>rw [hl] at this;cases this
  | some q=>rfl
 cases hl:Yn (KA rp ts) t.field with
 | none=>exact absurd (List.mem_map.2 ⟨t,ht,rfl⟩) (JY.1 hl (XO rp t))
 | some q =>
  obtain ⟨u,hu,h2⟩:=List.mem_map.1 (Vj hl)
  injection h2 with h2 h3
  rw [← h3,← e u hu,h2]
theorem yL {rp:List (ByteArray×Int×Int)}:∀ {ts:List ZX},(∀ t∈ts,(Yn rp t.field).isSome=true)→QY rp ts=0
 | [],_=>rfl
 | t::ts,h=>by
  simp only [QY,h t (List.mem_cons_self ..),yL λ t ht=>h t (List.mem_cons_of_mem _ ht)]
  rfl
theorem Gd {rp:List (ByteArray×Int×Int)}:∀ {ts:List ZX} {t:ZX},t∈ts→Yn rp t.field=none→QY rp ts=8
 | u::ts,t,ht,h=>by
  simp only [QY]
  cases hu:(Yn rp u.field).isSome with
  | false=>rfl
  | true =>
   rcases List.mem_cons.1 ht with rfl | ht
   · rw [h] at hu;cases hu
   · rw [Gd ht h];rfl
open Go.Shelf
def jh:Go.Shelf.Ren:=⟨λ | 189=>83 | 125=>116 | 257=>115 | 128=>144 | 129=>145 | 294=>135 | 295=>136 | 296=>137 | 297=>138 | 298=>139 | 299=>140 | 216=>141 | 300=>142 | 301=>143 | 328=>176 | 329=>177 | 330=>178 | 331=>179 | 332=>180 | 215=>181 | 343=>191 | n=>n,λ | 28=>30 | 3=>3 | 46=>159 | 0=>0 | 51=>186 | 53=>188 | 4=>4 | 183=>179 | 182=>178 | 131=>63 | 5=>5 | 9=>9 | 218=>207 | 222=>211 | 228=>223 | 229=>194 | n=>n,λ | n=>n⟩
theorem Ah:Go.Proofs.Lays.n189 Pg jh:={
 mixed:=by kernel_rfl
 f125:=Tryz.func116.trans (congrArg some (by kernel_rfl))
 f128:=Tryz.func144.trans (congrArg some (by kernel_rfl))
 f129:=Tryz.func145.trans (congrArg some (by kernel_rfl))
 f189:=Tryz.func83.trans (congrArg some (by kernel_rfl))
 f215:=Tryz.func181.trans (congrArg some (by kernel_rfl))
 f216:=Tryz.func141.trans (congrArg some (by kernel_rfl))
 f257:=Tryz.func115.trans (congrArg some (by kernel_rfl))
 f294:=Tryz.func135.trans (congrArg some (by kernel_rfl))
 f295:=Tryz.func136.trans (congrArg some (by kernel_rfl))
 f296:=Tryz.func137.trans (congrArg some (by kernel_rfl))
 f297:=Tryz.func138.trans (congrArg some (by kernel_rfl))
 f298:=Tryz.func139.trans (congrArg some (by kernel_rfl))
 f299:=Tryz.func140.trans (congrArg some (by kernel_rfl))
 f300:=Tryz.func142.trans (congrArg some (by kernel_rfl))
 f301:=Tryz.func143.trans (congrArg some (by kernel_rfl))
 f328:=Tryz.func176.trans (congrArg some (by kernel_rfl))
 f329:=Tryz.func177.trans (congrArg some (by kernel_rfl))
 f330:=Tryz.func178.trans (congrArg some (by kernel_rfl))
 f331:=Tryz.func179.trans (congrArg some (by kernel_rfl))
 f332:=Tryz.func180.trans (congrArg some (by kernel_rfl))
 f343:=Tryz.func191.trans (congrArg some (by kernel_rfl))
 t0:=Tryz.underlying0
 a0:=Tryz.isAgg0
 z0:=Tryz.sizeOf0
 v0:=Tryz.zeroValue0
 t3:=Tryz.underlying3
 a3:=Tryz.isAgg3
 z3:=Tryz.sizeOf3
 v3:=Tryz.zeroValue3
 t4:=Tryz.underlying4
 a4:=Tryz.isAgg4
 z4:=Tryz.sizeOf4
 v4:=Tryz.zeroValue4
 t5:=Tryz.underlying5
 a5:=Tryz.isAgg5
 z5:=Tryz.sizeOf5
 v5:=Tryz.zeroValue5
 t9:=Tryz.underlying9
 a9:=Tryz.isAgg9
 z9:=Tryz.sizeOf9
 v9:=Tryz.zeroValue9
 t28:=Tryz.underlying30
 a28:=Tryz.isAgg30
 z28:=Tryz.sizeOf30
 v28:=Tryz.zeroValue30
 t46:=Tryz.underlying159
 a46:=Tryz.isAgg159
 z46:=Tryz.sizeOf159
 v46:=Tryz.zeroValue159
 t51:=Tryz.underlying186
 a51:=Tryz.isAgg186
 z51:=Tryz.sizeOf186
 v51:=Tryz.zeroValue186
 t53:=Tryz.underlying188
 a53:=Tryz.isAgg188
 z53:=Tryz.sizeOf188
 v53:=Tryz.zeroValue188
 t131:=Tryz.underlying63
 a131:=Tryz.isAgg63
 z131:=Tryz.sizeOf63
 v131:=Tryz.zeroValue63
 t182:=Tryz.underlying178
 a182:=Tryz.isAgg178
 z182:=Tryz.sizeOf178
 v182:=Tryz.zeroValue178
 t183:=Tryz.underlying179
 a183:=Tryz.isAgg179
 z183:=Tryz.sizeOf179
 v183:=Tryz.zeroValue179
 t218:=Tryz.underlying207
 a218:=Tryz.isAgg207
 z218:=Tryz.sizeOf207
 v218:=Tryz.zeroValue207
 t222:=Tryz.underlying211
 a222:=Tryz.isAgg211
 z222:=Tryz.sizeOf211
 v222:=Tryz.zeroValue211
 t228:=Tryz.underlying223
 a228:=Tryz.isAgg223
 z228:=Tryz.sizeOf223
 v228:=Tryz.zeroValue223
 t229:=Tryz.underlying194
 a229:=Tryz.isAgg194
 z229:=Tryz.sizeOf194
 v229:=Tryz.zeroValue194 }
open Go.Sort Go.RowKit in
theorem JS (blk off cap:Nat) (zs:List Int) (w:World) (hH:Holds (Value.int .i64) w blk off zs.toArray) (hblk:blk < w.heap.size) (hsz:zs.length < 4611686018427387904) :
 Calls Pg 83 #[.slice (some ⟨blk,off,none⟩) zs.length cap] w λ e w' =>
  e = .returned (.tuple #[])∧∃ n os,w'=grow (putRow (Value.int .i64) (Sort.ahead w n) blk off (zs.mergeSort λ x y=>decide (x≤y)).toArray) os:=Any.slices_Sort_int Ah blk off cap zs w hH hblk hsz
def zi:Go.Shelf.Ren:=⟨λ | 20=>84 | n=>n,λ | 22=>30 | 3=>3 | 4=>4 | 0=>0 | n=>n,λ | n=>n⟩
theorem GM:Go.Proofs.Lays2.n20 Pg zi:={
 mixed:=by kernel_rfl
 f20:=Tryz.func84.trans (congrArg some (by kernel_rfl))
 t0:=Tryz.underlying0
 a0:=Tryz.isAgg0
 z0:=Tryz.sizeOf0
 v0:=Tryz.zeroValue0
 t3:=Tryz.underlying3
 a3:=Tryz.isAgg3
 z3:=Tryz.sizeOf3
 v3:=Tryz.zeroValue3
 t4:=Tryz.underlying4
 a4:=Tryz.isAgg4
 z4:=Tryz.sizeOf4
 v4:=Tryz.zeroValue4
 t22:=Tryz.underlying30
 a22:=Tryz.isAgg30
 z22:=Tryz.sizeOf30
 v22:=Tryz.zeroValue30
 i3:=by kernel_rfl }
open Go.RowKit Go.Lib Go.Sort in
open Go.RowKit Go.Lib Go.Sort in
theorem U1 (blk off cap:Nat) (zs:List Int) (w:World) (hH:Holds (Value.int .i64) w blk off zs.toArray) (hsz:zs.length≤9223372036854775807) (hcap:zs.length≤cap) :
 Calls Pg 84 #[.slice (some ⟨blk,off,none⟩) zs.length cap] w λ e w'=>e = .returned (.slice (some ⟨blk,off,none⟩) (Lib.compact zs).length cap)∧∃ q,w'=putRow (Value.int .i64) (Sort.ahead w q) blk off (Lib.compact zs++List.replicate (zs.length - (Lib.compact zs).length) 0).toArray:=Any.slices_Compact_int GM blk off cap zs w hH hsz hcap
open Go.RowKit Go.Lib Go.Sort in
theorem Vf (a:Option Addr) (cap:Nat) (w:World) :
 Calls Pg 84 #[.slice a 0 cap] w λ e w'=>e = .returned (.slice a 0 cap)∧w'=w:=Any.slices_Compact_int_empty GM a cap w
open Go.RowKit Go.Sort in
theorem Ud (p:Option Addr) (cap:Nat) (w:World) :
 Calls Pg 83 #[.slice p 0 cap] w λ e w'=>e = .returned (.tuple #[])∧w'=w:=Any.slices_Sort_int_none Ah p cap w
abbrev ZbP (n:Int):List Value:=[.int .i64 n]
abbrev Yy (w:World) (base:Nat) (v:Value) (l:List Int):Prop:=Z5 w base 3 1 ZbP v l
theorem Vi (l:List Int):l.flatMap ZbP=l.map λ n=>Value.int .i64 n:=by
 induction l with
 | nil=>rfl
 | cons x l ih=>rw [List.flatMap_cons,ih];rfl
def Vx (base:Nat) (w w':World):Prop:=w.heap.size≤w'.heap.size∧(∀ a,Ext a w→a.heap.size≤base→Ext a w')∧∀ (k:Nat) (o:Obj),w.heap[k]?=some o→(∀ cs T fr,o ≠ .cells cs T fr)→w'.heap[k]?=some o
theorem Vx.refl (base:Nat) (w:World):Vx base w w:=⟨Nat.le_refl _,λ _ e _=>e,λ _ _ h _=>h⟩
theorem Vx.trans {base:Nat} {w w1 w2:World} (h:Vx base w w1) (k:Vx base w1 w2):Vx base w w2:=⟨Nat.le_trans h.1 k.1,λ a e ha=>k.2.1 a (h.2.1 a e ha) ha,λ q o hq hn=>k.2.2 q o (h.2.2 q o hq hn) hn⟩
theorem Vx.ext {base:Nat} {w w1 w2:World} (h:Vx base w w1) (e:Ext w1 w2):Vx base w w2:=⟨Nat.le_trans h.1 e.size,λ a ea ha=>(h.2.1 a ea ha).trans e,λ q o hq hn=>e.obj (h.2.2 q o hq hn)⟩
theorem Vx.mark {base:Nat} {w w':World} (h:Vx base w w') {B:Nat} (hm:Z6 B w):Z6 B w':=h.2.2 _ _ hm (λ _ _ _ e=>by cases e)
theorem Vx.rec {base:Nat} {w w':World} (h:Vx base w w') {r:Loop} {B:Nat} (hm:Xa r B w):Xa r B w':=⟨h.mark hm.1,let ⟨st,p,hp⟩:=hm.2; ⟨st,p,h.2.2 _ _ hp (λ _ _ _ e=>by cases e)⟩⟩
theorem Vx.low {base:Nat} {w w':World} (h:Vx base w w') {k:Nat} (hk:k < base) {o:Obj} (ho:w.heap[k]?=some o):w'.heap[k]?=some o:=by
 have hkl:=(Array.getElem?_eq_some_iff.1 ho).1
 have hb:∀ g,g < k+1→(w.heap.extract 0 (k+1))[g]?=w.heap[g]?:=λ g hg=>by
  rw [Array.getElem?_extract]
  simp only [Nat.zero_add]
  rw [if_pos (by omega)]
 have hs:(w.heap.extract 0 (k+1)).size=k+1:=by rw [Array.size_extract];omega
 have ea:Ext { w with heap:=w.heap.extract 0 (k+1) } w:=⟨rfl,rfl,rfl,by show (w.heap.extract 0 (k+1)).size≤_;omega,λ g hg=>(hb g (by rw [← hs];exact hg)).symm⟩
 have:=h.2.1 _ ea (by show (w.heap.extract 0 (k+1)).size≤base;omega)
 exact this.obj ((hb k (Nat.lt_succ_self _)).trans ho)
theorem ES {w:World} {base:Nat} {v:Value} {l:List Int} (h:Yy w base v l) {g:Nat} (hg:v.ownBlock=some g):∃ cur,w.heap[g]?=some (.cells cur 3 (0,0)):=by
 rcases h.2 with ⟨rfl,_⟩ | ⟨g',cap,cur,rfl,_,h3,_⟩
 · cases hg
 · injection hg with hg;subst hg;exact ⟨cur,h3⟩
theorem Gm {α:Type} {base n:Nat} {T:TypeId} {enc:α→List Value} {w w':World} {v:Value} {l:List α} (h:Z5 w base T n enc v l) (hg:w.grownBy w' v.ownBlock):Vx base w w':=by
 refine ⟨hg.size,λ a e ha=>e.grown hg λ k hk=>Nat.le_trans ha ((World.ownsRow.lt h k hk).1),λ q o hq hn=>(hg.block q (Array.getElem?_eq_some_iff.1 hq).1 λ e=>?_).trans hq⟩
 rcases h.2 with ⟨rfl,_⟩ | ⟨g',cap,cur,rfl,_,h3,_⟩
 · cases e
 · injection e with e;subst e;rw [hq] at h3;injection h3 with h3;exact hn _ _ _ h3
theorem put_own {w:World} {base g cap:Nat} {l l':List Int} (h:Yy w base (.slice (some ⟨g,0,none⟩) l.length cap) l) (hl:l'.length=l.length) (n:Nat) (os:Array Obj) :
 Yy (Sort.grow (Sort.putRow (Value.int .i64) (Sort.ahead w n) g 0 l'.toArray) os) base (.slice (some ⟨g,0,none⟩) l.length cap) l'∧Vx base w (Sort.grow (Sort.putRow (Value.int .i64) (Sort.ahead w n) g 0 l'.toArray) os):=by
 rcases h.2 with ⟨h0,_⟩ | ⟨g',cap',cur,h1,hb,hg,hc,hm,hs,ht⟩
 · cases h0
 injection h1 with h1 h1' h1''
 injection h1 with h1
 injection h1 with h1
 subst h1 h1''
 have hlt:=(Array.getElem?_eq_some_iff.1 hg).1
 have hkeep:∀ k,k < w.heap.size→k≠g→(Sort.grow (Sort.putRow (Value.int .i64) (Sort.ahead w n) g 0 l'.toArray) os).heap[k]?=w.heap[k]?:=by
  intro k hk hne
  unfold Sort.grow Sort.putRow Sort.mapBlock Sort.ahead
  dsimp only
  rw [Array.getElem?_append_left (by simpa using hk),Array.getElem?_modify,if_neg (Ne.symm hne)]
 have hrow:(Sort.grow (Sort.putRow (Value.int .i64) (Sort.ahead w n) g 0 l'.toArray) os).heap[g]?=some (.cells (Sort.putCells (Value.int .i64) 0 l'.toArray cur) 3 (0,0)):=by
  unfold Sort.grow Sort.putRow Sort.mapBlock Sort.ahead
  dsimp only
  rw [Array.getElem?_append_left (by simpa using hlt),Array.getElem?_modify,if_pos rfl,hg]
  rfl
 have hsz:w.heap.size≤(Sort.grow (Sort.putRow (Value.int .i64) (Sort.ahead w n) g 0 l'.toArray) os).heap.size:=by
  unfold Sort.grow Sort.putRow Sort.mapBlock Sort.ahead
  simp
 refine ⟨⟨by rw [Vi,List.length_map,Nat.mul_one],.inr ⟨g,cap,_,by rw [hl],hb,hrow,by rw [hl];exact hc,hm,by unfold Sort.putCells;rw [Array.size_mapIdx];exact hs,?_⟩⟩,hsz,λ a e ha=>⟨e.os,e.tape,e.output,Nat.le_trans e.size hsz,λ k hk=>(hkeep k (Nat.lt_of_lt_of_le hk e.size) (by omega)).trans (e.block k hk)⟩,λ q o hq hn=>(hkeep q (Array.getElem?_eq_some_iff.1 hq).1 (by rintro rfl;rw [hg] at hq;injection hq with hq;exact hn _ _ _ hq.symm)).trans hq⟩
 rw [Vi]
 apply List.ext_getElem?
 intro k
 rw [List.getElem?_take,List.getElem?_map]
 by_cases hk:k < l'.length
 · rw [if_pos (by omega),Array.getElem?_toList]
   unfold Sort.putCells
   rw [Array.getElem?_mapIdx]
   have hkc:k < cur.size:=by rw [hs,Nat.mul_one];omega
   rw [Array.getElem?_eq_getElem hkc,List.getElem?_eq_getElem hk]
   simp only [Option.map_some,List.size_toArray]
   rw [if_pos ⟨Nat.zero_le _,by omega⟩,Nat.sub_zero,getElem!_pos _ k (by simpa using hk)]
   simp
 · rw [if_neg (by omega),List.getElem?_eq_none (by omega)]
   rfl
theorem Mf {w:World} {base g cap:Nat} {l r:List Int} {n:Nat} (h:Yy w base (.slice (some ⟨g,0,none⟩) n cap) (l++r)):Yy w base (.slice (some ⟨g,0,none⟩) l.length cap) l:=by
 rcases h.2 with ⟨h0,_⟩ | ⟨g',cap',cur,h1,hb,hg,hc,hm,hs,ht⟩
 · cases h0
 injection h1 with h1 h1' h1''
 injection h1 with h1
 injection h1 with h1
 subst h1 h1''
 refine ⟨by rw [Vi,List.length_map,Nat.mul_one],.inr ⟨g,cap,cur,rfl,hb,hg,by rw [List.length_append] at hc;omega,hm,hs,?_⟩⟩
 rw [Vi,Nat.mul_one] at *
 rw [List.map_append] at ht
 have:=congrArg (List.take l.length) ht
 rw [List.take_take,List.length_append,Nat.min_eq_left (by omega),List.take_append_of_le_length (by simp)] at this
 rw [this,List.take_of_length_le (by simp)]
theorem own_holds {w:World} {base g cap n:Nat} {l:List Int} (h:Yy w base (.slice (some ⟨g,0,none⟩) n cap) l):g < w.heap.size∧l.length≤cap∧cap≤9223372036854775807∧Sort.Holds (Value.int .i64) w g 0 l.toArray:=by
 rcases h.2 with ⟨h0,_⟩ | ⟨g',cap',cur,h1,hb,hg,hc,hm,hs,ht⟩
 · cases h0
 injection h1 with h1 h1' h1''
 injection h1 with h1
 injection h1 with h1
 subst h1 h1''
 refine ⟨(Array.getElem?_eq_some_iff.1 hg).1,hc,by simp only [maxLen] at hm;omega,λ j hj=>⟨?_,(Za hg).2 _⟩⟩
 have hj':j < l.length:=by simpa using hj
 rw [(Za hg).1,Nat.zero_add,getElem!_pos _ j hj]
 rw [Vi,Nat.mul_one] at ht
 have:=congrArg (λ x:List Value=>x[j]?) ht
 rw [List.getElem?_take,if_pos hj',List.getElem?_map,List.getElem?_eq_getElem hj',Array.getElem?_toList] at this
 simpa using this
theorem DE {w:World} {base:Nat} {v:Value} {l:List Int} (h:Yy w base v l) (hl:l.length≤1048576):Ret Pg 83 #[v] w λ r w'=>r = .tuple #[]∧Yy w' base v (l.mergeSort λ x y=>decide (x≤y))∧Vx base w w':=by
 rcases h.2 with ⟨rfl,h0⟩ | ⟨g,cap,cur,rfl,hb,hg,hc,hm,hs,ht⟩
 · obtain rfl:l=[]:=List.eq_nil_of_length_eq_zero h0
   refine Calls.mono (Ud none 0 w) ?_
   rintro e w' ⟨rfl,rfl⟩
   exact ⟨_,rfl,rfl,by rw [List.mergeSort_nil];exact h,Vx.refl _ _⟩
 · obtain ⟨a1,a2,a3,a4⟩:=own_holds h
   refine Calls.mono (JS g 0 cap l w a4 a1 (by omega)) ?_
   rintro e w' ⟨rfl,n,os,rfl⟩
   have:=put_own h (l':=l.mergeSort λ x y=>decide (x≤y)) (List.length_mergeSort _) n os
   exact ⟨_,rfl,rfl,this.1,this.2⟩
theorem EP {w:World} {base:Nat} {v:Value} {l:List Int} (h:Yy w base v l) (hl:l.length≤1048576):Ret Pg 84 #[v] w λ r w'=>Yy w' base r (Go.Lib.compact l)∧Vx base w w':=by
 rcases h.2 with ⟨rfl,h0⟩ | ⟨g,cap,cur,rfl,hb,hg,hc,hm,hs,ht⟩
 · obtain rfl:l=[]:=List.eq_nil_of_length_eq_zero h0
   refine Calls.mono (Vf none 0 w) ?_
   rintro e w' ⟨rfl,rfl⟩
   exact ⟨_,rfl,h,Vx.refl _ _⟩
 · obtain ⟨a1,a2,a3,a4⟩:=own_holds h
   refine Calls.mono (U1 g 0 cap l w a4 (by omega) a2) ?_
   rintro e w' ⟨rfl,q,rfl⟩
   have hcl:(Go.Lib.compact l).length≤l.length:=by
    unfold Go.Lib.compact Go.Lib.compactUpTo
    rw [List.length_map]
    exact Nat.le_trans (List.length_filter_le _ _) (by simp)
   have:=put_own h (l':=Go.Lib.compact l++List.replicate (l.length - (Go.Lib.compact l).length) 0) (by simp;omega) q #[]
   rw [Sort.grow_empty] at this
   exact ⟨_,rfl,Mf this.1,this.2⟩
theorem Yy.ints {w:World} {base:Nat} {v:Value} {l:List Int} (h:Yy w base v l):Ze w 1 GS v l:=h.slice (λ _=>rfl) (λ _ _=>rfl)
def MD (t2 t7 t9:Value) (next1:KW) (R:RT) (w:World):Prop :=
 X0 43 t7 t9 R w λ t11 w =>
 L0 62 t11 R w λ t12 w =>
 opV Pg (Instr.alloc 62 true (.tuple #[])) (Zd R) w λ t4 w =>
 opU Pg (Instr.storeAt 62 t4 t12) (Zd R) w λ w =>
 F0 62 t4 0 R w λ t14 w =>
 L0 9 t14 R w λ t15 w =>
 opV Pg (Instr.buildSlice 82 1 #[(0,t15)]) (Zd R) w λ t16 w =>
 opV Pg (Builtin.append_ #[82,82] 82 #[t2,t16]) (Zd R) w λ t17 w =>
 B0 .add 3 true t9 (.int .i64 1) R w λ t18 w =>
 next1 t17 t18 w
def Zb1 (t0:Value) (R:RT) (w:World):Prop :=
 opV Pg (Instr.box 48 t0) (Zd R) w λ t1 w =>
 F0 48 t1 7 R w λ t5 w =>
 F0 45 t5 1 R w λ t6 w =>
 L0 43 t6 R w λ t7 w =>
 opV Pg (Builtin.len_ #[43] 3 #[t7]) (Zd R) w λ t8 w =>
 XP (λ t2 t9 w next1 =>
 B0 .lss 3 false t9 t8 R w λ t10 w =>
 Zr t10 (
 MD t2 t7 t9 next1 R w) (
 R (.returned t2) w)) (Value.slice none 0 0) (.int .i64 0) w
theorem Zb9 {t0:Value} {R:RT} {w:World} (h:Zb1 t0 R w):Calls Pg 110 #[t0] w R:=by
 refine yD Tryz.func110 ?_
 refine zs<|zr<|yv h λ _ w h=>zm<|zn<|zk<|zs<|zs<|zr<|yv h λ _ w h=>yv h λ _ w h=>yv h λ _ w h=>yx h λ _ w h=>zm<|zn ?_
 refine zk<|Zj<|yl2 [2,4,9,10,11,12,13,14,15,16,17,18] 2 9 h λ σ w next h=>zs<|zr<|yb h λ _ w h=>zn<|zk<|zs<|yC h (λ h=>?_) λ h=>?_
 · refine Zh<|zk<|zs<|Zj<|zs<|zr<|yv h λ _ w h=>yv h λ _ w h=>yv h λ _ w h=>yu h λ w h=>zn<|zk<|zr<|zm<|yv h λ _ w h=>?_
   exact yv h λ _ w h=>yS h λ _ w h=>yx h λ _ w h=>zm<|zn<|Zg<|zk<|zr<|yb h λ _ w h=>zm<|zn<|zk<|⟨rfl,h⟩
 exact Zy<|Zc<|Zc<|Zn<|zk<|zs<|zr<|zm<|zm<|zn<|zk<|Zk<|Zi rfl rfl h
def Zbj (t0:Value) (R:RT) (w:World):Prop :=
 opV Pg (Instr.box 48 t0) (Zd R) w λ t1 w =>
 F0 48 t1 9 R w λ t3 w =>
 L0 9 t3 R w λ t4 w =>
 opV Pg (Instr.buildSlice 82 1 #[(0,t4)]) (Zd R) w λ t5 w =>
 R (.returned t5) w
theorem Zb0 {t0:Value} {R:RT} {w:World} (h:Zbj t0 R w):Calls Pg 111 #[t0] w R:=by
 refine yD Tryz.func111 ?_
 refine zs<|zr<|yv h λ _ w h=>zm<|zn<|zk<|zs<|zr<|yv h λ _ w h=>yv h λ _ w h=>yS h λ _ w h=>zm<|zn<|zk<|Zk ?_
 exact Zi rfl rfl h
theorem UC {w:World} {QP:List PanicEntry→World→Prop} {k:Value→World→Prop} {base b:Nat} {v:Value} {l:List Int} (n:Int) (h:Yy w base v l) (hc:w.cell? ⟨b,0,none⟩=some (.int .i64 n)) (hb:base≤w.heap.size) (hl:l.length≤1048576) (hk:∀ v' w',Yy w' base v' (l++[n])→Vx base w w'→k v' w') :
 opV Pg (Builtin.append_ #[30,30] 30 #[v,.slice (some ⟨b,0,none⟩) 1 1]) QP w k:=by
 refine X7 (l':=[n]) Tryz.underlying30 ty3 rfl (by decide) (λ _=>rfl) (λ x hx u hu=>?_) h (λ j x hx=>?_) hb ?_ (by simp;omega) (λ v' w' ho hg=>hk v' w' ho (Gm h hg))
 · simp at hu;subst hu;rfl
 · cases j with
   | zero=>simp at hx;subst hx;intro i u hu;cases i with
    | zero=>injection hu with hu;subst hu;simpa using hc
    | succ i=>cases hu
   | succ j=>cases hx
 · exact Nat.le_trans (Nat.mul_le_mul (show l.length+[n].length≤1048577 by simp;omega) by3) (by decide)
theorem D5 {w:World} {QP:List PanicEntry→World→Prop} {k:Value→World→Prop} {base b:Nat} {v:Value} {l:List ByteArray} (s:ByteArray) (h:Z5 w base 9 1 W7 v l) (hc:w.cell? ⟨b,0,none⟩=some (.string s)) (hb:base≤w.heap.size) (hl:l.length≤1048576) (hk:∀ v' w',Z5 w' base 9 1 W7 v' (l++[s])→Vx base w w'→k v' w') :
 opV Pg (Builtin.append_ #[82,82] 82 #[v,.slice (some ⟨b,0,none⟩) 1 1]) QP w k :=
 jC s h hc hb hl λ v' w' ho hg=>hk v' w' ho (Gm h hg)
def IP (g:FuncId) (ns:Zm→List ByteArray):Prop:=∀ (w:World) (v:Value) (f:Zm),ZV w v f→f.terms.length≤1048576→Ret Pg g #[v] w λ r w'=>Ze w' 1 KQ r (ns f)∧Ext w w'
theorem Do:IP 110 (λ f=>f.terms.map (·.field)):=by
 intro w0 v f hf hl
 obtain ⟨tv,cv,rfl,hT,hC⟩:=hf
 have ht1:=Ze.oneCell hT
 have hc1:=Ze.oneCell hC
 obtain ⟨A,c,rfl,hlc,hcm,hlm,hel⟩:=Ze.open hT
 refine Zb9 (R:=ZQ _) ?_;unfold Zb1
 rw [Xk]
 have hBW:=ZS.new (w:=w0) (Zo f (.slice A f.terms.length c) cv) (48)
 have eW:Ext w0 (w0.alloc (Obj.cells (List.toArray (Zo f (.slice A f.terms.length c) cv)) (48))):=(Ext.refl _).alloc _
 generalize (w0.alloc (Obj.cells (List.toArray (Zo f (.slice A f.terms.length c) cv)) (48)))=W at hBW eW ⊢
 simp (disch:=try exact DI) only [↓PR,QR,simprocAttr,hBW.c15 (Ext.refl W)]
 have hs:=eW.size
 refine Ye (λ a0 a1 w=>∃ (k:Nat) (sv:Value),a0=sv∧a1 = .int .i64 (k:Int)∧k≤f.terms.length∧Ext w0 w∧Z5 w W.heap.size 9 1 W7 sv ((f.terms.take k).map (·.field))∧W.heap.size≤w.heap.size) (λ a0 a1 _=>f.terms.length - (intOf a1).toNat) ⟨0,.slice none 0 0,rfl,rfl,Nat.zero_le _,ee,⟨Z5.nil _ _ _ _ _,Nat.le_refl _⟩⟩ ?_
 rintro _ _ w ⟨k,sv,rfl,rfl,hk,e,hI⟩
 have se:=e.size
 rcases ZB hk with ⟨x,hx,hd,hlt,hdec⟩ | ⟨hk,hd,hdec⟩
 · obtain ⟨hO,hs1⟩:=hI
   obtain ⟨b,o,cs,rfl,hl',hA,rfl⟩:=hel k x hx
   simp (disch:=try exact DI) only [↓PR,QR,simprocAttr,hdec,↓MD,hA.c2 e]
   generalize hV:World.alloc (World.alloc w _) _=V
   have eV:Ext w V:=by rw [← hV];exact ee
   have oV:V.heap[w.heap.size+1]?=some (.cells #[.string x.field] 9 (0,0)):=by rw [← hV];simp (disch:=try exact DI) only [↓PR,QR,simprocAttr]
   have sV:=eV.size
   clear hV
   refine D5 x.field (hO.ext eV) (by rw [(Za oV).1];rfl) (by omega) (by simp;omega) ?_
   intro v' w' hO' hg
   have e':=hg.2.1 w0 (e.trans eV) eW.size
   have s':=hg.1
   simp (disch:=try exact DI) only [↓PR,QR,simprocAttr]
   exact ⟨⟨k+1,v',rfl,rfl,by omega,ee,⟨by rw [ZU hx,List.map_append];exact hO',by omega⟩⟩,ZF (kd := .i64) hlt⟩
 · obtain ⟨hO,hs1⟩:=hI
   subst hk
   simp (disch:=try exact DI) only [↓PR,QR,simprocAttr,hdec]
   rw [List.take_length] at hO
   exact ⟨hO.slice (λ _=>rfl) (λ _ _=>rfl),e⟩
theorem DC:IP 111 (λ f=>[f.tag]):=by
 intro w0 v f hf hl
 obtain ⟨tv,cv,rfl,hT,hC⟩:=hf
 have ht1:=Ze.oneCell hT
 have hc1:=Ze.oneCell hC
 refine Zb0 (R:=ZQ _) ?_;unfold Zbj
 simp (disch:=try exact DI) only [↓PR,QR,simprocAttr]
 refine ⟨?_,ee⟩
 have:=Ze.new1 (E:=KQ) (λ s=>Value.string s) (λ _ _=>rfl) (w0.alloc (.cells (Zo f tv cv).toArray 48)) [f.tag] 9 (by simp)
 simpa using this
theorem DR:IP 112 (λ f=>[f.fr]):=by
 intro w0 v f hf hl
 obtain ⟨tv,cv,rfl,hT,hC⟩:=hf
 have ht1:=Ze.oneCell hT
 have hc1:=Ze.oneCell hC
 refine Zcv (R:=ZQ _) ?_;unfold ZcQ
 simp (disch:=try exact DI) only [↓PR,QR,simprocAttr]
 refine ⟨?_,ee⟩
 have:=Ze.new1 (E:=KQ) (λ s=>Value.string s) (λ _ _=>rfl) (w0.alloc (.cells (Zo f tv cv).toArray 48)) [f.fr] 9 (by simp)
 simpa using this
def TV (L:List (Int×Value×Nat)):Prop:=(∀ k,¬ (k=4∨k=7∨k=12∨k=9∨k=11)→Sw.look L k=none)∧(∀ k,k=4∨k=7∨k=12→Sw.look L k=some (.func (.func 110) #[] #[]))∧Sw.look L 9=some (.func (.func 111) #[] #[])∧Sw.look L 11=some (.func (.func 112) #[] #[])
theorem Je {w0 w:World} {m c:Nat} {L:List (Int×Value×Nat)} {QP:List PanicEntry→World→Prop} {ku:World→Prop} (hM:Y1 w m QG L c) (e:Ext w0 w) (hm:w0.heap.size≤m) (k:Int) (v:Value)
 (h:∀ w' L' c',Y1 w' m QG L' c'→(∀ k',Sw.look L' k'=if k'=k then some v else Sw.look L k')→Ext w0 w'→ku w'):opU Pg (Instr.mapUpdate 128 (.map (some m)) (.int .i64 k) v) QP w ku:=by
 rw [Uu Tryz.underlying128 (Wg.int Tryz.underlying42) hM k v]
 exact h _ _ _ (hM.put k v) (λ k'=>GO _ _ _ _ _) (e.putObj hm _)
theorem Pu (w0:World):Ret Pg 81 #[] w0 λ r w'=>∃ m L c,r = .map (some m)∧w0.heap.size≤m∧Y1 w' m QG L c∧TV L∧Ext w0 w':=by
 refine Zbf (R:=ZQ _) ?_;unfold ZbW
 simp (disch:=try exact DI) only [↓PR,QR,simprocAttr]
 have hM0:Y1 (w0.alloc (.map #[] 0)) w0.heap.size QG [] 0:=Y1.new w0 _
 have e0:Ext w0 (w0.alloc (.map #[] 0)):=ee
 refine Je hM0 e0 (Nat.le_refl _) 4 _ (λ w1 L1 c1 hM1 hl1 e1=>?_)
 simp (disch:=try exact DI) only [↓PR,QR,simprocAttr]
 refine Je hM1 e1 (Nat.le_refl _) 7 _ (λ w2 L2 c2 hM2 hl2 e2=>?_)
 simp (disch:=try exact DI) only [↓PR,QR,simprocAttr]
 refine Je hM2 e2 (Nat.le_refl _) 12 _ (λ w3 L3 c3 hM3 hl3 e3=>?_)
 simp (disch:=try exact DI) only [↓PR,QR,simprocAttr]
 refine Je hM3 e3 (Nat.le_refl _) 9 _ (λ w4 L4 c4 hM4 hl4 e4=>?_)
 simp (disch:=try exact DI) only [↓PR,QR,simprocAttr]
 refine Je hM4 e4 (Nat.le_refl _) 11 _ (λ w5 L5 c5 hM5 hl5 e5=>?_)
 simp (disch:=try exact DI) only [↓PR,QR,simprocAttr]
 have hn:∀ k,Sw.look ([]:List (Int×Value×Nat)) k=none:=λ _=>rfl
 refine ⟨_,_,_,rfl,Nat.le_refl _,hM5,⟨λ k hk=>?_,λ k hk=>?_,?_,?_⟩,e5⟩
 · rw [hl5,if_neg (by omega),hl4,if_neg (by omega),hl3,if_neg (by omega),hl2,if_neg (by omega),hl1,if_neg (by omega),hn]
 · rcases hk with rfl | rfl | rfl
   · rw [hl5,if_neg (by decide),hl4,if_neg (by decide),hl3,if_neg (by decide),hl2,if_neg (by decide),hl1,if_pos rfl]
   · rw [hl5,if_neg (by decide),hl4,if_neg (by decide),hl3,if_neg (by decide),hl2,if_pos rfl]
   · rw [hl5,if_neg (by decide),hl4,if_neg (by decide),hl3,if_pos rfl]
 · rw [hl5,if_neg (by decide),hl4,if_pos rfl]
 · rw [hl5,if_pos rfl]
theorem UU (w0:World) (v:Value) (l:List Zm) (g:FuncId) (caps:Array Value) (p:Nat→Bool) (hs:Z4 w0 v l) (hl:l.length≤1048576) (hg:Callable Pg g)
 (hc:∀ (w:World) (i:Nat) (x:Zm) (u:Value),l[i]?=some x→Ext w0 w→ZV w u x→Ret Pg g (#[.int .i64 (i:Int),u]++caps) w λ r w'=>r = .bool (p i)∧Ext w w') :
 Ret Pg 41 #[v,.func (.func g) #[] caps] w0 λ r w'=>Yy w' w0.heap.size r (Wz l.length p)∧Ext w0 w':=by
 obtain ⟨A,c,rfl,hlc,hcm,hlm,hel⟩:=Ze.open hs
 refine ZcA (R:=ZQ _) ?_;unfold Zc0
 simp (disch:=try exact DI) only [↓PR,QR,simprocAttr]
 refine Ye (λ a0 a1 w=>∃ (k:Nat) (sv:Value),a0=sv∧a1 = .int .i64 (k:Int)∧k≤l.length∧Ext w0 w∧Yy w w0.heap.size sv (Wz k p)) (λ a0 a1 _=>l.length - (intOf a1).toNat) ⟨0,.slice none 0 0,rfl,rfl,Nat.zero_le _,ee,Z5.nil _ _ _ _ _⟩ ?_
 rintro _ _ w ⟨k,sv,rfl,rfl,hk,e,hI⟩
 have se:=e.size
 rcases ZB hk with ⟨x,hx,hd,hlt,hdec⟩ | ⟨hk,hd,hdec⟩
 · obtain ⟨b,o,cs,rfl,hl',hA,hE⟩:=hel k x hx
   obtain ⟨tv,cv,rfl,hT,hC,ht1,hc1⟩:=hE.op
   simp (disch:=try exact DI) only [↓PR,QR,simprocAttr,hdec,↓Ng,hA.c15 e]
   generalize hV:World.alloc w _=V
   have eV:Ext w V:=by rw [← hV];exact ee
   have sV:=eV.size
   clear hV
   rw [YI hg]
   simp only [Array.empty_append]
   refine zcr (hc V k x _ hx (e.trans eV) ⟨tv,cv,rfl,ZW.ext hT (e.trans eV),Yc.ext hC (e.trans eV)⟩) λ w2 e2=>?_
   have e02:=e.trans (eV.trans e2)
   have hR:=hI.ext (eV.trans e2)
   have hss:=jG k p
   have hsl:=UF k p
   cases hp:p k with
   | false =>
    rw [hp] at hss
    simp only [Bool.false_eq_true,if_false,List.append_nil] at hss
    simp (disch:=try exact DI) only [↓PR,QR,simprocAttr,↓Hv]
    exact ⟨⟨k+1,_,rfl,rfl,by omega,ee,by rw [hss];exact hR⟩,ZF (kd := .i64) hlt⟩
   | true =>
    rw [hp] at hss
    simp only [if_true] at hss
    simp (disch:=try exact DI) only [↓PR,QR,simprocAttr,↓Hv]
    generalize hY:World.alloc w2 _=Y
    have eY:Ext w2 Y:=by rw [← hY];exact ee
    have oY:Y.heap[w2.heap.size]?=some (.cells #[.int .i64 (k:Int)] 3 (0,0)):=by rw [← hY];exact ZE _ _ _
    clear hY
    refine UC (k:Int) (hR.ext eY) (by rw [(Za oY).1];rfl) (e02.trans eY).size (by omega) ?_
    intro v' w' hO' hg'
    have e':=hg'.2.1 w0 (e02.trans eY) (Nat.le_refl _)
    simp (disch:=try exact DI) only [↓PR,QR,simprocAttr]
    exact ⟨⟨k+1,v',rfl,rfl,by omega,ee,by rw [hss];exact hO'⟩,ZF (kd := .i64) hlt⟩
 · subst hk
   simp (disch:=try exact DI) only [↓PR,QR,simprocAttr,hdec]
   exact ⟨hI,e⟩
structure Qe (lo hi:Nat) (w w':World):Prop where
 os:w'.os=w.os
 tape:w'.tape=w.tape
 output:w'.output=w.output
 size:w.heap.size≤w'.heap.size
 block:∀ k,k < w.heap.size→(k < lo∨hi≤k)→w'.heap[k]?=w.heap[k]?
section
variable {lo hi:Nat} {w w' w1 w2:World}
theorem Qe.refl (lo hi:Nat) (w:World):Qe lo hi w w:=⟨rfl,rfl,rfl,Nat.le_refl _,λ _ _ _=>rfl⟩
theorem Qe.ext (h:Qe lo hi w w1) (e:Ext w1 w2):Qe lo hi w w2:=⟨e.os.trans h.os,e.tape.trans h.tape,e.output.trans h.output,Nat.le_trans h.size e.size,λ k hk hb=>(e.block k (Nat.lt_of_lt_of_le hk h.size)).trans (h.block k hk hb)⟩
theorem Qe.trans (h:Qe lo hi w w1) (k:Qe lo hi w1 w2):Qe lo hi w w2:=⟨k.os.trans h.os,k.tape.trans h.tape,k.output.trans h.output,Nat.le_trans h.size k.size,λ i hi' hb=>(k.block i (Nat.lt_of_lt_of_le hi' h.size) hb).trans (h.block i hi' hb)⟩
theorem Qe.setCell (h:Qe lo hi w w1) {b o:Nat} (h1:lo≤b) (h2:b < hi) (v:Value):Qe lo hi w (w1.setCell ⟨b,o,none⟩ v) :=
 ⟨h.os,h.tape,h.output,by rw [World.size_setCell];exact h.size,λ k hk hb=>(Yu.setCell w1 b o v k (by omega)).trans (h.block k hk hb)⟩
theorem Qe.to_ext {a:World} (h:Qe lo hi w w') (e:Ext a w) (hl:a.heap.size≤lo):Ext a w':=⟨h.os.trans e.os,h.tape.trans e.tape,h.output.trans e.output,Nat.le_trans e.size h.size,λ k hk=>(h.block k (Nat.lt_of_lt_of_le hk e.size) (.inl (by omega))).trans (e.block k hk)⟩
theorem Qe.obj (h:Qe lo hi w w') {b:Nat} {o:Obj} (hb:w.heap[b]?=some o) (hr:b < lo∨hi≤b):w'.heap[b]?=some o:=(h.block b (Array.getElem?_eq_some_iff.1 hb).1 hr).trans hb
theorem Qe.cell (h:Qe lo hi w w') {b o:Nat} {v:Value} (hb:w.cell? ⟨b,o,none⟩=some v) (hr:b < lo∨hi≤b):w'.cell? ⟨b,o,none⟩=some v:=(World.cell?_of_block (h.block b (World.block_lt_of_cell? w _ hb) hr)).trans hb
theorem Qe.strs (h:Qe lo hi w w') {pb:Nat} {sv:Value} {l:List ByteArray} (hs:Qo w pb sv l) (hp:hi≤pb):Qo w' pb sv l:=by
 obtain ⟨h1,⟨A,c,hv,h2,h3,h4⟩,h5⟩:=hs
 refine ⟨h.cell h1 (.inr hp),⟨A,c,hv,h2,h3,λ hne=>?_⟩,h5⟩
 obtain ⟨b,o,hA,hel⟩:=h4 hne
 refine ⟨b,o,hA,λ k x hx=>?_⟩
 obtain ⟨cs,a1,a2,a3⟩:=hel k x hx
 have hb:pb < b:=h5 ⟨b,o,none⟩ _ _ (by rw [hv,hA])
 exact ⟨cs,a1,λ j v hv=>h.cell (a2 j v hv) (.inr (by omega)),a3⟩
def J9 (w:World) (lo hi:Nat) (cv:Value):Prop:=cv = .slice none 0 0∨∃ g len cap cur,cv = .slice (some ⟨g,0,none⟩) len cap∧lo≤g∧g < hi∧w.heap[g]?=some (.cells cur TC (0,0))∧len*3≤cur.size∧len≤1048576
def JV (w:World) (lo hi:Nat) (fv:Value) (n:Nat):Prop:=(fv = .slice none 0 0∧n=0)∨∃ g cap cur,fv = .slice (some ⟨g,0,none⟩) n cap∧lo≤g∧g < hi∧w.heap[g]?=some (.cells cur TF (0,0))∧n*15≤cur.size∧∀ k,k < n→∃ cv,cur[k*15+12]?=some cv∧J9 w lo hi cv
theorem J9.set {cv:Value} (h:J9 w lo hi cv) (b o:Nat) (v:Value):J9 (w.setCell ⟨b,o,none⟩ v) lo hi cv:=by
 rcases h with h | ⟨g,len,cap,cur,h1,h2,h3,h4,h5,h6⟩
 · exact .inl h
 · by_cases e:g=b
   · subst e
     exact .inr ⟨g,len,cap,_,h1,h2,h3,Z2 h4 v,by simpa using h5,h6⟩
   · exact .inr ⟨g,len,cap,cur,h1,h2,h3,(Yu.setCell w b o v g e).trans h4,h5,h6⟩
theorem J9.ext {cv:Value} (h:J9 w lo hi cv) (e:Ext w w'):J9 w' lo hi cv:=by
 rcases h with h | ⟨g,len,cap,cur,h1,h2,h3,h4,h5,h6⟩
 · exact .inl h
 · exact .inr ⟨g,len,cap,cur,h1,h2,h3,e.obj h4,h5,h6⟩
theorem JV.ext {fv:Value} {n:Nat} (h:JV w lo hi fv n) (e:Ext w w'):JV w' lo hi fv n:=by
 rcases h with h | ⟨g,cap,cur,h1,h2,h3,h4,h5,h6⟩
 · exact .inl h
 · exact .inr ⟨g,cap,cur,h1,h2,h3,e.obj h4,h5,λ k hk=>let ⟨cv,a,b⟩:=h6 k hk; ⟨cv,a,b.ext e⟩⟩
theorem JV.set {fv:Value} {n:Nat} (h:JV w lo hi fv n) (b o:Nat) (v:Value) (ho:∀ T cur,w.heap[b]?=some (.cells cur T (0,0))→T=TF→o % 15≠12):JV (w.setCell ⟨b,o,none⟩ v) lo hi fv n:=by
 rcases h with h | ⟨g,cap,cur,h1,h2,h3,h4,h5,h6⟩
 · exact .inl h
 · by_cases e:g=b
   · subst e
     refine .inr ⟨g,cap,_,h1,h2,h3,Z2 h4 v,by simpa using h5,λ k hk=>?_⟩
     obtain ⟨cv,a,hc⟩:=h6 k hk
     have:=ho _ _ h4 rfl
     refine ⟨cv,?_,hc.set _ _ _⟩
     rw [Array.getElem?_setIfInBounds_ne (by omega)]
     exact a
   · exact .inr ⟨g,cap,cur,h1,h2,h3,(Yu.setCell w b o v g e).trans h4,h5,λ k hk=>let ⟨cv,a,c⟩:=h6 k hk; ⟨cv,a,c.set _ _ _⟩⟩
theorem Xl.shape {fv:Value} {l:List Zm} (h:Xl w lo hi fv l) (ht:∀ f∈l,f.cases.length≤1048576):JV w lo hi fv l.length:=by
 obtain ⟨css,⟨⟨h1,h2⟩,h3⟩,hm1,hm2⟩:=h
 rcases h2 with ⟨hv,h0⟩ | ⟨g,cap,cur,hv,hb,hc,hn,_,hsz,htake⟩
 · exact .inl ⟨hv,by rw [← hm1];exact h0⟩
 · refine .inr ⟨g,cap,cur,by rw [hv,hm1],hb,h3 g (by rw [hv];rfl),hc,by rw [hsz,← hm1];exact Nat.mul_le_mul_right _ hn,λ k hk=>?_⟩
   obtain ⟨x,hx⟩:=getElem?_lt hk
   obtain ⟨cs,hcs⟩:=getElem?_lt (l:=css) (k:=k) (by rw [hm1];exact hk)
   obtain ⟨tv,cv,he,hT,hC⟩:=hm2 k x cs hx hcs
   refine ⟨cv,?_,?_⟩
   · have:=X6 (enc:=(Subtype.val:Cs 15→List Value)) (λ x=>x.2) css k cs 12 cv hcs (by rw [he];rfl)
     rw [← htake,List.getElem?_take] at this
     split at this
     · simpa using this
     · cases this
   · obtain ⟨⟨_,h2⟩,h3⟩:=hC
     rcases h2 with ⟨hv,_⟩ | ⟨g,cap,cur,hv,hb,hc,hn,_,hsz,_⟩
     · exact .inl hv
     · exact .inr ⟨g,_,cap,cur,hv,hb,h3 g (by rw [hv];rfl),hc,by rw [hsz];exact Nat.mul_le_mul_right _ hn,ht x (List.mem_of_getElem? hx)⟩
end
def LK (w:World) (lo2 hi2 lo hi:Nat) (Ts:List TypeId):Prop:=hi2≤lo∨hi≤lo2∨hi=lo+1∧∃ T',X2 w lo T'∧∀ T∈Ts,T'≠T
section
variable {w w':World} {lo hi lo2 hi2:Nat}
theorem LK.sub {Ts Ts':List TypeId} (h:LK w lo2 hi2 lo hi Ts) (hs:∀ T∈Ts',T∈Ts):LK w lo2 hi2 lo hi Ts':=by
 rcases h with h | h | ⟨h0,T',h1,h2⟩
 · exact .inl h
 · exact .inr (.inl h)
 · exact .inr (.inr ⟨h0,T',h1,λ T hT=>h2 T (hs T hT)⟩)
theorem Gt {α:Type} {n:Nat} {T:TypeId} {Ts:List TypeId} {enc:α→List Value} {v:Value} {l:List α} (h:WI w lo2 hi2 T n enc v l) (hs:Qe lo hi w w') (hd:LK w lo2 hi2 lo hi Ts) (hT:T∈Ts):WI w' lo2 hi2 T n enc v l:=by
 refine ⟨⟨h.1.1,?_⟩,h.2⟩
 rcases h.1.2 with h2 | ⟨g,cap,cur,h1,h2,h3,h4⟩
 · exact .inl h2
 · have:=h.2 g (by rw [h1];rfl)
   refine .inr ⟨g,cap,cur,h1,h2,hs.obj h3 ?_,h4⟩
   rcases hd with hd | hd | ⟨hd,T',⟨cur',fr,ht⟩,hne⟩
   · omega
   · omega
   · by_cases e:g=lo
     · subst e
       rw [h3] at ht;injection ht with ht;injection ht with _ ht _
       exact absurd ht.symm (hne T hT)
     · omega
theorem DN {v:Value} {l:List Zm} (h:Xl w lo2 hi2 v l) (hs:Qe lo hi w w') (hd:LK w lo2 hi2 lo hi [TT,TC,TF]):Xl w' lo2 hi2 v l:=by
 obtain ⟨css,h1,h2⟩:=h
 exact ⟨css,Gt h1 hs hd (by simp),h2.imp λ _ _ ⟨tv,cv,h1,h2,h3⟩=>⟨tv,cv,h1,Gt h2 hs hd (by simp),Gt h3 hs hd (by simp)⟩⟩
theorem A1 {v:Value} {l:List ZD} (h:Q4 w lo2 hi2 v l) (hs:Qe lo hi w w') (hd:LK w lo2 hi2 lo hi [TT,TC,TF,TM]):Q4 w' lo2 hi2 v l:=by
 obtain ⟨css,h1,h2⟩:=h
 exact ⟨css,Gt h1 hs hd (by simp),h2.imp λ _ _ ⟨fv,h1,h2⟩=>⟨fv,h1,DN h2 hs (hd.sub (by simp))⟩⟩
end
theorem ON {α:Type} {w:World} {n:Nat} {E:World→List Value→α→Prop} {b o c:Nat} {l:List α} (h:Ze w n E (.slice (some ⟨b,o,none⟩) l.length c) l) {i:Nat} (hi:i≤l.length):Ze w n E (.slice (some ⟨b,o,none⟩) i c) (l.take i):=by
 obtain ⟨A,c',hv,h1,h2,h3⟩:=h
 injection hv with hA hv hc
 subst hA hc
 have hlen:(l.take i).length=i:=by rw [List.length_take];omega
 refine ⟨_,c,by rw [hlen],by rw [hlen];omega,h2,λ hne=>?_⟩
 obtain ⟨b',o',hA,hel⟩:=h3 (by intro e;rw [e] at hne;simp at hne)
 refine ⟨b',o',hA,λ k y hy=>hel k y ?_⟩
 rw [List.getElem?_take] at hy
 split at hy
 · exact hy
 · cases hy
theorem Mi {bef:List Zm} {ns:List ByteArray} {k:Nat} {s:ByteArray} (h:ns[k]?=some s):Jw bef (ns.take (k+1))=Jw bef (ns.take k)++(if bef.any (λ g=>decide (g.name=s)) then [idx (λ g=>decide (g.name=s)) bef] else []):=by
 unfold Jw
 rw [ZU h,List.filterMap_append]
 congr 1
 rw [List.filterMap_cons,List.filterMap_nil]
 cases hb:bef.any (λ g=>decide (g.name=s))<;>simp
theorem Ef {bef:List Zm} {ns:List ByteArray}:(Jw bef ns).length≤ns.length:=by unfold Jw;exact List.length_filterMap_le _ _
theorem j1 {α:Type} {p:α→Bool} {l:List α} (h:l.any p=true):LI p l=idx p l:=by
 rw [← Y7] at h
 unfold LI
 rw [if_neg (by simpa using h)]
theorem LF {f:Zm} (h:f.terms.length≤1048576):(W4 f).length≤1048576:=by
 unfold W4
 split
 · simpa using h
 · split
   · simp
   · split<;>simp
theorem Nf {l:List Zm} {k:Nat} {f:Zm} (hf:l[k]?=some f) (hn:W4 f=[]):Kj l k=[]:=by
 unfold Kj Wz
 rw [List.filter_eq_nil_iff.2]
 · rfl
 · intro i _
   unfold IK
   rw [hf]
   simp [hn]
theorem zT {w0 w:World} {m:ZD} {fv:Value} {k p2 p5:Nat} {f:Zm} {tv cv:Value} {g:FuncId} (hk:m.fields[k]?=some f) (hF:Z4 w0 fv m.fields) (hb:f.terms.length≤1048576) (hT:ZW w0 tv f.terms) (hC:Yc w0 cv f.cases) (e:Ext w0 w) (hg:Callable Pg g) (ns:Zm→List ByteArray) (hns:IP g ns) (hnu:ns f=W4 f)
 (o2:w.heap[p2]?=some (.cells (Zx m fv).toArray 24 (0,0))) (o5:w.heap[p5]?=some (.cells (Zo f tv cv).toArray 48 (0,0))) :
 F7 (.int .i64 (k:Int)) (.pointer (some ⟨p2,0,none⟩)) (.pointer (some ⟨p5,0,none⟩)) (.func (.func g) #[] #[]) (ZQ λ r w'=>Yy w' w0.heap.size r (Kj m.fields k)∧Ext w0 w') w:=by
 have hkl:=(List.getElem?_eq_some_iff.1 hk).1
 obtain ⟨b,o,c,rfl,_,hcm,_,_,_⟩:=UT hF hk
 have hlen:(m.fields.take k).length=k:=by rw [List.length_take];omega
 have hpre:=ON hF (i:=k) (by omega)
 have ht1:=Ze.oneCell hT
 have hc1:=Ze.oneCell hC
 have e00:=Ext.refl w
 unfold F7
 simp (disch:=try exact DI) only [↓PR,QR,simprocAttr,(Za o2).1]
 rw [JZ Tryz.underlying22 VR b o m.fields.length c .i64 k (by omega)]
 have eq1:Ext w (w.alloc (.cells #[.string ByteArray.empty,.slice (some ⟨b,o,none⟩) k c] 24)):=ee
 simp (disch:=try exact DI) only [↓PR,QR,simprocAttr,(Za (eq1.obj o5)).1]
 have o9:=ZE w #[.string ByteArray.empty,.slice (some ⟨b,o,none⟩) k c] 24
 generalize (w.alloc (.cells #[.string ByteArray.empty,.slice (some ⟨b,o,none⟩) k c] 24))=V at eq1 o9 ⊢
 generalize w.heap.size=p9 at o9 ⊢
 have E1:=e.trans eq1
 rw [YI hg]
 simp only [Array.empty_append,Array.append_empty]
 refine Zt (hns V _ f ⟨tv,cv,rfl,hT.ext E1,hC.ext E1⟩ hb) ?_
 rintro nv W ⟨hN,e2⟩
 have E2:=E1.trans e2
 have s2:=E2.size
 rw [hnu] at hN
 obtain ⟨An,cn,rfl,hlcn,hcmn,hlmn,heln⟩:=Ze.open hN
 have x9:=e2.obj o9
 have hnl:=LF hb
 have hus:=DG hk
 generalize W4 f=nl at *
 simp (disch:=try exact DI) only [↓PR,QR,simprocAttr]
 refine Ye (λ a0 a1 wx=>∃ (kx:Nat) (sv:Value),a0=sv∧a1 = .int .i64 (kx:Int)∧kx≤nl.length∧Ext W wx∧Yy wx W.heap.size sv (Jw (m.fields.take k) (nl.take kx))) (λ a0 a1 _=>nl.length - (intOf a1).toNat) ⟨0,.slice none 0 0,rfl,rfl,Nat.zero_le _,ee,Z5.nil _ _ _ _ _⟩ ?_
 rintro _ _ wx ⟨kx,sv,rfl,rfl,hkx,ex,hIx⟩
 have sex:=ex.size
 rcases ZB hkx with ⟨xx,hxx,hdx,hltx,hdecx⟩ | ⟨hkx,hdx,hdecx⟩
 · obtain ⟨b',o',cs,rfl,hl',hA,rfl⟩:=heln kx xx hxx
   have hA':=hA.ext ex
   simp (disch:=try exact DI) only [↓PR,QR,simprocAttr,hdecx,↓HD,↓PG,(Za (ex.obj x9)).1,hA'.c1 (Ext.refl _)]
   refine zcr (zp wx _ ⟨ByteArray.empty,m.fields.take k⟩ xx ⟨_,rfl,by have:=Z4.ext hpre (E2.trans ex);rw [hlen] at *;exact this⟩) λ w3 e3=>?_
   have hss:=Mi (bef:=m.fields.take k) hxx
   have hsl:=Ef (bef:=m.fields.take k) (ns:=nl.take kx)
   rw [List.length_take] at hsl
   have hR:=hIx.ext e3
   have s3:=(ex.trans e3).size
   dsimp only
   cases hp:(m.fields.take k).any (λ g=>decide (g.name=xx)) with
   | false =>
    rw [hp] at hss
    simp only [Bool.false_eq_true,if_false,List.append_nil] at hss
    simp (disch:=try exact DI) only [↓PR,QR,simprocAttr,↓Hy]
    exact ⟨⟨kx+1,_,rfl,rfl,by omega,ee,by rw [hss];exact hR⟩,ZF (kd := .i64) hltx⟩
   | true =>
    rw [hp] at hss
    simp only [if_true] at hss
    rw [j1 hp]
    simp (disch:=try exact DI) only [↓PR,QR,simprocAttr,↓Hy]
    generalize hY:World.alloc w3 _=Y
    have eY:Ext w3 Y:=by rw [← hY];exact ee
    have oY:Y.heap[w3.heap.size]?=some (.cells #[.int .i64 (idx (λ g=>decide (g.name=xx)) (m.fields.take k))] 3 (0,0)):=by rw [← hY];exact ZE _ _ _
    clear hY
    refine UC _ (hR.ext eY) (by rw [(Za oY).1];rfl) (by have:=eY.size;omega) (by omega) ?_
    intro v' w' hO' hg'
    have e':=hg'.2.1 W ((ex.trans e3).trans eY) (Nat.le_refl _)
    simp (disch:=try exact DI) only [↓PR,QR,simprocAttr]
    exact ⟨⟨kx+1,v',rfl,rfl,by omega,ee,by rw [hss];exact hO'⟩,ZF (kd := .i64) hltx⟩
 · subst hkx
   simp (disch:=try exact DI) only [↓PR,QR,simprocAttr,hdecx,↓HD]
   rw [List.take_length] at hIx
   have hsl:=Ef (bef:=m.fields.take k) (ns:=nl)
   refine Zt (DE hIx (by omega)) ?_
   rintro _ w4 ⟨rfl,hR4,g4⟩
   refine Zt (EP hR4 (by rw [List.length_mergeSort];omega)) ?_
   rintro r w5 ⟨hR5,g5⟩
   rw [hus] at hR5
   exact ⟨r,rfl,hR5.base s2,E2.trans ((g4.trans g5).2.1 W ex (Nat.le_refl _))⟩
def toB (l:List ZD) (k i:Nat):Bool:=match l[k]? with
 | some m=>(XN m).any λ s=>idx (λ x=>decide (x.name=s)) l == (i:Int)
 | none=>false
def toP (l:List ZD) (k:Nat):List Int:=Wz k (toB l k)
theorem VO {l:List ZD} (h:YL l) {k:Nat} {m:ZD} (hk:l[k]?=some m) {s:ByteArray} (hs:s∈XN m):∃ (i:Nat) (m':ZD),i < k∧l[i]?=some m'∧m'.name=s∧idx (λ x=>decide (x.name=s)) l=i∧idx (λ x=>decide (x.name=s)) (l.take k)=i:=by
 obtain ⟨i,m',h1,h2,h3,h4,_⟩:=h.refs hk hs
 refine ⟨i,m',h1,h2,h3,Qs h2 (by simpa using h3) λ j y hj hy=>by simpa using h4 j y hj hy,Qs (x:=m') (by rw [List.getElem?_take,if_pos h1];exact h2) (by simpa using h3) λ j y hj hy=>?_⟩
 rw [List.getElem?_take,if_pos (by omega)] at hy
 simpa using h4 j y hj hy
theorem JF {l:List ZD} (h:YL l) {k i:Nat} (ht:toB l k i=true):i < k∧k < l.length:=by
 unfold toB at ht
 cases hk:l[k]? with
 | none=>rw [hk] at ht;cases ht
 | some m =>
  rw [hk] at ht
  simp only [List.any_eq_true,beq_iff_eq] at ht
  obtain ⟨s,hs,he⟩:=ht
  obtain ⟨j,_,hj,_,_,hi,_⟩:=VO h hk hs
  exact ⟨by omega,(List.getElem?_eq_some_iff.1 hk).1⟩
section
variable {l:List ZD} {s:Nat}
def Z9 (l:List ZD) (s:Nat):Nat→Nat→Bool
 | 0,i=>i == s
 | t+1,i=>Z9 l s t i||(Z9 l s t (l.length - 1 - t)&&toB l (l.length - 1 - t) i)
def Xp (l:List ZD) (s i:Nat):Bool:=Z9 l s l.length i
def WD (l:List ZD) (s:Nat):List Int:=Wz l.length (Xp l s)
theorem yA (h:YL l):∀ t,t≤l.length - 1 - s→∀ i,Z9 l s t i=(i == s)
 | 0,_,i=>rfl
 | t+1,ht,i=>by
  have ih:=yA h t (by omega)
  unfold Z9
  rw [ih,ih]
  have:(l.length - 1 - t == s)=false:=by simp;omega
  rw [this,Bool.false_and,Bool.or_false]
theorem yf (h:YL l) {i:Nat}:∀ u t,l.length - 1 - t≤i→Z9 l s (t+u) i=Z9 l s t i
 | 0,t,_=>rfl
 | u+1,t,ht=>by
  rw [← Nat.add_assoc,Z9,yf h u t ht]
  cases hb:toB l (l.length - 1 - (t+u)) i with
  | false=>rw [Bool.and_false,Bool.or_false]
  | true=>have:=JF h hb;omega
theorem qG (h:YL l) {i t:Nat} (ht:l.length - 1 - t≤i) (htl:t≤l.length):Xp l s i=Z9 l s t i:=by
 unfold Xp
 have:=yf (s:=s) h (i:=i) (l.length - t) t ht
 rw [show t+(l.length - t)=l.length by omega] at this
 exact this
theorem Kn:∀ (u t i:Nat),Z9 l s t i=true→Z9 l s (t+u) i=true
 | 0,_,_,h=>h
 | u+1,t,i,h=>by rw [← Nat.add_assoc,Z9,Kn u t i h,Bool.true_or]
theorem EI (hs:s < l.length):Xp l s s=true:=by
 have:=Kn (l:=l) (s:=s) l.length 0 s (by unfold Z9;simp)
 rwa [Nat.zero_add] at this
theorem F8 (h:YL l) {k i:Nat} (hr:Xp l s k=true) (ht:toB l k i=true):Xp l s i=true:=by
 obtain ⟨h1,h2⟩:=JF h ht
 rw [qG h (t:=l.length - 1 - k) (by omega) (by omega)] at hr
 have h3:Z9 l s (l.length - 1 - k+1) i=true:=by
  rw [Z9,show l.length - 1 - (l.length - 1 - k)=k by omega,hr,ht];simp
 have:=Kn (l:=l) (s:=s) k _ i h3
 rw [show l.length - 1 - k+1+k=l.length by omega] at this
 exact this
theorem je (h:YL l):∀ (t i:Nat),t≤l.length→Z9 l s t i=true→i=s∨∃ k,Xp l s k=true∧toB l k i=true
 | 0,i,_,hr=>by unfold Z9 at hr;simp only [beq_iff_eq] at hr;exact .inl hr
 | t+1,i,ht,hr=>by
  unfold Z9 at hr
  simp only [Bool.or_eq_true,Bool.and_eq_true] at hr
  rcases hr with hr | ⟨h1,h2⟩
  · exact je h t i (by omega) hr
  · exact .inr ⟨_,by rw [qG h (Nat.le_refl _) (by omega)];exact h1,h2⟩
def QL (l:List ZD) (k:Nat):List Int:=match l[k]? with
 | some m=>(XN m).map λ s=>idx (λ x=>decide (x.name=s)) l
 | none=>[]
theorem Jm {k i:Nat}:(i:Int)∈QL l k↔toB l k i=true:=by
 unfold QL toB
 cases l[k]? with
 | none=>simp
 | some m=>simp only [List.mem_map,List.any_eq_true,beq_iff_eq]
theorem qM (h:YL l) {k:Nat} {x:Int} (hx:x∈QL l k):0≤x∧x < k:=by
 unfold QL at hx
 cases hk:l[k]? with
 | none=>rw [hk] at hx;cases hx
 | some m =>
  rw [hk] at hx
  simp only [List.mem_map] at hx
  obtain ⟨s,hs,rfl⟩:=hx
  obtain ⟨i,_,hi,_,_,he,_⟩:=VO h hk hs
  omega
def US (a b:Int):Int:=if b < a then b else a
def IN (to:Nat) (l:List ZD) (ds:List Int) (k:Nat):Int:=if k=to then 0 else (QL l k).foldl (λ n x=>US n (1+(ds[x.toNat]?).getD 1000)) 1000
def Ja (to:Nat) (l:List ZD):Nat→List Int
 | 0=>[]
 | k+1=>Ja to l k++[IN to l (Ja to l k) k]
def dN (to:Nat) (l:List ZD) (k:Nat):Int:=IN to l (Ja to l k) k
theorem Jq (to:Nat):∀ k,(Ja to l k).length=k
 | 0=>rfl
 | k+1=>by unfold Ja;rw [List.length_append,Jq to k];rfl
theorem Jn (to:Nat):∀ (n k:Nat),k < n→(Ja to l n)[k]?=some (dN to l k)
 | 0,k,h=>by omega
 | n+1,k,h=>by
  unfold Ja
  by_cases hk:k=n
  · subst hk
    rw [List.getElem?_append_right (by rw [Jq];exact Nat.le_refl _),Jq,Nat.sub_self];rfl
  · rw [List.getElem?_append_left (by rw [Jq];omega)]
    exact Jn to n k (by omega)
theorem P2 (a b:Int):US a b≤a∧US a b≤b∧(US a b=a∨US a b=b):=by unfold US;split<;>omega
theorem GQ (g:Int→Int):∀ (xs:List Int) (n:Int),xs.foldl (λ n x=>US n (g x)) n≤n∧(∀ x∈xs,xs.foldl (λ n x=>US n (g x)) n≤g x)∧(xs.foldl (λ n x=>US n (g x)) n=n∨∃ x∈xs,xs.foldl (λ n x=>US n (g x)) n=g x)
 | [],n=>⟨Int.le_refl _,λ x h=>(by cases h),.inl rfl⟩
 | x::xs,n=>by
  obtain ⟨h1,h2,h3⟩:=GQ g xs (US n (g x))
  obtain ⟨a1,a2,a3⟩:=P2 n (g x)
  simp only [List.foldl_cons]
  refine ⟨by omega,λ y hy=>?_,?_⟩
  · rcases List.mem_cons.1 hy with rfl | hy
    · omega
    · exact h2 y hy
  · rcases h3 with h3 | ⟨y,hy,h3⟩
    · rcases a3 with a3 | a3
      · exact .inl (h3.trans a3)
      · exact .inr ⟨x,List.mem_cons_self ..,h3.trans a3⟩
    · exact .inr ⟨y,List.mem_cons_of_mem _ hy,h3⟩
variable {to:Nat}
theorem Ak:dN to l to=0:=by unfold dN IN;rw [if_pos rfl]
theorem Gz {k:Nat} (hk:k≠to):dN to l k=(QL l k).foldl (λ n x=>US n (1+((Ja to l k)[x.toNat]?).getD 1000)) 1000:=by unfold dN IN;rw [if_neg hk]
theorem Se (h:YL l) {k i:Nat} (ht:toB l k i=true):dN to l k≤1+dN to l i∨k=to:=by
 by_cases hk:k=to
 · exact .inr hk
 · have:=(GQ (λ x=>1+((Ja to l k)[x.toNat]?).getD 1000) (QL l k) 1000).2.1 i (Jm.2 ht)
   rw [← Gz hk,Int.toNat_natCast,Jn to k i (JF h ht).1] at this
   exact .inl this
theorem Pe (h:YL l):∀ (n k:Nat),k < n→0≤dN to l k∧(k≠to→1≤dN to l k)
 | 0,k,hk=>by omega
 | n+1,k,hk=>by
  by_cases ht:k=to
  · subst ht;rw [Ak];exact ⟨Int.le_refl _,λ h=>absurd rfl h⟩
  · have key:1≤dN to l k:=by
     rcases (GQ (λ x=>1+((Ja to l k)[x.toNat]?).getD 1000) (QL l k) 1000).2.2 with h1 | ⟨x,hx,h1⟩
     · rw [← Gz ht] at h1;omega
     · rw [← Gz ht] at h1
       obtain ⟨a,b⟩:=qM h hx
       have:=(Pe h n x.toNat (by omega)).1
       rw [Jn to k x.toNat (by omega)] at h1
       simp only [Option.getD_some] at h1
       omega
    exact ⟨by omega,λ _=>key⟩
theorem F4 (h:YL l) (k:Nat):0≤dN to l k:=(Pe h (k+1) k (by omega)).1
theorem P1 (h:YL l) {k:Nat}:dN to l k=0↔k=to:=by
 constructor
 · intro h0
   apply Classical.byContradiction
   intro hk
   have:=(Pe (to:=to) h (k+1) k (by omega)).2 hk
   omega
 · rintro rfl;exact Ak
theorem H2 (h:YL l) {k:Nat} (hk:k≠to) (hf:dN to l k < 1000):∃ i,toB l k i=true∧dN to l i=dN to l k - 1:=by
 rcases (GQ (λ x=>1+((Ja to l k)[x.toNat]?).getD 1000) (QL l k) 1000).2.2 with h1 | ⟨x,hx,h1⟩
 · rw [← Gz hk] at h1;omega
 · rw [← Gz hk] at h1
   obtain ⟨a,b⟩:=qM h hx
   rw [Jn to k x.toNat (by omega)] at h1
   simp only [Option.getD_some] at h1
   refine ⟨x.toNat,Jm.1 (by rw [Int.toNat_of_nonneg a];exact hx),by omega⟩
theorem Td (h:YL l):∀ (n i:Nat),l.length - i≤n→Xp l s i=true→∀ c:Int,dN to l i≤c→i < l.length→dN to l s≤c+(s - i)
 | 0,i,hn,_,c,_,hi=>by omega
 | n+1,i,hn,hr,c,hc,hi=>by
  rcases je h l.length i (Nat.le_refl _) hr with rfl | ⟨k,h1,h2⟩
  · omega
  · obtain ⟨h3,h4⟩:=JF h h2
    have hk:dN to l k≤c+(k - i):=by
     rcases Se (to:=to) h h2 with h5 | h5
     · omega
     · subst h5;rw [Ak];have:=F4 (to:=k) h i;omega
    have:=Td h n k (by omega) h1 _ hk h4
    omega
theorem ja (h:YL l) (hs:s < l.length):∀ (n:Nat) (k:Nat),k < n→Xp l s k=true→dN to l k < 1000→Xp l s to=true
 | 0,k,hk,_,_=>by omega
 | n+1,k,hk,hr,hf=>by
  by_cases he:k=to
  · subst he;exact hr
  · obtain ⟨i,h1,h2⟩:=H2 h he hf
    exact ja h hs n i (by have:=(JF h h1).1;omega) (F8 h hr h1) (by omega)
theorem F6 (h:YL l) (hs:s < l.length) (hto:to < l.length) (hl:l.length≤900):Xp l s to=true↔dN to l s < 1000:=by
 constructor
 · intro hr
   have:=Td (to:=to) h l.length to (by omega) hr 0 (by rw [Ak];exact Int.le_refl _) hto
   omega
 · exact ja h hs (s+1) s (by omega) (EI hs)
def UY (to:Nat) (l:List ZD) (k:Nat):Nat:=(((List.range k).find? λ i=>toB l k i&&(dN to l i == dN to l k - 1))).getD 0
theorem Bn (h:YL l) {k:Nat} (hk:k≠to) (hf:dN to l k < 1000):toB l k (UY to l k)=true∧dN to l (UY to l k)=dN to l k - 1∧∀ i,i < UY to l k→toB l k i=true→dN to l i≠dN to l k - 1:=by
 obtain ⟨i,h1,h2⟩:=H2 h hk hf
 have hik:=(JF h h1).1
 cases hf':(List.range k).find? λ i=>toB l k i&&(dN to l i == dN to l k - 1) with
 | none =>
  rw [List.find?_eq_none] at hf'
  have:=hf' i (List.mem_range.2 hik)
  simp [h1,h2] at this
 | some j =>
  have hn:UY to l k=j:=by unfold UY;rw [hf'];rfl
  rw [hn]
  have hp:=List.find?_some hf'
  simp only [Bool.and_eq_true,beq_iff_eq] at hp
  refine ⟨hp.1,hp.2,λ i hi hti he=>?_⟩
  obtain ⟨_,l1,l2,hab,hno⟩:=List.find?_eq_some_iff_append.1 hf'
  have hjl:j < k:=List.mem_range.1 (List.mem_of_find?_eq_some hf')
  have hmem:i∈l1:=by
   have hi':(List.range k)[i]?=some i:=by rw [List.getElem?_range (by omega)]
   have hj':l1.length=j:=by
    have hl:(List.range k)[l1.length]?=some j:=by rw [hab,List.getElem?_append_right (Nat.le_refl _),Nat.sub_self];rfl
    have hlt:=(List.getElem?_eq_some_iff.1 hl).1
    rw [List.getElem?_range (by simpa using hlt)] at hl
    injection hl
   rw [hab,List.getElem?_append_left (by omega)] at hi'
   exact List.mem_of_getElem? hi'
  have:=hno i hmem
  simp [hti,he] at this
def pk (to:Nat) (l:List ZD) (s:Nat):Nat→Nat
 | 0=>s
 | j+1=>UY to l (pk to l s j)
def Et (to:Nat) (l:List ZD) (s j:Nat):List Int:=(List.range (j+1)).map λ i=>(pk to l s i:Int)
def Em (to:Nat) (l:List ZD) (s:Nat):List Int:=Et to l s (dN to l s).toNat
theorem Dz (j:Nat):Et to l s (j+1)=Et to l s j++[(pk to l s (j+1):Int)]:=by unfold Et;rw [List.range_succ,List.map_append];rfl
theorem B7 (h:YL l) (hf:dN to l s < 1000):∀ j:Nat,(j:Int)≤dN to l s→dN to l (pk to l s j)=dN to l s - j
 | 0,_=>by unfold pk;omega
 | j+1,hj=>by
  have ih:=B7 h hf j (by omega)
  have hne:pk to l s j≠to:=λ he=>by rw [he,Ak] at ih;omega
  have:=(Bn h hne (by omega)).2.1
  unfold pk
  omega
end
end Go.Proofs.YtfjjgjjlebllmaaGreat
namespace Go.Sw
open Go.RowKit (Below)
section
variable {P:Program} {QP:List PanicEntry→World→Prop} {w:World}
theorem Hk {α:Type} {t ty T n m:Nat} {z:Value} {agg:Bool} {enc:α→List Value} {v:Value} {l l':List α} {base:Nat} {k:Value→World→Prop}
 (ht:P.underlying t=some (.slice T)) (hT:ZJ P T agg n m z) (hz:z.cells.size=n) (h0:0 < n) (hn:∀ x,(enc x).length=n) (h1:∀ x,x∈l'→∀ u∈enc x,u.oneCell'=true)
 (hown:Z5 w base T n enc v l) {b o c:Nat} (hc:∀ j x,l'[j]?=some x→ZS w b (o+j*n) (enc x)) (hbase:base≤w.heap.size) (hl':0 < l'.length) (hm:(l.length+l'.length)*m≤140737488355328) (hb:l.length+l'.length≤140737488355328)
 (hk:∀ g cap w',Z5 w' base T n enc (.slice (some ⟨g,0,none⟩) (l.length+l'.length) cap) (l++l')→w.grownBy w' v.ownBlock→(v.ownBlock=some g∨g=w.heap.size)→g < w'.heap.size→k (.slice (some ⟨g,0,none⟩) (l.length+l'.length) cap) w') :
 opV P (Builtin.append_ #[t,t] ty #[v,.slice (some ⟨b,o,none⟩) l'.length c]) QP w k:=by
 obtain ⟨⟨i,hi,hs,hby,hzz⟩,_⟩:=hT
 have hfl:(l'.flatMap enc).length=l'.length*n:=by
  clear hm hb hc h1 hk hl'
  induction l' with
  | nil=>simp
  | cons a l ih=>rw [List.flatMap_cons,List.length_append,hn,ih,List.length_cons,Nat.add_mul];omega
 have hcells:∀ j u,(l'.flatMap enc)[j]?=some u→w.cell? ((⟨b,o,none⟩:Addr).add j)=some u:=by
  intro j u hu
  have hj:j < l'.length*n:=by have:=(List.getElem?_eq_some_iff.1 hu).1;rwa [hfl] at this
  have hq:j / n < l'.length:=Nat.div_lt_of_lt_mul (by rw [Nat.mul_comm];exact hj)
  obtain ⟨x,hx⟩:=getElem?_lt hq
  have hjn:j % n < (enc x).length:=by rw [hn];exact Nat.mod_lt _ h0
  have hdm:j / n*n+j % n=j:=by rw [Nat.mul_comm];exact Nat.div_add_mod j n
  have hg:=X6 hn l' (j / n) x (j % n) _ hx (List.getElem?_eq_getElem hjn)
  rw [hdm,hu] at hg
  injection hg with hg
  rw [Addr.add_lit]
  have:=hc _ _ hx (j % n) _ (List.getElem?_eq_getElem hjn)
  rw [hg,← this]
  congr 2;omega
 obtain ⟨g,cap,w',hr,ho,hg,hgl,hlt⟩:=run_append_lies (P:=P) (w:=w) t ty base T i z n m ht hi hzz hs hby hz h0 v l.length (l.flatMap enc) hown ⟨b,o,none⟩ l'.length c (l'.flatMap enc) hfl hcells
  (by intro u hu;obtain ⟨x,hx,hux⟩:=List.mem_flatMap.1 hu;exact h1 x hx u hux) hl' (by simp only [maxLen];omega) hm hbase _ rfl
 rw [Z3 hr]
 refine hk g cap w' ?_ hg hgl hlt
 unfold Z5
 rw [List.flatMap_append,List.length_append];exact ho
end
theorem Z5.grown {α:Type} {w w':World} {lo n:Nat} {T:TypeId} {enc:α→List Value} {v:Value} {l:List α} {row:Option Nat} (h:Z5 w lo T n enc v l) (hg:w.grownBy w' row) (hne:∀ b,v.ownBlock=some b→row≠some b):Z5 w' lo T n enc v l:=by
 obtain ⟨h1,h2⟩:=h
 refine ⟨h1,?_⟩
 rcases h2 with h2 | ⟨g,cap,cur,hv,hb,hc,h3⟩
 · exact .inl h2
 · refine .inr ⟨g,cap,cur,hv,hb,?_,h3⟩
   rw [hg.block g (Array.getElem?_eq_some_iff.1 hc).1 (λ e=>hne g (by rw [hv];rfl) e.symm)]
   exact hc
end Go.Sw
namespace Go.Proofs.YtfjjgjjlebllmaaGreat
open Sw
def SV (t3 t6 t8 t9 t10:Value) (C9:World→Prop) (next8:KW) (R:RT) (w:World):Prop :=
 Zq (λ (t84:Value) (w:World) =>
 Zu t9 (.bool true) t84 λ t85 =>
 B0 .add 3 true t10 (.int .i64 1) R w λ t73 w =>
 next8 t85 t73 w) λ K10 =>
 Zl t9 false (
 qV Pg C9 (Instr.indexAt 82 t3 t10) λ t78 =>
 qV Pg C9 (Instr.loadAt 9 t78) λ t79 =>
 qV Pg C9 (Instr.indexAt 82 t6 t8) λ t82 =>
 qV Pg C9 (Instr.loadAt 9 t82) λ t83 =>
 qV Pg C9 (ZM .eql 9 false t79 t83) λ t84 =>
 K10 t84 w) (
 K10 undef w)
def R9 (t3 t6 t8:Value) (K11:KV) (R:RT) (w:World):Prop :=
 X0 82 t6 t8 R w λ t91 w =>
 L0 9 t91 R w λ t92 w =>
 opV Pg (Instr.buildSlice 82 1 #[(0,t92)]) (Zd R) w λ t93 w =>
 opV Pg (Builtin.append_ #[82,82] 82 #[t3,t93]) (Zd R) w λ t94 w =>
 K11 t94 w
def Tq (t3 t6 t8 t9:Value) (next7:KW) (R:RT) (w:World):Prop :=
 opV Pg (Op.unary .not t9) (Zd R) w λ t87 w =>
 Zq (λ (t3:Value) (w:World) =>
 B0 .add 3 true t8 (.int .i64 1) R w λ t67 w =>
 next7 t3 t67 w) λ K11 =>
 Zr t87 (
 R9 t3 t6 t8 K11 R w) (
 K11 t3 w)
def To (t3 t6 t8 t9 t10:Value) (next7:KW) (next8:KW) (R:RT) (w:World):Prop :=
 opV Pg (Builtin.len_ #[82] 3 #[t3]) (Zd R) w λ t70 w =>
 B0 .lss 3 false t10 t70 R w λ t71 w =>
 Zr t71 (
 Yp w λ C9 w =>
 SV t3 t6 t8 t9 t10 C9 next8 R w) (
 Tq t3 t6 t8 t9 next7 R w)
def NG (t3 t4 t6 t8:Value) (next1:KW) (next7:KW) (R:RT) (w:World):Prop :=
 opV Pg (Builtin.len_ #[82] 3 #[t6]) (Zd R) w λ t64 w =>
 B0 .lss 3 false t8 t64 R w λ t65 w =>
 Zr t65 (
 XP (λ t9 t10 w next8 =>
 To t3 t6 t8 t9 t10 next7 next8 R w) (.bool false) (.int .i64 0) w) (
 B0 .add 3 true t4 (.int .i64 1) R w λ t17 w =>
 next1 t3 t17 w)
def SI (t5 t6 t7:Value) (next5:KW) (R:RT) (w:World):Prop :=
 F0 48 t5 11 R w λ t54 w =>
 L0 46 t54 R w λ t55 w =>
 X0 46 t55 t7 R w λ t57 w =>
 F0 60 t57 2 R w λ t58 w =>
 L0 9 t58 R w λ t59 w =>
 opV Pg (Instr.buildSlice 82 1 #[(0,t59)]) (Zd R) w λ t60 w =>
 opV Pg (Builtin.append_ #[82,82] 82 #[t6,t60]) (Zd R) w λ t61 w =>
 B0 .add 3 true t7 (.int .i64 1) R w λ t52 w =>
 next5 t61 t52 w
def IV (t3 t4 t5 t6 t7 t43 t49:Value) (next1:KW) (next5:KW) (R:RT) (w:World):Prop :=
 Zu t43 t49 (.bool false) λ t50 =>
 Zr t50 (
 SI t5 t6 t7 next5 R w) (
 XP (λ t3 t8 w next7 =>
 NG t3 t4 t6 t8 next1 next7 R w) t3 (.int .i64 0) w)
def Es (t3 t4 t5 t6 t7:Value) (next1:KW) (next5:KW) (R:RT) (w:World):Prop :=
 F0 48 t5 1 R w λ t41 w =>
 L0 42 t41 R w λ t42 w =>
 B0 .eql 42 true t42 (.int .i64 9) R w λ t43 w =>
 Zq (λ (t49:Value) (w:World) =>
 IV t3 t4 t5 t6 t7 t43 t49 next1 next5 R w) λ K6 =>
 Zl t43 true (
 F0 48 t5 11 R w λ t46 w =>
 L0 46 t46 R w λ t47 w =>
 opV Pg (Builtin.len_ #[46] 3 #[t47]) (Zd R) w λ t48 w =>
 B0 .lss 3 false t7 t48 R w λ t49 w =>
 K6 t49 w) (
 K6 undef w)
def NS (t5:Value) (K4:KV) (R:RT) (w:World):Prop :=
 F0 48 t5 8 R w λ t37 w =>
 L0 9 t37 R w λ t38 w =>
 opV Pg (Instr.buildSlice 82 1 #[(0,t38)]) (Zd R) w λ t39 w =>
 opV Pg (Builtin.append_ #[82,82] 82 #[(Value.slice none 0 0),t39]) (Zd R) w λ t40 w =>
 K4 t40 w
def qZ (t3 t4 t5 t30 t34:Value) (next1:KW) (R:RT) (w:World):Prop :=
 Zu t30 (.bool true) t34 λ t35 =>
 Zq (λ (t6:Value) (w:World) =>
 XP (λ t6 t7 w next5 =>
 Es t3 t4 t5 t6 t7 next1 next5 R w) t6 (.int .i64 0) w) λ K4 =>
 Zr t35 (
 NS t5 K4 R w) (
 K4 (Value.slice none 0 0) w)
def j5 (t3 t4 t5 t25 t29:Value) (next1:KW) (R:RT) (w:World):Prop :=
 Zu t25 (.bool true) t29 λ t30 =>
 Zq (λ (t34:Value) (w:World) =>
 qZ t3 t4 t5 t30 t34 next1 R w) λ K3 =>
 Zl t30 false (
 F0 48 t5 1 R w λ t32 w =>
 L0 42 t32 R w λ t33 w =>
 B0 .eql 42 true t33 (.int .i64 12) R w λ t34 w =>
 K3 t34 w) (
 K3 undef w)
def O5 (t1 t3 t4:Value) (next1:KW) (R:RT) (w:World):Prop :=
 F0 24 t1 1 R w λ t18 w =>
 L0 22 t18 R w λ t19 w =>
 X0 22 t19 t4 R w λ t21 w =>
 L0 48 t21 R w λ t22 w =>
 opV Pg (Instr.alloc 48 true (.tuple #[])) (Zd R) w λ t5 w =>
 opU Pg (Instr.storeAt 48 t5 t22) (Zd R) w λ w =>
 F0 48 t5 1 R w λ t23 w =>
 L0 42 t23 R w λ t24 w =>
 B0 .eql 42 true t24 (.int .i64 7) R w λ t25 w =>
 Zq (λ (t29:Value) (w:World) =>
 j5 t3 t4 t5 t25 t29 next1 R w) λ K2 =>
 Zl t25 false (
 F0 48 t5 1 R w λ t27 w =>
 L0 42 t27 R w λ t28 w =>
 B0 .eql 42 true t28 (.int .i64 8) R w λ t29 w =>
 K2 t29 w) (
 K2 undef w)
def NZ (t1 t3 t4:Value) (next1:KW) (R:RT) (w:World):Prop :=
 F0 24 t1 1 R w λ t12 w =>
 L0 22 t12 R w λ t13 w =>
 opV Pg (Builtin.len_ #[22] 3 #[t13]) (Zd R) w λ t14 w =>
 B0 .lss 3 false t4 t14 R w λ t15 w =>
 Zr t15 (
 O5 t1 t3 t4 next1 R w) (
 R (.returned t3) w)
def n28 (t0:Value) (R:RT) (w:World):Prop :=
 opV Pg (Instr.box 24 t0) (Zd R) w λ t1 w =>
 XP (λ t3 t4 w next1 =>
 NZ t1 t3 t4 next1 R w) (Value.slice none 0 0) (.int .i64 0) w
set_option maxHeartbeats 40000000 in
theorem Zgg {t0:Value} {R:RT} {w:World} (h:n28 t0 R w):Calls Pg 54 #[t0] w R:=by
 refine yD Tryz.func54 ?_
 refine zs<|zr<|yv h λ _ w h=>zm<|zn<|zk<|zs<|zr<|zm<|zn<|zk<|zs<|zs<|zr<|zm ?_
 refine zn<|zk<|Zj<|yl2 [3,4,5,6,7,8,9,10,11,12,13,14,15,16,17,18,19,20,21,22,23,24,25,26,27,28,29,30,31,32,33,34,35,36,37,38,39,40,41,42,43,44,45,46,47,48,49,50,51,52,53,54,55,56,57,58,59,60,61,62,63,64,65,66,67,68,69,70,71,72,73,74,75,76,77,78,79,80,81,82,83,84,85,86,87,88,89,90,91,92,93,94] 3 4 h λ σ w next h=>zs<|zs<|zr<|zm<|yv h λ _ w h=>yv h λ _ w h=>yx h λ _ w h=>yb h λ _ w h=>zn<|zk<|yC h (λ h=>?_) λ h=>?_
 · refine Zh<|zk<|zs<|Zj<|zs<|zr<|yv h λ _ w h=>yv h λ _ w h=>zm<|yv h λ _ w h=>yv h λ _ w h=>yv h λ _ w h=>yu h λ w h=>zn<|zk ?_
   refine zs<|zr<|zm<|zn<|zk<|zs<|zs<|Zs<|yG 4<|yv h λ _ w h=>yv h λ _ w h=>yb h λ _ w h=>zm<|zn<|yg1 3 3 false [27,28,29] 29 h (λ _ T hT h=>?_) λ σ w h=>?_
   · refine yv h λ _ w h=>yv h λ _ w h=>yb h λ _ w h=>zn ?_
     exact zt hT h
   refine yG 2<|yp h λ _ h=>zm<|zn<|yg1 3 8 false [32,33,34] 34 h (λ _ T hT h=>?_) λ σ w h=>?_
   · refine yv h λ _ w h=>yv h λ _ w h=>yb h λ _ w h=>zn ?_
     exact zt hT h
   refine yG 1<|yp h λ _ h=>zn<|ZG<|zk<|yJ1 [6,36,37,38,39,40] 6 h (λ _ _ hkK4 h=>?_) λ σ w h=>?_
   · refine yC h (λ h=>?_) λ h=>?_
     · refine zr<|zm<|yv h λ _ w h=>yv h λ _ w h=>yS h λ _ w h=>yx h λ _ w h=>zm<|zn<|zk ?_
       exact zt hkK4 h
     refine Zh<|zk ?_
     exact zt hkK4 h
   refine zk<|zs<|zs<|zr<|zm<|zn<|zk<|Zj<|yl2 [6,7,41,42,43,44,45,46,47,48,49,50,51,52,53,54,55,56,57,58,59,60,61] 6 7 h λ σ w next h=>zs<|zs<|Zs<|yG 4<|yv h λ _ w h=>yv h λ _ w h=>?_
   refine yb h λ _ w h=>zm<|zn<|yg1 5 3 true [45,46,47,48,49] 49 h (λ _ T hT h=>?_) λ σ w h=>?_
   · refine zm<|yv h λ _ w h=>yv h λ _ w h=>yx h λ _ w h=>yb h λ _ w h=>zn ?_
     exact zt hT h
   refine yG 1<|yp h λ _ h=>zn<|ZG<|zk<|yC h (λ h=>?_) λ h=>?_
   · refine Zh<|zk<|zs<|Zj<|zr<|zm<|yv h λ _ w h=>yv h λ _ w h=>zm<|yv h λ _ w h=>yv h λ _ w h=>yv h λ _ w h=>yS h λ _ w h=>yx h λ _ w h=>zm ?_
     exact zn<|Zg<|zk<|zr<|zm<|yb h λ _ w h=>zm<|zn<|zk<|⟨rfl,h⟩
   refine Zy<|Zc<|Zc<|Zn<|zk<|zs<|zr<|zm<|zn<|zk<|Zj<|yl2 [3,8,9,10,62,63,64,65,66,67,68,69,70,71,72,73,74,75,76,77,78,79,80,81,82,83,84,85,86,87,88,89,90,91,92,93,94] 3 8 h λ σ w next h=>zs<|zs<|zr ?_
   refine zm<|zm<|yx h λ _ w h=>yb h λ _ w h=>zn<|zk<|yC h (λ h=>?_) λ h=>?_
   · refine Zh<|zk<|zs<|Zj<|zs<|zr<|zm<|zn<|zk<|zs<|zs<|zr<|zm<|zn<|zk ?_
     refine Zj<|yl2 [9,10,68,69,70,71,72,73,74,75,76,77,78,79,80,81,82,83,84,85] 9 10 h λ σ w next h=>zs<|zs<|zr<|zm<|zm<|yx h λ _ w h=>yb h λ _ w h=>zn<|zk<|yC h (λ h=>?_) λ h=>?_
     · refine Zh<|zk<|zs<|Zj<|yh [9,74,75,76,77,78,79,80,81,82,83,84,85] h λ C hC h=>yw 0 hC ?_
       refine yw 1 hC ?_
       refine yj1 2 [10,9,8,7,6,5,4,3,2,1,0] [76,77,78,79,80,81,82,83,84] 84 h (λ _ hT hb h=>?_) (λ _ hT hb h=>?_) λ σ w hC h=>?_
       · refine yw 2 hC ?_
         refine yw 3 hC ?_
         refine ye 4 hC h λ _ h=>?_
         refine ye 5 hC h λ _ h=>?_
         refine yw 6 hC ?_
         refine yw 7 hC ?_
         refine ye 8 hC h λ _ h=>?_
         refine ye 9 hC h λ _ h=>?_
         refine ye 10 hC h λ _ h=>?_
         exact yt hT hC h
       · refine yi 2 hC ?_
         refine yi 3 hC ?_
         refine yi 4 hC ?_
         refine yi 5 hC ?_
         refine yi 6 hC ?_
         refine yi 7 hC ?_
         refine yi 8 hC ?_
         refine yi 9 hC ?_
         refine yi 10 hC ?_
         exact yt hT hC h
       refine yP 11 hC h λ _ h=>?_
       refine yw 12 hC ?_
       exact yz<|Zg<|zk<|zr<|zm<|yb h λ _ w h=>zm<|zn<|zk<|⟨rfl,h⟩
     refine Zy<|Zc<|Zc<|Zn<|zk<|zs<|zr<|zm<|yv h λ _ w h=>zn<|zk<|yJ1 [3,88,89,90,91,92,93,94] 3 h (λ _ _ hkK11 h=>?_) λ σ w h=>?_
     · refine yC h (λ h=>?_) λ h=>?_
       · refine zr<|zm<|zm<|zm<|yv h λ _ w h=>yv h λ _ w h=>yS h λ _ w h=>yx h λ _ w h=>zm<|zn<|zk ?_
         exact zt hkK11 h
       refine Zh<|zk ?_
       exact zt hkK11 h
     exact Zg<|zk<|zr<|zm<|yb h λ _ w h=>zm<|zn<|zk<|⟨rfl,h⟩
   exact Zy<|Zc<|Zc<|Zn<|Zg<|zk<|zr<|zm<|yb h λ _ w h=>zm<|zn<|zk<|⟨rfl,h⟩
 exact Zy<|Zc<|Zc<|Zn<|zk<|zs<|zr<|zm<|zm<|zn<|zk<|Zk<|Zi rfl rfl h
def Fj (t16 t36 t39 t45 t50:Value) (next2:KV) (R:RT) (w:World):Prop :=
 Zu t45 (.bool true) t50 λ t51 =>
 X0 93 t16 t39 R w λ t52 w =>
 opU Pg (Instr.storeAt 4 t52 t51) (Zd R) w λ w =>
 B0 .add 3 true t36 (.int .i64 1) R w λ t53 w =>
 next2 t53 w
def MC (t7 t16 t34 t36:Value) (next2:KV) (R:RT) (w:World):Prop :=
 X0 30 t34 t36 R w λ t38 w =>
 L0 3 t38 R w λ t39 w =>
 X0 93 t16 t39 R w λ t44 w =>
 L0 4 t44 R w λ t45 w =>
 Zq (λ (t50:Value) (w:World) =>
 Fj t16 t36 t39 t45 t50 next2 R w) λ K3 =>
 Zl t45 false (
 X0 93 t16 t7 R w λ t49 w =>
 L0 4 t49 R w λ t50 w =>
 K3 t50 w) (
 K3 undef w)
def N7 (t7 t16 t34 t35 t36:Value) (next1:KV) (next2:KV) (R:RT) (w:World):Prop :=
 B0 .lss 3 false t36 t35 R w λ t37 w =>
 Zr t37 (
 MC t7 t16 t34 t36 next2 R w) (
 B0 .sub 3 true t7 (.int .i64 1) R w λ t31 w =>
 next1 t31 w)
def OZ (t1 t7 t16:Value) (next1:KV) (R:RT) (w:World):Prop :=
 L0 28 t1 R w λ t32 w =>
 C0 56 #[t32,t7] R w λ t34 w =>
 opV Pg (Builtin.len_ #[30] 3 #[t34]) (Zd R) w λ t35 w =>
 Yi (λ t36 w next2 =>
 N7 t7 t16 t34 t35 t36 next1 next2 R w) (.int .i64 0) w
def Od (t1 t16 t21:Value) (R:RT) (w:World):Prop :=
 opV Pg (Instr.extract t21 0) (Zd R) w λ t22 w =>
 opV Pg (Instr.extract t21 1) (Zd R) w λ t23 w =>
 X0 93 t16 t22 R w λ t26 w =>
 opU Pg (Instr.storeAt 4 t26 (.bool true)) (Zd R) w λ w =>
 Yi (λ t7 w next1 =>
 B0 .geq 3 true t7 (.int .i64 0) R w λ t29 w =>
 Zr t29 (
 OZ t1 t7 t16 next1 R w) (
 R (.returned (.tuple #[t16,(.int .i64 0)])) w)) t22 w
def Oz (t1:Value) (R:RT) (w:World):Prop :=
 F0 28 t1 1 R w λ t13 w =>
 L0 26 t13 R w λ t14 w =>
 opV Pg (Builtin.len_ #[26] 3 #[t14]) (Zd R) w λ t15 w =>
 opV Pg (Instr.makeSlice 93 t15 t15) (Zd R) w λ t16 w =>
 L0 28 t1 R w λ t18 w =>
 F0 28 t1 2 R w λ t19 w =>
 L0 9 t19 R w λ t20 w =>
 C0 31 #[t18,t20] R w λ t21 w =>
 Od t1 t16 t21 R w
def ZaN (t0:Value) (R:RT) (w:World):Prop :=
 opV Pg (Instr.box 28 t0) (Zd R) w λ t1 w =>
 L0 28 t1 R w λ t10 w =>
 C0 29 #[t10] R w λ t11 w =>
 opV Pg (Op.unary .not t11) (Zd R) w λ t12 w =>
 Zr t12 (
 R (.returned (.tuple #[(Value.slice none 0 0),(.int .i64 2)])) w) (
 Oz t1 R w)
theorem Zb4 {t0:Value} {R:RT} {w:World} (h:ZaN t0 R w):Calls Pg 55 #[t0] w R:=by
 refine yD Tryz.func55 ?_
 refine zs<|zr<|yv h λ _ w h=>zm<|zm<|zn<|zk<|zs<|zs<|zr<|yv h λ _ w h=>yc h c29 λ _ w h=>yv h λ _ w h=>zn<|zk ?_
 refine yC h (λ h=>zs<|zr<|zm<|zm<|zn<|zk<|Zk<|Zb<|Yx rfl rfl rfl h) λ h=>Zh<|zk<|zs<|zr<|yv h λ _ w h=>yv h λ _ w h=>yx h λ _ w h=>yv h λ _ w h=>zm<|zn<|zk<|zs<|zr ?_
 refine yv h λ _ w h=>yv h λ _ w h=>yv h λ _ w h=>yc h c31 λ _ w h=>zm<|yv h λ _ w h=>yv h λ _ w h=>zm<|zm<|zn<|zk<|zs<|zr<|zm<|zm ?_
 refine yv h λ _ w h=>yu h λ w h=>zn<|zk<|zs<|zs<|zr<|zm<|zm<|zn<|zk<|Zj<|yl1 [7,9,28,29,30,31,32,33,34,35,36,37,38,39,40,41,42,43,44,45,46,47,48,49,50,51,52,53] 7 h λ σ w next h=>zs<|zs ?_
 refine zr<|zm<|yb h λ _ w h=>zn<|zk<|yC h (λ h=>?_) λ h=>?_
 · refine Zh<|zk<|zs<|Zj<|zs<|zr<|yv h λ _ w h=>zm<|yc h c56 λ _ w h=>yx h λ _ w h=>zm<|zn<|zk<|Zj<|yl1 [9,36,37,38,39,40,41,42,43,44,45,46,47,48,49,50,51,52,53] 36 h λ σ w next h=>?_
   refine zs<|zr<|yb h λ _ w h=>zn<|zk<|zs<|yC h (λ h=>?_) λ h=>?_
   · refine Zh<|zk<|zs<|Zj<|zs<|zr<|yv h λ _ w h=>yv h λ _ w h=>zm<|zn<|zk<|Zs<|yG 7<|zm<|zm ?_
     refine zm<|zm<|yv h λ _ w h=>yv h λ _ w h=>zm<|zn<|yg1 4 6 false [47,48,49,50] 50 h (λ _ T hT h=>?_) λ σ w h=>?_
     · refine zm<|zm<|yv h λ _ w h=>yv h λ _ w h=>zn ?_
       exact zt hT h
     exact yG 3<|yp h λ _ h=>yv h λ _ w h=>yu h λ w h=>zn<|ZG<|Zg<|zk<|zr<|yb h λ _ w h=>zm<|zn<|zk<|⟨rfl,h⟩
   exact Zy<|Zc<|Zc<|Zn<|Zg<|zk<|zr<|zm<|yb h λ _ w h=>zm<|zn<|zk<|⟨rfl,h⟩
 exact Zy<|Zc<|Zc<|Zn<|zk<|zs<|zr<|zm<|zm<|zm<|zn<|zk<|Zk<|Yx rfl rfl rfl h
def Oj (t5 t19:Value) (Kr1:World→Prop) (Qr1:List PanicEntry→World→Prop) (R:RT) (w:World):Prop :=
 opV Pg (Instr.extract t19 0) Qr1 w λ t20 w =>
 opV Pg (Instr.extract t19 1) Qr1 w λ t21 w =>
 opV Pg (Instr.loadAt 30 t5) Qr1 w λ t22 w =>
 opV Pg (Instr.buildSlice 30 1 #[(0,t20)]) Qr1 w λ t24 w =>
 opV Pg (Builtin.append_ #[30,30] 30 #[t22,t24]) Qr1 w λ t25 w =>
 opU Pg (Instr.storeAt 30 t5 t25) Qr1 w λ w =>
 Kr1 w
def Ns (t5:Value) (ds:List Deferred) (R:RT) (w:World):Prop :=
 opV Pg (Instr.loadAt 30 t5) (Zw Pg ds [(none,(Value.slice none 0 0))] R) w λ t26 w =>
 Yq Pg 83 #[t26] (Zw Pg ds [(none,(Value.slice none 0 0))] R) w λ t27 w =>
 opV Pg (Instr.loadAt 30 t5) (Zw Pg ds [(none,(Value.slice none 0 0))] R) w λ t28 w =>
 VP Pg ds [(none,t28)] R w
def MU (t2 t5 t14:Value) (ds:List Deferred) (R:RT) (w:World):Prop :=
 zy Pg t14 ds (λ l1 t15 w Kr1 Xr1 Qr1 =>
 AU l1 w λ w =>
 opV Pg (Instr.loadAt 28 t2) Qr1 w λ t17 w =>
 Yq Pg 31 #[t17,t15] Qr1 w λ t19 w =>
 Oj t5 t19 Kr1 Qr1 R w) (λ ch ds w=>Zw Pg ds [(none,(Value.slice none 0 0))] R ch w) w (λ ds w =>
 Ns t5 ds R w) []
def ZaD (t0 t1:Value) (R:RT) (w:World):Prop :=
 (λ (ds:List Deferred) =>
 opV Pg (Instr.box 28 t0) (Zw Pg ds [(none,undef)] R) w λ t2 w =>
 opV Pg (Instr.alloc 30 true (.tuple #[])) (Zw Pg ds [(none,(Value.slice none 0 0))] R) w λ t5 w =>
 opV Pg (Instr.fieldAt 28 t2 1) (Zw Pg ds [(none,(Value.slice none 0 0))] R) w λ t9 w =>
 opV Pg (Instr.loadAt 26 t9) (Zw Pg ds [(none,(Value.slice none 0 0))] R) w λ t10 w =>
 opV Pg (Instr.indexAt 26 t10 t1) (Zw Pg ds [(none,(Value.slice none 0 0))] R) w λ t12 w =>
 opV Pg (Instr.loadAt 24 t12) (Zw Pg ds [(none,(Value.slice none 0 0))] R) w λ t13 w =>
 Yq Pg 32 #[t13] (Zw Pg ds [(none,(Value.slice none 0 0))] R) w λ t14 w =>
 MU t2 t5 t14 ds R w) []
theorem Zcf {t0 t1:Value} {R:RT} {w:World} (h:ZaD t0 t1 R w):Calls Pg 56 #[t0,t1] w R:=by
 refine yE Tryz.func56 ?_
 unfold ZaD at h
 dsimp only at h
 refine zs<|zr<|yv h λ _ w h=>zm<|zn<|zk<|zs<|zr<|yv h λ _ w h=>zn<|zk<|zs<|zs<|zr<|yv h λ _ w h=>?_
 refine yv h λ _ w h=>zm<|yv h λ _ w h=>yv h λ _ w h=>yc h c32 λ _ w h=>zn<|zk<|Zj<|Ue [] h rfl (λ l1 t15 w Kr1 Xr1 Qr1 h=>?_) (λ ds w h=>?_) (λ c ds w h=>?_) (λ ch ds w h=>XR rfl h)
 · refine zr<|zm<|zn<|zk ?_
   obtain ⟨hr,h⟩:=h
   refine ⟨rfl,hr,λ w hb=>?_⟩
   have h:=h w hb
   refine Zj<|zs<|zr<|yv h λ _ w h=>zm<|yc h c31 λ _ w h=>zm<|yv h λ _ w h=>yv h λ _ w h=>zm<|zm<|zn<|zk<|zr<|yv h λ _ w h=>?_
   exact zm<|yS h λ _ w h=>yx h λ _ w h=>yu h λ w h=>zn<|Zg<|⟨rfl,h⟩
 · refine Zg<|zk<|zs<|zr<|yv h λ _ w h=>yc h c83 λ _ w h=>zn<|zk<|zs<|zr<|yv h λ _ w h=>zm<|zn<|zk<|Zk ?_
   exact Xb rfl h
 exact h.elim
open Go.RowKit (intOf Below)
def Ur (o:List ByteArray) (s:ByteArray):List ByteArray:=if o.any (λ y=>decide (y=s)) then o else o++[s]
theorem j4:∀ (l seen:List ByteArray) (s:ByteArray),Yj seen (l++[s])=Yj seen l++(if (seen++l).any (λ y=>decide (s=y)) then [] else [s])
 | [],seen,s=>by
  simp only [List.nil_append,Yj,List.append_nil]
 | a::l,seen,s=>by
  simp only [List.cons_append,Yj]
  rw [j4 l (seen++[a]) s]
  have:(seen++[a]++l)=seen++a::l:=by simp
  rw [this]
  split<;>simp
theorem Uk:∀ (l seen:List ByteArray) (s:ByteArray),s∈Yj seen l↔s∈l∧s ∉ seen
 | [],seen,s=>by simp [Yj]
 | a::l,seen,s=>by
  simp only [Yj]
  by_cases h:(seen.any λ y=>decide (a=y))=true
  · rw [if_pos h,Uk l]
    have ha:a∈seen:=by obtain ⟨y,h1,h2⟩:=List.any_eq_true.1 h;simp at h2;subst h2;exact h1
    simp only [List.mem_append,List.mem_singleton,List.mem_cons,not_or]
    constructor
    · rintro ⟨h1,h2,h3⟩;exact ⟨.inr h1,h2⟩
    · rintro ⟨h1 | h1,h2⟩
      · subst h1;exact absurd ha h2
      · exact ⟨h1,h2,⟨λ (e:s=a)=>h2 (e ▸ ha),by simp⟩⟩
  · rw [if_neg h]
    have ha:a ∉ seen:=λ h2=>h (List.any_eq_true.2 ⟨a,h2,by simp⟩)
    simp only [List.mem_cons,Uk l,List.mem_append,List.mem_singleton,not_or]
    by_cases e:s=a
    · subst e;simp [ha]
    · simp [e]
theorem JX (l:List ByteArray):Yj [] l=l.foldl Ur []:=by
 refine xp (motive:=λ l=>Yj [] l=l.foldl Ur []) rfl (λ l a ih=>?_) l
 rw [j4,List.foldl_append,← ih,List.nil_append]
 show _=Ur (Yj [] l) a
 unfold Ur
 have:((Yj [] l).any λ y=>decide (y=a))=(l.any λ y=>decide (a=y)):=by
  rw [Bool.eq_iff_iff,List.any_eq_true,List.any_eq_true]
  constructor
  · rintro ⟨y,h1,h2⟩;simp at h2;subst h2;exact ⟨y,((Uk l [] y).1 h1).1,by simp⟩
  · rintro ⟨y,h1,h2⟩;simp at h2;subst h2;exact ⟨a,(Uk l [] a).2 ⟨h1,by simp⟩,by simp⟩
 rw [this]
 split<;>simp
theorem No (o:List ByteArray) (s:ByteArray):o.length≤(Ur o s).length∧(Ur o s).length≤o.length+1:=by unfold Ur;split<;>simp
theorem Vv:∀ (l o:List ByteArray),(l.foldl Ur o).length≤o.length+l.length
 | [],o=>by simp
 | s::l,o=>by
  have h1:=Vv l (Ur o s)
  have h2:=(No o s).2
  simp only [List.foldl_cons,List.length_cons];omega
abbrev Vg (w:World) (base:Nat) (v:Value) (l:List ByteArray):Prop:=Z5 w base 9 1 W7 v l
theorem Jd {w:World} {QP:List PanicEntry→World→Prop} {k:Value→World→Prop} {base:Nat} {v:Value} {l:List ByteArray} (s:ByteArray) {p:Nat} (hown:Vg w base v l) (hp:w.heap[p]?=some (.cells #[.string s] 9 (0,0))) (hbase:base≤w.heap.size) (hl:l.length≤1048576)
 (hk:∀ v' w',Vg w' base v' (l++[s])→w.grownBy w' v.ownBlock→(∀ b,v'.ownBlock=some b→v.ownBlock=some b∨b=w.heap.size)→k v' w') :
 opV Pg (Builtin.append_ #[82,82] 82 #[v,.slice (some ⟨p,0,none⟩) 1 1]) QP w k:=by
 have hby:=by9
 refine Hk (l':=[s]) Tryz.underlying82 ty9 rfl (by decide) (λ _=>rfl) (λ x _ u hu=>by simp at hu;subst hu;rfl) hown (λ j x hx=>?_) hbase (Nat.zero_lt_one) ?_ (by simp;omega) ?_
 · cases j with
   | zero =>
    simp at hx;subst hx
    intro j v hv
    rw [(Za hp).1]
    simpa using hv
   | succ j=>simp at hx
 · simp only [List.length_cons,List.length_nil]
   exact Nat.le_trans (Nat.mul_le_mul (Nat.add_le_add_right hl 1) hby) (by decide)
 · intro g cap w' h1 h2 h3 h4
   refine hk _ w' h1 h2 (λ b hb=>?_)
   simp only [Value.ownBlock,Option.some.injEq] at hb
   subst hb
   exact h3
def xX (v u:Value):Prop:=∀ b,v.ownBlock=some b→u.ownBlock≠some b
theorem Vg.lt {w:World} {base:Nat} {v:Value} {l:List ByteArray} (h:Vg w base v l):∀ b,v.ownBlock=some b→b < w.heap.size:=λ b hb=>(World.ownsRow.lt h b hb).2
theorem xX.after {v u v':Value} {n:Nat} (h:xX v u) (hu:∀ b,u.ownBlock=some b→b < n) (hv:∀ b,v'.ownBlock=some b→v.ownBlock=some b∨b=n):xX v' u:=λ b hb e=>by
 rcases hv b hb with h1 | h1
 · exact h b h1 e
 · have:=hu b e;omega
def QT (m:ZD):List ByteArray:=Yj [] (Z0 m.fields)
section
variable {W:World} {R:RT}
theorem HS {w:World} (e:Ext W w) (sv t6 t4:Value) (out L:List ByteArray) (hO:Vg w W.heap.size sv out) (hL:Vg w W.heap.size t6 L) (hA:xX sv t6) (hlen:out.length+L.length≤1048576) (next1:Value→Value→World→Prop)
 (i:Nat) (hi:i < 9223372036854775807) (h4:t4 = .int .i64 (i:Int)) (hn:∀ sv' w',Ext W w'→Vg w' W.heap.size sv' (L.foldl Ur out)→next1 sv' (.int .i64 ((i+1:Nat):Int)) w') :
 XP (λ t3 t8 w next7=>NG t3 t4 t6 t8 next1 next7 R w) sv (.int .i64 0) w:=by
 refine Ye (λ a b w'=>∃ (k:Nat) (sv':Value),a=sv'∧b = .int .i64 k∧k≤L.length∧Ext W w'∧Vg w' W.heap.size sv' ((L.take k).foldl Ur out)∧Vg w' W.heap.size t6 L∧xX sv' t6) (λ _ b _=>L.length - (intOf b).toNat) ⟨0,sv,rfl,rfl,by omega,e,hO,hL,hA⟩ ?_
 rintro _ _ w1 ⟨k,sv',rfl,rfl,hk,e1,hO1,hL1,hA1⟩
 have hsl:=hL1.slice (E:=KQ) (λ _=>rfl) (λ _ _=>rfl)
 obtain ⟨A,c,h6,hlc,hcm,hlm,hel⟩:=Ze.open hsl
 unfold NG
 rcases ZB hk with ⟨x,hx,hd,hlt,hdec⟩ | ⟨hk,hd,hdec⟩
 · have hstep:(L.take (k+1)).foldl Ur out=Ur ((L.take k).foldl Ur out) x:=by rw [ZU hx,List.foldl_append];rfl
   have hol:((L.take k).foldl Ur out).length≤1048576:=by
    have:=Vv (L.take k) out
    have h2:(L.take k).length≤L.length:=by rw [List.length_take];omega
    omega
   generalize ((L.take k).foldl Ur out)=o1 at hO1 hstep hol
   obtain ⟨b6,o6,cs6,hA6,_,hE6,hcs6⟩:=hel k x hx
   subst h6 hA6
   subst hcs6
   simp (disch:=try exact DI) only [↓PR,QR,simprocAttr,hdec]
   refine Ye (λ a b w'=>∃ (j:Nat),a = .bool ((o1.take j).any λ y=>decide (y=x))∧b = .int .i64 j∧j≤o1.length∧Ext w1 w') (λ _ b _=>o1.length - (intOf b).toNat) ⟨0,by simp,rfl,by omega,Ext.refl _⟩ ?_
   rintro _ _ w2 ⟨j,rfl,rfl,hj,e2⟩
   have hso:=hO1.slice (E:=KQ) (λ _=>rfl) (λ _ _=>rfl)
   obtain ⟨A3,c3,h3,hlc3,hcm3,hlm3,hel3⟩:=Ze.open hso
   unfold To
   rcases ZB hj with ⟨y,hy,hdj,hltj,hdecj⟩ | ⟨hj,hdj,hdecj⟩
   · obtain ⟨b3,o3,cs3,hA3,_,hE3,hcs3⟩:=hel3 j y hy
     subst h3 hA3
     subst hcs3
     have hany:((o1.take (j+1)).any λ y=>decide (y=x))=(((o1.take j).any λ y=>decide (y=x))||decide (y=x)):=by rw [ZU hy,List.any_append];simp
     simp (disch:=try exact DI) only [↓PR,QR,simprocAttr,hdecj]
     refine ZI ?_
     unfold SV
     generalize hsn:((o1.take j).any λ y=>decide (y=x))=sn at hany
     cases sn with
     | true =>
      simp (disch:=try exact DI) only [↓PR,QR,simprocAttr]
      refine ⟨⟨j+1,?_,rfl,by omega,ee⟩,ZF (kd := .i64) hltj⟩
      rw [hany];rfl
     | false =>
      simp (disch:=try exact DI) only [↓PR,QR,simprocAttr,hE3.c1 e2,hE6.c1 e2]
      refine ⟨⟨j+1,?_,rfl,by omega,ee⟩,ZF (kd := .i64) hltj⟩
      rw [hany];rfl
   · subst hj
     rw [List.take_length]
     have hadd:Ur o1 x=if (o1.any λ y=>decide (y=x))=true then o1 else o1++[x]:=rfl
     rw [hadd] at hstep
     subst h3
     simp (disch:=try exact DI) only [↓PR,QR,simprocAttr,hdecj]
     unfold Tq
     generalize (o1.any λ y=>decide (y=x))=sn at hstep
     cases sn with
     | true =>
      rw [if_pos rfl] at hstep
      simp (disch:=try exact DI) only [↓PR,QR,simprocAttr]
      exact ⟨⟨k+1,_,rfl,rfl,by omega,e1.trans e2,by rw [hstep];exact hO1.ext e2,hL1.ext e2,hA1⟩,ZF (kd := .i64) hlt⟩
     | false =>
      rw [if_neg (by simp)] at hstep
      simp (disch:=try exact DI) only [↓PR,QR,simprocAttr,R9,hE6.c1 e2]
      have ea:Ext w1 (w2.alloc (Obj.cells #[.string x] 9)):=e2.alloc _
      have hsz:(w2.alloc (Obj.cells #[.string x] 9)).heap.size=w2.heap.size+1:=by simp only [World.size_alloc]
      have s1:=e1.size
      have s2:=e2.size
      refine Jd x (hO1.ext ea) (ZE w2 _ _) (by omega) hol ?_
      intro v' w' hO' hg hv'
      have ew:Ext W w':=(e1.trans ea).grown hg (λ b hb=>(World.ownsRow.lt hO1 b hb).1)
      simp (disch:=try exact DI) only [↓PR,QR,simprocAttr]
      refine ⟨⟨k+1,v',rfl,rfl,by omega,ew,by rw [hstep];exact hO',(hL1.ext ea).grown hg (λ b hb e=>hA1 b e hb),hA1.after (λ b hb=>?_) hv'⟩,ZF (kd := .i64) hlt⟩
      have:=hL1.lt b hb
      omega
 · subst hk
   rw [List.take_length] at hO1
   subst h6
   rw [h4]
   simp (disch:=try exact DI) only [↓PR,QR,simprocAttr,hdec]
   exact hn _ w1 e1 hO1
theorem O9 {w:World} (e:Ext W w) (x:Zm) (tv cv:Value) (p5:Nat) (o5:w.heap[p5]?=some (.cells (Zo x tv cv).toArray 48 (0,0))) (hC:Yc W cv x.cases) (sv t6 t4:Value) (out:List ByteArray) (hO:Vg w W.heap.size sv out) (hlen:out.length+(XQ x).length≤1048576)
 (h6:(x.kind≠9∧Vg w W.heap.size t6 (XQ x)∧xX sv t6)∨(x.kind=9∧t6 = .slice none 0 0)) (next1:Value→Value→World→Prop) (i:Nat) (hi:i < 9223372036854775807) (h4:t4 = .int .i64 (i:Int))
 (hn:∀ sv' w',Ext W w'→Vg w' W.heap.size sv' ((XQ x).foldl Ur out)→next1 sv' (.int .i64 ((i+1:Nat):Int)) w') :
 XP (λ t6 t7 w next5=>Es sv t4 (.pointer (some ⟨p5,0,none⟩)) t6 t7 next1 next5 R w) t6 (.int .i64 0) w:=by
 rcases h6 with ⟨hk,hL,hA⟩ | ⟨hk,rfl⟩
 · refine Ye (λ a b w'=>a=t6∧b = .int .i64 0∧w'=w) (λ _ _ _=>0) ⟨rfl,rfl,rfl⟩ ?_
   rintro _ _ _ ⟨rfl,rfl,rfl⟩
   unfold Es
   have k9:(x.kind == 9)=false:=by simpa using hk
   simp (disch:=try exact DI) only [↓PR,QR,simprocAttr,(Za o5).1,k9,IV]
   exact HS e sv _ t4 out (XQ x) hO hL hA hlen next1 i hi h4 hn
 · have hr:XQ x=x.cases.map (·.of):=by unfold XQ;rw [if_neg (by omega),if_pos hk]
   have k9:(x.kind == 9)=true:=by simpa using hk
   obtain ⟨A,c,rfl,hlc,hcm,hlm,hel⟩:=Ze.open hC
   have l5:p5 < w.heap.size:=(Array.getElem?_eq_some_iff.1 o5).1
   rw [hr] at hlen hn
   simp only [List.length_map] at hlen
   refine Ye (λ a b w'=>∃ (k:Nat) (u:Value),a=u∧b = .int .i64 k∧k≤x.cases.length∧Ext W w'∧w'.heap[p5]?=some (.cells (Zo x tv (.slice A x.cases.length c)).toArray 48 (0,0))∧Vg w' w.heap.size u ((x.cases.take k).map (·.of))∧Vg w' W.heap.size sv out∧w.heap.size≤w'.heap.size) (λ _ b _=>x.cases.length - (intOf b).toNat) ⟨0,_,rfl,rfl,by omega,e,o5,Z5.nil _ _ _ _ _,hO,Nat.le_refl _⟩ ?_
   rintro u _ w1 ⟨k,_,rfl,rfl,hk1,e1,y5,hU,hO1,hs1⟩
   have hAp:xX sv u:=λ b hb e=>by
    have h1:=hO.lt b hb
    have h2:=(World.ownsRow.lt hU b e).1
    omega
   unfold Es
   rcases ZB hk1 with ⟨y,hy,hd,hlt,hdec⟩ | ⟨hk1,hd,hdec⟩
   · obtain ⟨b,o,cs,rfl,hl,hA,rfl⟩:=hel k y hy
     simp (disch:=try exact DI) only [↓PR,QR,simprocAttr,(Za y5).1,k9,hdec,IV]
     unfold SI
     simp (disch:=try exact DI) only [↓PR,QR,simprocAttr,(Za y5).1,hA.c3 e1]
     have ea:Ext w1 (w1.alloc (Obj.cells #[.string y.of] 9)):=ee
     have hsz:(w1.alloc (Obj.cells #[.string y.of] 9)).heap.size=w1.heap.size+1:=by simp only [World.size_alloc]
     have sW:=e.size
     refine Jd y.of (hU.ext ea) (ZE w1 _ _) (by omega) (by rw [List.length_map,List.length_take];omega) ?_
     intro v' w' hO' hg hv'
     have ew:Ext W w':=(e1.trans ea).grown hg (λ b hb=>by have:=(World.ownsRow.lt hU b hb).1;omega)
     have hsw:=hg.size
     simp (disch:=try exact DI) only [↓PR,QR,simprocAttr]
     refine ⟨⟨k+1,v',rfl,rfl,by omega,ew,?_,?_,(hO1.ext ea).grown hg (λ b hb e=>hAp b hb e),by omega⟩,ZF (kd := .i64) hlt⟩
     · rw [hg.block p5 (by omega) (λ e=>by have:=(World.ownsRow.lt hU p5 e.symm).1;omega)]
       exact ea.obj y5
     · rw [ZU hy,List.map_append];exact hO'
   · subst hk1
     rw [List.take_length] at hU
     simp (disch:=try exact DI) only [↓PR,QR,simprocAttr,(Za y5).1,k9,hdec,IV]
     exact HS e1 sv _ t4 out (x.cases.map (·.of)) hO1 (Z5.base hU e.size) hAp (by simpa using hlen) next1 i hi h4 hn
theorem Kz (w0:World) (v:Value) (m:ZD) (hm:Xe w0 v m) (hb:(Z0 m.fields).length≤1048576) :
 Ret Pg 54 #[v] w0 λ r w'=>Vg w' w0.heap.size r (QT m)∧Ext w0 w':=by
 obtain ⟨fv,rfl,hF⟩:=hm
 obtain ⟨A,c,rfl,hlc,hcm,hlm,hel⟩:=Ze.open hF
 refine Zgg (R:=ZQ _) ?_;unfold n28
 simp (disch:=try exact DI) only [↓PR,QR,simprocAttr]
 have hBW:=ZS.new (w:=w0) (Zx m (.slice A m.fields.length c)) (24)
 have eW:Ext w0 (w0.alloc (Obj.cells (List.toArray (Zx m (.slice A m.fields.length c))) (24))):=(Ext.refl _).alloc _
 generalize (w0.alloc (Obj.cells (List.toArray (Zx m (.slice A m.fields.length c))) (24)))=W at hBW eW ⊢
 have hW:w0.heap.size≤W.heap.size:=eW.size
 refine Ye (λ a b w'=>∃ (k:Nat) (sv:Value),a=sv∧b = .int .i64 k∧k≤m.fields.length∧Ext W w'∧Vg w' W.heap.size sv (Yj [] (Z0 (m.fields.take k)))) (λ _ b _=>m.fields.length - (intOf b).toNat) ⟨0,_,rfl,rfl,by omega,Ext.refl _,Z5.nil _ _ _ _ _⟩ ?_
 rintro sv _ w1 ⟨k,_,rfl,rfl,hk,e,hO⟩
 have e':=eW.trans e
 have s1:=e.size
 unfold NZ
 rcases ZB hk with ⟨x,hx,hd,hlt,hdec⟩ | ⟨hk,hd,hdec⟩
 · obtain ⟨b,o,cs,rfl,hl,hA,hE⟩:=hel k x hx
   obtain ⟨tv,cv,rfl,hT,hC,ht1,hc1⟩:=hE.op
   have hpre:Z0 (m.fields.take (k+1))=Z0 (m.fields.take k)++XQ x:=by unfold Z0;rw [ZU hx,List.flatMap_append];simp
   have hle:(Z0 (m.fields.take k)).length+(XQ x).length≤1048576:=by
    have h1:(Z0 (m.fields.take (k+1))).length≤(Z0 m.fields).length:=by
     conv=>rhs;rw [← List.take_append_drop (k+1) m.fields]
     unfold Z0
     rw [List.flatMap_append,List.length_append];omega
    rw [hpre,List.length_append] at h1;omega
   have hout:(Yj [] (Z0 (m.fields.take k))).length≤(Z0 (m.fields.take k)).length:=by
    rw [JX];have:=Vv (Z0 (m.fields.take k)) [];simpa using this
   have hle':(Yj [] (Z0 (m.fields.take k))).length+(XQ x).length≤1048576:=by omega
   have hnext:Yj [] (Z0 (m.fields.take (k+1)))=(XQ x).foldl Ur (Yj [] (Z0 (m.fields.take k))):=by rw [hpre,JX,JX,List.foldl_append]
   simp (disch:=try exact DI) only [↓PR,QR,simprocAttr,hdec,hBW.c2]
   unfold O5
   simp (disch:=try exact DI) only [↓PR,QR,simprocAttr,hBW.c2,hA.c15 e']
   have ea:Ext w1 (w1.alloc (Obj.cells (Zo x tv cv).toArray 48)):=ee
   have o5:=ZE w1 (Zo x tv cv).toArray 48
   have hO2:=hO.ext ea
   have ew:=e.trans ea
   have hbn:∀ sv' w',Ext W w'→Vg w' W.heap.size sv' ((XQ x).foldl Ur (Yj [] (Z0 (m.fields.take k))))→(∃ (k':Nat) (sv:Value),sv'=sv∧(Value.int .i64 ((k+1:Nat):Int)) = .int .i64 k'∧k'≤m.fields.length∧Ext W w'∧Vg w' W.heap.size sv (Yj [] (Z0 (m.fields.take k'))))∧m.fields.length - (intOf (Value.int .i64 ((k+1:Nat):Int))).toNat < m.fields.length - (intOf (Value.int .i64 (k:Int))).toNat :=
    λ sv' w' ew h=>⟨⟨k+1,sv',rfl,rfl,by omega,ew,by rw [hnext];exact h⟩,ZF (kd := .i64) hlt⟩
   have hCW:=Yc.ext hC eW
   have lo:∀ b,sv.ownBlock=some b→b < w1.heap.size:=λ b hb=>hO.lt b hb
   generalize hw2:(w1.alloc (Obj.cells (Zo x tv cv).toArray 48))=w2 at ea o5 hO2 ew
   have hs2:w2.heap.size=w1.heap.size+1:=by rw [← hw2];simp only [World.size_alloc]
   by_cases hr:x.kind=7∨x.kind=8∨x.kind=12
   · have hrf:XQ x=[x.of]:=by unfold XQ;rw [if_pos hr]
     have tail:Zq (λ (t6:Value) (w:World)=>XP (λ t6 t7 w next5=>Es sv (.int .i64 (k:Int)) (.pointer (some ⟨w1.heap.size,0,none⟩)) t6 t7 (λ a0' a1' w'=>(∃ (k':Nat) (sv:Value),a0'=sv∧a1' = .int .i64 k'∧k'≤m.fields.length∧Ext W w'∧Vg w' W.heap.size sv (Yj [] (Z0 (m.fields.take k'))))∧m.fields.length - (intOf a1').toNat < m.fields.length - (intOf (Value.int .i64 (k:Int))).toNat) next5 (ZQ λ r w'=>Vg w' w0.heap.size r (QT m)∧Ext w0 w') w) t6 (.int .i64 0) w) λ K4=>NS (.pointer (some ⟨w1.heap.size,0,none⟩)) K4 (ZQ λ r w'=>Vg w' w0.heap.size r (QT m)∧Ext w0 w') w2:=by
      rw [joinK_eq]
      unfold NS
      simp (disch:=try exact DI) only [↓PR,QR,simprocAttr,(Za o5).1]
      have eb:Ext w2 (w2.alloc (Obj.cells #[.string x.of] 9)):=ee
      have hsb:(w2.alloc (Obj.cells #[.string x.of] 9)).heap.size=w2.heap.size+1:=by simp only [World.size_alloc]
      refine Jd x.of (Z5.nil _ W.heap.size _ _ _) (ZE w2 _ _) (by omega) (by decide) ?_
      intro v' w' hO' hg hv'
      have eg:Ext w1 w':=(ea.trans eb).grown hg (λ b hb=>by cases hb)
      refine O9 (e.trans eg) x tv cv w1.heap.size ?_ hCW sv v' _ _ (hO.ext eg) hle' (.inl ⟨by omega,by rw [hrf];exact hO',λ b hb e=>?_⟩) _ k (by omega) rfl hbn
      · exact (Ext.grown (Ext.refl _) hg (λ b hb=>by cases hb)).obj (eb.obj o5)
      · rcases hv' b e with h1 | h1
        · cases h1
        · have:=lo b hb;omega
     rw [joinK_eq] at tail
     rcases hr with h7 | h8 | h12
     · have k7:(x.kind == 7)=true:=by simpa using h7
       simp (disch:=try exact DI) only [↓PR,QR,simprocAttr,k7,j5,qZ]
       exact tail
     · have k7:(x.kind == 7)=false:=by simp;omega
       have k8:(x.kind == 8)=true:=by simpa using h8
       simp (disch:=try exact DI) only [↓PR,QR,simprocAttr,k7,k8,j5,qZ,(Za o5).1]
       exact tail
     · have k7:(x.kind == 7)=false:=by simp;omega
       have k8:(x.kind == 8)=false:=by simp;omega
       have k12:(x.kind == 12)=true:=by simpa using h12
       simp (disch:=try exact DI) only [↓PR,QR,simprocAttr,k7,k8,k12,j5,qZ,(Za o5).1]
       exact tail
   · have k7:(x.kind == 7)=false:=by simp;omega
     have k8:(x.kind == 8)=false:=by simp;omega
     have k12:(x.kind == 12)=false:=by simp;omega
     simp (disch:=try exact DI) only [↓PR,QR,simprocAttr,k7,k8,k12,j5,qZ,(Za o5).1]
     refine O9 ew x tv cv w1.heap.size o5 hCW sv _ _ _ hO2 hle' ?_ _ k (by omega) rfl hbn
     by_cases h9:x.kind=9
     · exact .inr ⟨h9,rfl⟩
     · have hrf:XQ x=[]:=by unfold XQ;rw [if_neg hr,if_neg h9]
       exact .inl ⟨h9,by rw [hrf];exact Z5.nil _ _ _ _ _,λ b _ e=>by cases e⟩
 · subst hk
   rw [List.take_length] at hO
   simp (disch:=try exact DI) only [↓PR,QR,simprocAttr,hdec,hBW.c2]
   exact ⟨Z5.base hO hW,ee⟩
end
theorem Dp {w:World} {QP:List PanicEntry→World→Prop} {k:Value→World→Prop} {base b:Nat} {v:Value} {l:List Int} (n:Int) (h:Yy w base v l) (hc:w.cell? ⟨b,0,none⟩=some (.int .i64 n)) (hb:base≤w.heap.size) (hl:l.length≤1048576) (hk:∀ v' w',Yy w' base v' (l++[n])→w.grownBy w' v.ownBlock→k v' w') :
 opV Pg (Builtin.append_ #[30,30] 30 #[v,.slice (some ⟨b,0,none⟩) 1 1]) QP w k:=by
 refine X7 (l':=[n]) Tryz.underlying30 ty3 rfl (by decide) (λ _=>rfl) (λ x hx u hu=>?_) h (λ j x hx=>?_) hb ?_ (by simp;omega) hk
 · simp at hu;subst hu;rfl
 · cases j with
   | zero=>simp at hx;subst hx;intro i u hu;cases i with
    | zero=>injection hu with hu;subst hu;simpa using hc
    | succ i=>cases hu
   | succ j=>cases hx
 · exact Nat.le_trans (Nat.mul_le_mul (show l.length+[n].length≤1048577 by simp;omega) by3) (by decide)
theorem lasts_own {B base:Nat} {v:Value} {l:List Int}:ZO B (λ w=>Yy w base v l):=⟨λ _ _ h e=>h.ext e,λ w q r r' _ h hq=>by
 refine ⟨h.1,?_⟩
 rcases h.2 with h2 | ⟨g,cap,cur,h1,h2,h3,h4⟩
 · exact .inl h2
 · refine .inr ⟨g,cap,cur,h1,h2,(World.putObj_heap_other (by rintro rfl;rw [h3] at hq;cases hq)).trans h3,h4⟩⟩
theorem Ri {w:World} {base q:Nat} {v:Value} {l:List Int} {o:Obj} (h:Yy w base v l) (hq:w.heap[q]?=some o) (hn:∀ cs T fr,o ≠ .cells cs T fr) (o':Obj):Yy (w.putObj q o') base v l:=by
 refine ⟨h.1,?_⟩
 rcases h.2 with h2 | ⟨g,cap,cur,h1,h2,h3,h4⟩
 · exact .inl h2
 · refine .inr ⟨g,cap,cur,h1,h2,(World.putObj_heap_other (by rintro rfl;rw [h3] at hq;injection hq with hq;exact hn _ _ _ hq.symm)).trans h3,h4⟩
theorem qR {B p:Nat} {W:World} (hB:W.heap.size≤B):ZO B (Qe p (p+1) W):=⟨λ _ _ h e=>h.ext e,λ w q r r' hq h hr=>⟨h.os,h.tape,h.output,by rw [World.putObj_size];exact h.size,λ k hk hb=>(World.putObj_heap_other (by omega)).trans (h.block k hk hb)⟩⟩
theorem yU:∀ (l seen:List ByteArray),(Yj seen l).Nodup
 | [],_=>List.nodup_nil
 | x::l,seen=>by
  have ih:=yU l (seen++[x])
  unfold Yj
  split
  · exact ih
  · refine List.nodup_cons.2 ⟨λ h=>?_,ih⟩
    exact ((Uk _ _ _).1 h).2 (by simp)
theorem Jg:∀ (l seen:List ByteArray),(Yj seen l).length≤l.length
 | [],_=>Nat.le_refl _
 | x::l,seen=>by
  have ih:=Jg l (seen++[x])
  unfold Yj
  split
  · simp only [List.length_cons];omega
  · simp only [List.length_cons];omega
theorem DQ {l:List ZD} (h:YL l) {k:Nat} {m:ZD} (hk:l[k]?=some m):(QL l k).Nodup:=by
 unfold QL
 rw [hk]
 refine List.pairwise_map.2 (List.Pairwise.imp_of_mem (R:=(· ≠ ·)) ?_ (yU _ []))
 intro s t hs ht hne he
 obtain ⟨i,m1,_,h2,h3,h4,_⟩:=VO h hk hs
 obtain ⟨j,m2,_,h6,h7,h8,_⟩:=VO h hk ht
 have hij:i=j:=by omega
 subst hij
 rw [h2] at h6
 injection h6 with h6
 subst h6
 exact hne (h3.symm.trans h7)
theorem DK {l:List ZD} (h:YL l) {k:Nat} {m:ZD} (hk:l[k]?=some m):(QL l k).mergeSort (λ x y=>decide (x≤y))=toP l k:=by
 refine jQ (I9 (DQ h hk)) (Gv _ _) λ x=>?_
 rw [BF,toP,WR]
 constructor
 · intro hx
   obtain ⟨a,b⟩:=qM h hx
   refine ⟨x.toNat,by omega,Jm.1 (by rw [Int.toNat_of_nonneg a];exact hx),by omega⟩
 · rintro ⟨i,_,hi,rfl⟩
   exact Jm.2 hi
theorem j7 (w0:World) (v:Value) (d:YF) (k:Nat) (m:ZD) (hd:Yv w0 v d) (hk:d.msgs[k]?=some m) (hf:YL d.msgs) (hb:(Z0 m.fields).length≤1048576):Ret Pg 56 #[v,.int .i64 (k:Int)] w0 λ r w'=>Yy w' w0.heap.size r (toP d.msgs k)∧Ext w0 w':=by
 obtain ⟨mv,rfl,hM⟩:=hd
 have hm1:=Ze.oneCell hM
 have hM0:=hM
 obtain ⟨b,o,c,rfl,_,hcm,_,hkl,hel⟩:=UT hM hk
 obtain ⟨cs,_,hA,fv,rfl,hF⟩:=hel k m hk
 have hsort:=DK hf hk
 have hrI:QL d.msgs k=(XN m).map λ s=>idx (λ x=>decide (x.name=s)) d.msgs:=by unfold QL;rw [hk]
 have hany:∀ s∈XN m,(d.msgs.any λ x=>decide (x.name=s))=true:=λ s hs=>by
  obtain ⟨i,m',_,h2,h3,_⟩:=VO hf hk hs
  exact List.any_eq_true.2 ⟨m',List.mem_of_getElem? h2,by simpa using h3⟩
 refine Zcf (R:=ZQ _) ?_;unfold ZaD
 have eW:Ext w0 ((w0.alloc (.cells (Zz d (.slice (some ⟨b,o,none⟩) d.msgs.length c)).toArray 28)).alloc (.cells #[.slice none 0 0] 30)):=ee
 have o5:=ZE (w0.alloc (.cells (Zz d (.slice (some ⟨b,o,none⟩) d.msgs.length c)).toArray 28)) #[.slice none 0 0] 30
 have o2:=((Ext.refl (w0.alloc (.cells (Zz d (.slice (some ⟨b,o,none⟩) d.msgs.length c)).toArray 28))).alloc (.cells #[.slice none 0 0] 30)).obj (ZE w0 (Zz d (.slice (some ⟨b,o,none⟩) d.msgs.length c)).toArray 28)
 rw [World.size_alloc] at o5
 simp (disch:=try exact DI) only [↓PR,QR,simprocAttr,hA.c2 eW]
 simp only [World.size_alloc]
 change Yq _ _ _ _ ((w0.alloc (.cells (Zz d (.slice (some ⟨b,o,none⟩) d.msgs.length c)).toArray 28)).alloc (.cells #[.slice none 0 0] 30)) _
 generalize ((w0.alloc (.cells (Zz d (.slice (some ⟨b,o,none⟩) d.msgs.length c)).toArray 28)).alloc (.cells #[.slice none 0 0] 30))=W at eW o2 o5 ⊢
 generalize hp5:w0.heap.size+1=p5 at o5 ⊢
 refine Zt (qr W _ m ⟨fv,rfl,Z4.ext hF eW⟩ hb) ?_
 rintro _ w1 ⟨pb,sv,rfl,hSt,hpb,e1⟩
 have E1:=eW.trans e1
 have s1:=E1.size
 have x2:=e1.obj o2
 have x5:=e1.obj o5
 have l5:=(Array.getElem?_eq_some_iff.1 x5).1
 have lW5:=(Array.getElem?_eq_some_iff.1 o5).1
 unfold MU
 refine ⟨_,_,(XN m).length,CS (XN m),λ w=>Qo w pb sv (Z0 m.fields),λ j w'=>Qe p5 (p5+1) w1 w'∧∃ rv,w'.heap[p5]?=some (.cells #[rv] 30 (0,0))∧Yy w' w1.heap.size rv ((QL d.msgs k).take j),λ _ _=>False,λ _ _=>False,rfl,c69,qz pb sv _,⟨Qe.refl _ _ _,_,x5,Z5.nil _ _ _ _ _⟩,λ j w' h=>h.1.strs hSt (by omega),λ j=>(qR (Nat.le_refl _)).and (.ex λ rv=>(ZO.has _ (by simp)).and lasts_own),λ _=>ZO.const _ _,?_,?_,?_,?_⟩
 · intro rec j w4 hj hI4 hrec hready
   refine ⟨hready,λ w5 hbz=>?_⟩
   have hrec5:=hrec.busied hbz
   obtain ⟨sv5,rv,q5,hR5⟩:=ZO.busied (I:=λ w'=>Qe p5 (p5+1) w1 w'∧∃ rv,w'.heap[p5]?=some (.cells #[rv] 30 (0,0))∧Yy w' w1.heap.size rv ((QL d.msgs k).take j)) ((qR (Nat.le_refl _)).and (.ex λ rv=>(ZO.has _ (by simp)).and lasts_own)) hbz (Nat.le_succ _) hI4
   clear hI4 hrec hready hbz
   obtain ⟨s,hs⟩:=getElem?_lt hj
   rw [show CS (XN m) j = .string s by unfold CS;rw [hs]]
   have hsm:=List.mem_of_getElem? hs
   have q2:=sv5.obj x2 (by omega)
   have E5:Ext w0 w5:=sv5.to_ext E1 (by omega)
   simp (disch:=try exact DI) only [↓PR,QR,simprocAttr,(Za q2).1]
   refine zcr (j9 _ _ d s ⟨_,rfl,Q0.ext hM0 E5⟩) λ w6 e6=>?_
   rw [hany s hsm,j1 (hany s hsm)]
   have hr6:=hR5.ext e6
   have q6:=e6.obj q5
   have hrv:=Ze.oneCell (Yy.ints hr6)
   have hix:(QL d.msgs k)[j]?=some (idx (λ x=>decide (x.name=s)) d.msgs):=by rw [hrI,List.getElem?_map,hs];rfl
   have hlen:((QL d.msgs k).take j).length≤(QL d.msgs k).length:=by rw [List.length_take];omega
   have hrl:(QL d.msgs k).length≤1048576:=by
    rw [hrI,List.length_map]
    exact Nat.le_trans (Jg _ _) hb
   generalize idx (λ x=>decide (x.name=s)) d.msgs=n at hix
   unfold Oj
   simp (disch:=try exact DI) only [↓PR,QR,simprocAttr,(Za q6).1]
   have eY:Ext w6 (w6.alloc (.cells #[.int .i64 n] 3)):=ee
   have oY:=ZE w6 #[.int .i64 n] 3
   have qY:=eY.obj q6
   have hrY:=hrec5.ext (e6.trans eY)
   have hRY:=hr6.ext eY
   have svY:=(sv5.ext e6).ext eY
   generalize (w6.alloc (.cells #[.int .i64 n] 3))=Y at eY oY qY hrY hRY svY ⊢
   have sY:=svY.size
   refine Dp n hRY (by rw [(Za oY).1];rfl) sY (by omega) ?_
   intro v' w7 hO' hg
   have hne:rv.ownBlock≠some p5:=λ h=>by
    obtain ⟨cur,hcur⟩:=ES hRY h
    rw [qY] at hcur
    injection hcur with hcur
    injection hcur with _ hT _
    exact absurd hT (by decide)
   have l5Y:=(Array.getElem?_eq_some_iff.1 qY).1
   have q7:=(hg.block p5 l5Y (λ h=>hne h.symm)).trans qY
   have hv':=Ze.oneCell hO'.ints
   have sv7:Qe p5 (p5+1) w1 w7:=⟨hg.os.trans svY.os,hg.tape.trans svY.tape,hg.output.trans svY.output,Nat.le_trans sY hg.size,λ q hq hb=>(hg.block q (by omega) (λ e=>by have:=(hRY.lt q e.symm).1;omega)).trans (svY.block q hq hb)⟩
   simp (disch:=try exact DI) only [↓PR,QR,simprocAttr,(Za q7).1,(Za q7).2]
   refine ⟨((Gm hRY hg).rec hrY).setCell _ _,sv7.setCell (Nat.le_refl _) (Nat.lt_succ_self _) _,v',by simpa using Z2 (o:=0) q7 v',?_⟩
   rw [ZU hix]
   refine (WI.only (lo:=w1.heap.size) (hi:=w7.heap.size) ⟨hO',λ b hb=>(hO'.lt b hb).2⟩ (Yu.setCell w7 p5 0 v') (.inr (.inl l5))).1
 · rintro w4 ⟨sv4,rv,q5,hR⟩ hmk
   have hrl:(QL d.msgs k).length≤1048576:=by
    rw [hrI,List.length_map]
    exact Nat.le_trans (Jg _ _) hb
   have hlr:(QL d.msgs k).length=(XN m).length:=by rw [hrI,List.length_map]
   rw [List.take_of_length_le (by omega)] at hR
   have hrv:=Ze.oneCell hR.ints
   unfold Ns
   simp (disch:=try exact DI) only [↓PR,QR,simprocAttr,(Za q5).1]
   have e4:=sv4.to_ext E1 (by omega)
   refine Zt (DE hR hrl) ?_
   rintro _ w5 ⟨rfl,hR5,g5⟩
   rw [hsort] at hR5
   have q55:=g5.low l5 q5
   have hrv5:=Ze.oneCell hR5.ints
   simp (disch:=try exact DI) only [↓PR,QR,simprocAttr,(Za q55).1]
   refine WL (g5.mark hmk) ?_
   have hR6:=Ri hR5 (g5.mark hmk) (λ _ _ _ h=>by cases h) (.deferred none)
   have e5:=g5.2.1 w0 e4 s1
   simp (disch:=try exact DI) only [↓PR,QR,simprocAttr,WT,jp,Qf]
   exact ⟨hR6.base s1,e5.putObj s1 _⟩
 · rintro c w4 h
   exact h.elim
 · rintro ch w4 h
   exact h.elim
theorem Uy {QP:List PanicEntry→World→Prop} {w:World} {k:Value→World→Prop} (n:Nat) (hn:n≤1048576):opV Pg (Instr.makeSlice 93 (.int .i64 (n:Int)) (.int .i64 (n:Int))) QP w k =
 k (.slice (some ⟨w.heap.size,0,none⟩) n n) (w.alloc (.cells ((List.replicate n false).map λ x=>Value.bool x).toArray 4)):=by
 obtain ⟨⟨i,hi,hs,hby,hz⟩,_⟩:=ty4
 have h1:=by4
 rw [Z3 (run_make_row (P:=Pg) 93 4 i _ Tryz.underlying93 hi hz hs rfl .i64 .i64 n (by rw [hby];exact Nat.le_trans (Nat.mul_le_mul h1 hn) (by decide)) (by omega) w)]
 congr 3
 rw [List.map_replicate,← toList_madeCells_one]
def Q1 (w:World) (b:Nat) (L:List Bool):Prop:=w.heap[b]?=some (.cells (L.map λ x=>Value.bool x).toArray 4 (0,0))
theorem Q1.ext {w w':World} {b:Nat} {L:List Bool} (h:Q1 w b L) (e:Ext w w'):Q1 w' b L:=e.obj h
theorem Q1.get {w:World} {b:Nat} {L:List Bool} (h:Q1 w b L) {i:Nat} {x:Bool} (hi:L[i]?=some x):w.cell? ⟨b,i,none⟩=some (.bool x):=by rw [(Za h).1];simp [hi]
theorem Q1.set {w:World} {b:Nat} {L:List Bool} (h:Q1 w b L) (i:Nat) (x:Bool):Q1 (w.setCell ⟨b,i,none⟩ (.bool x)) b (L.set i x):=by
 have:=Z2 (o:=i) h (.bool x)
 unfold Q1
 rw [this,List.setIfInBounds_toArray,List.map_set]
theorem Q1.bools {w:World} {b:Nat} {L:List Bool} (h:Q1 w b L) (hl:L.length≤1048576):Ze w 1 EM (.slice (some ⟨b,0,none⟩) L.length L.length) L:=by
 refine ⟨_,_,rfl,Nat.le_refl _,by omega,λ _=>⟨b,0,rfl,λ k x hx=>⟨[.bool x],rfl,?_,rfl⟩⟩⟩
 intro j v hv
 cases j with
 | zero=>injection hv with hv;subst hv;simpa using h.get hx
 | succ j=>cases hv
def tab (n:Nat) (p:Nat→Bool):List Bool:=(List.range n).map p
theorem UQ (n:Nat) (p:Nat→Bool):(tab n p).length=n:=by simp [tab]
theorem Q7 {n i:Nat} {p:Nat→Bool} (h:i < n):(tab n p)[i]?=some (p i):=by simp [tab,h]
theorem QE {n:Nat} {p q:Nat→Bool} (h:∀ i,i < n→p i=q i):tab n p=tab n q:=List.map_congr_left λ i hi=>h i (List.mem_range.1 hi)
theorem zb {n i:Nat} {p:Nat→Bool} {x:Bool} (h:i < n):(tab n p).set i x=tab n (λ j=>if j=i then x else p j):=by
 apply List.ext_getElem?
 intro j
 by_cases hj:j < n
 · rw [Q7 hj]
   by_cases hji:j=i
   · subst hji;rw [if_pos rfl,List.getElem?_set_self (by rw [UQ];exact hj)]
   · rw [if_neg hji,List.getElem?_set_ne (Ne.symm hji),Q7 hj]
 · rw [List.getElem?_eq_none (by rw [List.length_set,UQ];omega),List.getElem?_eq_none (by rw [UQ];omega)]
def Yz (d:YF):Nat:=(idx (λ m=>decide (m.name=d.start)) d.msgs).toNat
theorem Ge {d:YF} (hc:(Yl d).2.2=0):Yz d < d.msgs.length∧(d.msgs.any λ m=>decide (m.name=d.start))=true∧LI (λ m=>decide (m.name=d.start)) d.msgs=Yz d:=by
 have h:=(Xh hc).2.2.2
 obtain ⟨m,hm,hn⟩:=isD.1 h
 have ha:(d.msgs.any λ m=>decide (m.name=d.start))=true:=List.any_eq_true.2 ⟨m,hm,by simpa using hn⟩
 have hb:=qA (λ m:ZD=>decide (m.name=d.start)) d.msgs
 have h0:=ha
 rw [← Y7] at h0
 have h0:0≤idx (λ m:ZD=>decide (m.name=d.start)) d.msgs:=by simpa using h0
 unfold Yz
 exact ⟨by omega,ha,by rw [j1 ha];omega⟩
def X8 (l:List ZD) (s t k i:Nat):Bool:=Z9 l s t i||(Z9 l s t (l.length - 1 - t)&&((toP l (l.length - 1 - t)).take k).contains (i:Int))
theorem EH (l:List ZD) (s t i:Nat):X8 l s t 0 i=Z9 l s t i:=by simp [X8]
theorem Hu {l:List ZD} (h:YL l) (s t i:Nat):X8 l s t (toP l (l.length - 1 - t)).length i=Z9 l s (t+1) i:=by
 unfold X8
 rw [List.take_length,Z9]
 congr 2
 rw [Bool.eq_iff_iff,List.contains_iff_mem,toP,WR]
 constructor
 · rintro ⟨j,_,h2,h3⟩
   rw [show i=j by omega];exact h2
 · exact λ hb=>⟨i,(JF h hb).1,hb,rfl⟩
theorem B8 {l:List ZD} {k:Nat} {x:Int} (h:x∈toP l k):∃ i:Nat,x=i∧i < k:=by
 obtain ⟨i,hi,_,rfl⟩:=WR.1 h
 exact ⟨i,rfl,hi⟩
theorem I2 {l:List ZD} (s t k:Nat):X8 l s t k (l.length - 1 - t)=Z9 l s t (l.length - 1 - t):=by
 unfold X8
 have:((toP l (l.length - 1 - t)).take k).contains ((l.length - 1 - t:Nat):Int)=false:=by
  rw [Bool.eq_false_iff]
  intro h
  rw [List.contains_iff_mem] at h
  obtain ⟨i,he,hi⟩:=B8 (List.mem_of_mem_take h)
  omega
 rw [this,Bool.and_false,Bool.or_false]
theorem DH {l:List ZD} {s t k:Nat} {j:Nat} (hj:(toP l (l.length - 1 - t))[k]?=some (j:Int)) (i:Nat):X8 l s t (k+1) i=if i=j then X8 l s t k j||Z9 l s t (l.length - 1 - t) else X8 l s t k i:=by
 unfold X8
 rw [ZU hj,List.contains_eq_any_beq,List.any_append,List.contains_eq_any_beq,List.contains_eq_any_beq]
 by_cases hij:i=j
 · subst hij
   rw [if_pos rfl]
   simp only [List.any_cons,List.any_nil,Bool.or_false,beq_self_eq_true,Bool.or_true,Bool.and_true]
   cases Z9 l s t i<;>cases Z9 l s t (l.length - 1 - t)<;>simp
 · rw [if_neg hij]
   have:((i:Int) == (j:Int))=false:=by simp;omega
   simp only [List.any_cons,List.any_nil,Bool.or_false,this]
theorem xd (w0:World) (v:Value) (d:YF) (hd:Yv w0 v d) (ht:UN d):Ret Pg 55 #[v] w0 λ r w'=>(if (Yl d).2.2=0 then ∃ b,r = .tuple #[.slice (some ⟨b,0,none⟩) d.msgs.length d.msgs.length,.int .i64 0]∧w0.heap.size≤b∧Q1 w' b (tab d.msgs.length (Xp d.msgs (Yz d))) else r = .tuple #[.slice none 0 0,.int .i64 2])∧Ext w0 w':=by
 obtain ⟨mv,rfl,hM⟩:=hd
 have hm1:=Ze.oneCell hM
 have hM0:=hM
 obtain ⟨A,c,rfl,hlc,hcm,hlm,hel⟩:=Ze.open hM
 refine Zb4 (R:=ZQ _) ?_;unfold ZaN
 rw [Xk]
 have o1:=ZE w0 (Zz d (.slice A d.msgs.length c)).toArray 28
 have eW:Ext w0 (w0.alloc (.cells (Zz d (.slice A d.msgs.length c)).toArray 28)):=ee
 generalize (w0.alloc (.cells (Zz d (.slice A d.msgs.length c)).toArray 28))=W at o1 eW ⊢
 generalize hp1:w0.heap.size=p1 at o1 ⊢
 simp (disch:=try exact DI) only [↓PR,QR,simprocAttr,(Za o1).1]
 refine zcr (EZ _ d ⟨_,rfl,hM0.ext eW⟩ ht) λ w1 e1=>?_
 have E1:=eW.trans e1
 by_cases hc:(Yl d).2.2=0
 case neg =>
  have hfb:Qc d=true:=by unfold Qc;simp [hc]
  rw [hfb]
  simp only [hc,if_false]
  simp (disch:=try exact DI) only [↓PR,QR,simprocAttr]
  exact ⟨trivial,E1⟩
 have hfb:Qc d=false:=by unfold Qc;simp [hc]
 rw [hfb]
 simp only [hc,if_true]
 obtain ⟨hs,hany,hidx⟩:=Ge hc
 have hf:=(Xh hc).2.2.1
 have hl60:=(Xh hc).2.1.2
 generalize Yz d=s at hs hidx ⊢
 simp (disch:=try exact DI) only [↓PR,QR,simprocAttr,↓Oz,(Za (e1.obj o1)).1]
 rw [Uy d.msgs.length (by omega)]
 have eV:Ext w1 (w1.alloc (.cells ((List.replicate d.msgs.length false).map λ x=>Value.bool x).toArray 4)):=ee
 have oR:Q1 (w1.alloc (.cells ((List.replicate d.msgs.length false).map λ x=>Value.bool x).toArray 4)) w1.heap.size (tab d.msgs.length λ _=>false):=by
  have:=ZE w1 ((List.replicate d.msgs.length false).map λ x=>Value.bool x).toArray 4
  rw [show tab d.msgs.length (λ _=>false)=List.replicate d.msgs.length false by unfold tab;rw [List.map_const'];simp]
  exact this
 have sV:=eV.size
 generalize (w1.alloc (.cells ((List.replicate d.msgs.length false).map λ x=>Value.bool x).toArray 4))=V at eV oR sV ⊢
 generalize hr:w1.heap.size=r at oR ⊢
 have f1:=e1.trans eV
 simp (disch:=try exact DI) only [↓PR,QR,simprocAttr,(Za (f1.obj o1)).1]
 refine zcr (j9 _ _ d d.start ⟨_,rfl,hM0.ext (eW.trans f1)⟩) λ w2 e2=>?_
 rw [hidx,hany]
 have oR2:=oR.ext e2
 have g2:Ext w1 w2:=eV.trans e2
 have hfz:∀ o,w2.frozen? ⟨r,o,none⟩=false:=(Za oR2).2
 have hcs:w2.cell? ⟨r,s,none⟩=some (.bool false):=oR2.get (Q7 hs)
 unfold Od
 simp (disch:=try exact DI) only [↓PR,QR,simprocAttr,hcs,hfz,Nat.mul_one,Nat.zero_add]
 have oR3:=oR2.set s true
 rw [zb hs] at oR3
 have g3:Ext w1 (w2.setCell ⟨r,s,none⟩ (.bool true)):=g2.setCell (by show w1.heap.size≤r;omega) _
 generalize (w2.setCell ⟨r,s,none⟩ (.bool true))=w3 at oR3 g3 ⊢
 have h0:tab d.msgs.length (λ j=>if j=s then true else false)=tab d.msgs.length (Z9 d.msgs s (d.msgs.length - 1 - s)):=QE λ i _=>by
  rw [yA hf _ (Nat.le_refl _)]
  by_cases h:i=s<;>simp [h]
 rw [h0] at oR3
 refine ZA (λ a w=>∃ t:Nat,a = .int .i64 ((d.msgs.length:Int) - 1 - t)∧t≤d.msgs.length∧Ext w1 w∧Q1 w r (tab d.msgs.length (Z9 d.msgs s t))) (λ a _=>(intOf a+1).toNat) ⟨d.msgs.length - 1 - s,by rw [show (d.msgs.length:Int) - 1 - ((d.msgs.length - 1 - s:Nat):Int)=(s:Int) by omega],by omega,g3,oR3⟩ ?_
 rintro _ w4 ⟨t,rfl,htl,g4,oR4⟩
 by_cases hlt:t < d.msgs.length
 · have hge:decide (((d.msgs.length:Int) - 1 - t)≥0)=true:=by simp;omega
   obtain ⟨at_,hat⟩:∃ k:Nat,k=d.msgs.length - 1 - t:=⟨_,rfl⟩
   have hatI:((d.msgs.length:Int) - 1 - t)=(at_:Int):=by omega
   rw [hatI] at hge ⊢
   have hal:at_ < d.msgs.length:=by omega
   obtain ⟨m,hm⟩:=getElem?_lt hal
   simp (disch:=try exact DI) only [↓PR,QR,simprocAttr,hge,↓OZ,(Za ((e1.trans g4).obj o1)).1]
   refine Zt (j7 _ _ d at_ m ⟨_,rfl,hM0.ext (E1.trans g4)⟩ hm hf (ht m (List.mem_of_getElem? hm)).1) ?_
   rintro rv w5 ⟨hT,e5⟩
   have g5:=g4.trans e5
   have oR5:=oR4.ext e5
   have hTs:=hT.ints
   have s4:=(Array.getElem?_eq_some_iff.1 oR4).1
   have htp:(toP d.msgs at_).length≤d.msgs.length:=Nat.le_trans (UF _ _) (by omega)
   obtain ⟨Ar,cr,rfl,hlr,hcr,hlmr,_⟩:=Ze.open hTs
   simp (disch:=try exact DI) only [↓PR,QR,simprocAttr]
   refine ZA (λ a w=>∃ k:Nat,a = .int .i64 k∧k≤(toP d.msgs at_).length∧Ext w1 w∧Q1 w r (tab d.msgs.length (X8 d.msgs s t k))∧Yy w w4.heap.size (.slice Ar (toP d.msgs at_).length cr) (toP d.msgs at_)) (λ a _=>(toP d.msgs at_).length - (intOf a).toNat) ⟨0,rfl,by omega,g5,by rw [QE λ i _=>EH d.msgs s t i];exact oR5,hT⟩ ?_
   rintro _ w6 ⟨k,rfl,hk,g6,oR6,hT6⟩
   unfold N7
   rcases ZB hk with ⟨x,hx,_,hltk,hdec⟩ | ⟨hke,_,hdec⟩
   · obtain ⟨j,rfl,hj⟩:=B8 (List.mem_of_getElem? hx)
     obtain ⟨_,_,hv,_,_,_,hel6⟩:=Ze.open hT6.ints
     injection hv with hv _ hv'
     subst hv hv'
     obtain ⟨b6,o6,cs6,rfl,_,hA6,rfl⟩:=hel6 k _ hx
     have er:=Ext.refl w6
     have a6:w6.cell? ⟨b6,o6+k,none⟩=some (.int .i64 (j:Int)):=by have:=hA6 0 _ rfl;simpa using this
     have hjn:j < d.msgs.length:=by omega
     have c1:w6.cell? ⟨r,j,none⟩=some (.bool (X8 d.msgs s t k j)):=oR6.get (Q7 hjn)
     have c2:w6.cell? ⟨r,at_,none⟩=some (.bool (Z9 d.msgs s t at_)):=by
      rw [oR6.get (Q7 hal),hat,I2]
     have hfz6:∀ o,w6.frozen? ⟨r,o,none⟩=false:=(Za oR6).2
     have hsnoc:(tab d.msgs.length (X8 d.msgs s t k)).set j (X8 d.msgs s t k j||Z9 d.msgs s t at_)=tab d.msgs.length (X8 d.msgs s t (k+1)):=by
      rw [zb hjn]
      refine QE λ i _=>?_
      rw [DH (by rw [← hat];exact hx),← hat]
     have hnext:∀ x,x=(X8 d.msgs s t k j||Z9 d.msgs s t at_)→(∃ k':Nat,Value.int .i64 ((k:Int)+1) = .int .i64 k'∧k'≤(toP d.msgs at_).length∧Ext w1 (w6.setCell ⟨r,j,none⟩ (.bool x))∧Q1 (w6.setCell ⟨r,j,none⟩ (.bool x)) r (tab d.msgs.length (X8 d.msgs s t k'))∧Yy (w6.setCell ⟨r,j,none⟩ (.bool x)) w4.heap.size (.slice (some ⟨b6,o6,none⟩) (toP d.msgs at_).length cr) (toP d.msgs at_))∧(toP d.msgs at_).length - (intOf (.int .i64 ((k:Int)+1))).toNat < (toP d.msgs at_).length - (intOf (.int .i64 (k:Int))).toNat:=by
      rintro x rfl
      refine ⟨⟨k+1,rfl,by omega,g6.setCell (by show w1.heap.size≤r;omega) _,by have:=oR6.set j (X8 d.msgs s t k j||Z9 d.msgs s t at_);rw [hsnoc] at this;exact this,?_⟩,ZF (kd := .i64) hltk⟩
      exact (WI.only (lo:=w4.heap.size) (hi:=w6.heap.size) ⟨hT6,λ b hb=>(hT6.lt b hb).2⟩ (Yu.setCell w6 r j _) (.inr (.inl s4))).1
     have hwr:IntKind.i64.wrap ((k:Int)+1)=(k:Int)+1:=Yk (by omega) (by omega)
     simp (disch:=try exact DI) only [↓PR,QR,simprocAttr,hdec,↓MC,a6,c1,c2,Nat.mul_one,Nat.zero_add]
     cases hb:X8 d.msgs s t k j with
     | true =>
      simp (disch:=try exact DI) only [↓PR,QR,simprocAttr,↓Fj,c1,hfz6,Nat.mul_one,Nat.zero_add]
      exact hnext true (by rw [hb];rfl)
     | false =>
      simp (disch:=try exact DI) only [↓PR,QR,simprocAttr,↓Fj,c1,c2,hfz6,Nat.mul_one,Nat.zero_add]
      exact hnext _ (by rw [hb];rfl)
   · subst hke
     have hwr:IntKind.i64.wrap ((at_:Int) - 1)=(d.msgs.length:Int) - 1 - ((t+1:Nat):Int):=by rw [Yk (by omega) (by omega)];omega
     simp (disch:=try exact DI) only [↓PR,QR,simprocAttr,hdec,hwr]
     refine ⟨⟨t+1,rfl,by omega,g6,?_⟩,?_⟩
     · rw [hat] at oR6
       rw [QE λ i _=>Hu hf s t i] at oR6
       exact oR6
     · simp only [intOf]
       omega
 · obtain rfl:t=d.msgs.length:=by omega
   have hge:decide (((d.msgs.length:Int) - 1 - (d.msgs.length:Int))≥0)=false:=by simp;omega
   simp (disch:=try exact DI) only [↓PR,QR,simprocAttr,hge]
   exact ⟨⟨r,rfl,by have:=E1.size;omega,oR4⟩,E1.trans g4⟩
def U5 (w:World) (base:Nat) (T:TypeId) (v:Value) (xs:List Value):Prop:=∃ g off cap cur,v = .slice (some ⟨g,off,none⟩) xs.length cap∧base≤g∧w.heap[g]?=some (.cells cur T (0,0))∧xs.length≤cap∧off+cap≤cur.size∧cap≤maxLen∧(cur.toList.drop off).take xs.length=xs
theorem U5.ext {w w':World} {base:Nat} {T:TypeId} {v:Value} {xs:List Value} (h:U5 w base T v xs) (e:Ext w w'):U5 w' base T v xs:=by
 obtain ⟨g,off,cap,cur,h1,h2,h3,h4⟩:=h
 exact ⟨g,off,cap,cur,h1,h2,e.obj h3,h4⟩
theorem U5.only {w w':World} {base b:Nat} {T T':TypeId} {v:Value} {xs:List Value} (h:U5 w base T v xs) (ho:Yu b w w') (hb:X2 w b T') (hne:T'≠T):U5 w' base T v xs:=by
 obtain ⟨g,off,cap,cur,h1,h2,h3,h4⟩:=h
 refine ⟨g,off,cap,cur,h1,h2,(ho g ?_).trans h3,h4⟩
 rintro rfl
 obtain ⟨c,fr,hc⟩:=hb
 rw [h3] at hc
 injection hc with hc
 injection hc with _ hc _
 exact hne hc.symm
theorem U5.get {w:World} {base:Nat} {T:TypeId} {v:Value} {xs:List Value} (h:U5 w base T v xs):∃ g off cap,v = .slice (some ⟨g,off,none⟩) xs.length cap∧base≤g∧g < w.heap.size∧X2 w g T∧xs.length≤cap∧∀ (k:Nat) (x:Value),xs[k]?=some x→w.cell? ⟨g,off+k,none⟩=some x:=by
 obtain ⟨g,off,cap,cur,h1,h2,h3,h4,h5,_,h6⟩:=h
 refine ⟨g,off,cap,h1,h2,(Array.getElem?_eq_some_iff.1 h3).1,⟨cur,_,h3⟩,h4,λ k x hx=>?_⟩
 have hk:=(List.getElem?_eq_some_iff.1 hx).1
 rw [← h6,List.getElem?_take,if_pos hk,List.getElem?_drop] at hx
 rw [(Za h3).1]
 simpa using hx
theorem U5.tail {w:World} {base g off n cap o':Nat} {T:TypeId} {x:Value} {xs:List Value} (h:U5 w base T (.slice (some ⟨g,off,none⟩) n cap) (x::xs)) (ho:o'=off+1∨(cap=1∧o'=off)):U5 w base T (.slice (some ⟨g,o',none⟩) xs.length (cap - 1)) xs:=by
 obtain ⟨g',off',cap',cur,h1,h2,h3,h4,h5,h7,h6⟩:=h
 injection h1 with h1 _ h1'
 injection h1 with h1
 injection h1 with h1 h1o
 subst h1 h1o h1'
 simp only [List.length_cons] at h4 h6
 rcases ho with ho | ⟨rfl,rfl⟩
 · subst ho
   refine ⟨g,_,cap - 1,cur,rfl,h2,h3,by omega,by omega,by omega,?_⟩
   have:=congrArg List.tail h6
   rw [List.tail_cons] at this
   rw [← this,← List.drop_one,List.drop_take,List.drop_drop]
   simp
 · have hx:xs=[]:=List.eq_nil_of_length_eq_zero (by omega)
   subst hx
   exact ⟨g,_,0,cur,rfl,h2,h3,by simp,by omega,by omega,by simp⟩
section
variable {QP:List PanicEntry→World→Prop} {w:World} {k:Value→World→Prop}
theorem Cu {t e:TypeId} {agg:Bool} {m:Nat} {z:Value} (hu:Pg.underlying t=some (.slice e)) (ht:ZJ Pg e agg 1 m z) (b o len cap:Nat) (hl:0 < len) (hc:len≤cap) (h:∀ o',(o'=o+1∨(cap=1∧o'=o))→k (.slice (some ⟨b,o',none⟩) (len - 1) (cap - 1)) w) :
 opV Pg (Instr.sliceAt t (.slice (some ⟨b,o,none⟩) len cap) (some (.int .i64 1)) none none) QP w k:=by
 have h1:(1:Int)≤(len:Int):=by omega
 have h2:(len:Int)≤(cap:Int):=by omega
 by_cases hc1:cap=1
 · rw [Z3 (v := .slice (some ⟨b,o,none⟩) (len - 1) (cap - 1)) (w':=w)]
   · exact h o (.inr ⟨hc1,rfl⟩)
   · simp [Instr.sliceAt,run_underlying hu,Instr.slice,Instr.sliceBounds,run_sliceBound,h1,h2,hc1,Sw.run_sizeOf ht,Addr.add_lit]
 · rw [Z3 (v := .slice (some ⟨b,o+1,none⟩) (len - 1) (cap - 1)) (w':=w)]
   · exact h (o+1) (.inl rfl)
   · simp [Instr.sliceAt,run_underlying hu,Instr.slice,Instr.sliceBounds,run_sliceBound,h1,h2,hc1,Sw.run_sizeOf ht,Addr.add_lit]
theorem BQ {t e:TypeId} {agg:Bool} {n m:Nat} {z:Value} (hu:Pg.underlying t=some (.slice e)) (ht:ZJ Pg e agg n m z) (b o len cap:Nat) (hl:0 < len) (hc:len≤cap) :
 opV Pg (Instr.sliceAt t (.slice (some ⟨b,o,none⟩) len cap) none (some (.int .i64 (len:Int))) (some (.int .i64 (len:Int)))) QP w k=k (.slice (some ⟨b,o,none⟩) len len) w:=by
 refine Z3 ?_
 have h2:(len:Int)≤(cap:Int):=by omega
 have h3:(0:Int)≤(len:Int):=by omega
 simp [Instr.sliceAt,run_underlying hu,Instr.slice,Instr.sliceBounds,run_sliceBound,h2,h3,Sw.run_sizeOf ht,Addr.add_lit]
theorem qF {t T m:Nat} {z:Value} {agg:Bool} (ht:Pg.underlying t=some (.slice T)) (hT:ZJ Pg T agg 1 m z) (hzs:z.cells.size=1) {g o n cap b:Nat} {olds:List Value} {u:Value} (hn:olds.length=n) (hcells:∀ (j:Nat) (x:Value),olds[j]?=some x→w.cell? ⟨g,o+j,none⟩=some x) (hc:w.cell? ⟨b,0,none⟩=some u) (hl:n≤1048576) (hm:m≤4096) (hcap:cap≤n)
 (hk:∀ v' w',w'.ownsRow w.heap.size T 1 v' (n+1) (olds++[u])→v' ≠ .slice none 0 0→Ext w w'→k v' w') :
 opV Pg (Builtin.append_ #[t,t] t #[.slice (some ⟨g,o,none⟩) n cap,.slice (some ⟨b,0,none⟩) 1 1]) QP w k:=by
 obtain ⟨⟨i,hi,hs,hby,hzz⟩,_⟩:=hT
 have hr:=run_append_grow (P:=Pg) w t t T i z ht hi hzz ⟨g,o,none⟩ n cap olds (by rw [hn,hs,Nat.mul_one]) (λ j x hx=>by rw [Addr.add_lit];exact hcells j x hx) ⟨b,0,none⟩ 1 1 [u] (by rw [hs];rfl) (λ j x hx=>by
  cases j with
  | zero=>injection hx with hx;subst hx;rw [Addr.add_lit];exact hc
  | succ j=>cases hx) (by omega) (by omega) (growslice_fits (by omega) (by rw [hby];exact Nat.le_trans (Nat.mul_le_mul (show n+1≤1048577 by omega) hm) (by decide)))
 rw [Z3 hr]
 have hge:=grownCap_ge w (n+1) cap T
 have hcm:=grownCap_le_maxLen w (n+1) cap T (by simp only [maxLen];omega)
 refine hk _ _ ⟨by simp [hn],.inr ⟨w.heap.size,_,_,rfl,Nat.le_refl _,by rw [show w.heap.size=w.drew.heap.size by simp only [World.size_drew]];exact heap_alloc_new w.drew _,hge,hcm,?_,?_⟩⟩ (by simp) ⟨rfl,rfl,rfl,by simp,λ q hq=>(World.grownBy_alloc w.drew _ none).block q (by simpa using hq) (by simp)⟩
 · simp only [Array.size_append,List.size_toArray,size_zeroCells,hzs,hn,List.length_singleton]
   omega
 · simp only [Array.toList_append,List.append_assoc]
   rw [← List.append_assoc]
   rw [List.take_append_of_le_length (by simp [hn]),List.take_of_length_le (by simp [hn])]
theorem Hr {t T m:Nat} {z:Value} {agg:Bool} (ht:Pg.underlying t=some (.slice T)) (hT:ZJ Pg T agg 1 m z) (hzs:z.cells.size=1) {base b:Nat} {v u:Value} {xs:List Value} (h:U5 w base T v xs) (hu:u.oneCell'=true) (hc:w.cell? ⟨b,0,none⟩=some u) (hl:xs.length≤1048576) (hm:m≤4096) (hbase:base≤w.heap.size)
 (hk:∀ v' w',U5 w' base T v' (xs++[u])→w.grownBy w' v.ownBlock→k v' w') :
 opV Pg (Builtin.append_ #[t,t] t #[v,.slice (some ⟨b,0,none⟩) 1 1]) QP w k:=by
 obtain ⟨g,off,cap,cur,rfl,h2,h3,h4,h5,h7,h6⟩:=h
 by_cases hroom:xs.length+1≤cap
 · obtain ⟨⟨i,hi,hs,hby,hzz⟩,_⟩:=hT
   have hf:=run_firstCells_some (P:=Pg) (w:=w) i.size 1 ⟨b,0,none⟩ 1 1 [u] (by rw [hs];rfl) (λ j x hx=>by
    cases j with
    | zero=>injection hx with hx;subst hx;rw [Addr.add_lit];exact hc
    | succ j=>cases hx)
   have hst:=run_storeCells_at Pg g (off+xs.length*i.size) T [u] 0 cur w h3 (by simp [hs];omega) (by simpa using hu)
   simp only [Nat.add_zero,hs,Nat.mul_one,List.length_singleton] at hst hf
   have hr:(Builtin.append_ #[t,t] t #[.slice (some ⟨g,off,none⟩) xs.length cap,.slice (some ⟨b,0,none⟩) 1 1]).run Pg w = .ok (.slice (some ⟨g,off,none⟩) (xs.length+1) cap) (w.setRow g (cur.toList.take (off+xs.length)++[u]++cur.toList.drop (off+xs.length+1)).toArray):=by
    simp [Builtin.append_,run_underlying ht,sizeOf,typeInfo,hi,Builtin.lenOf,hroom,hs,hf,Addr.add_lit,hst]
   rw [Z3 hr]
   refine hk _ _ ⟨g,off,cap,_,by simp,h2,setRow_heap w g cur _ T _ h3,by simpa using hroom,?_,h7,?_⟩ ⟨rfl,rfl,rfl,by simp [World.setRow],λ q hq hne=>setRow_other w g q _ (λ e=>hne (by rw [e];rfl))⟩
   · simp only [List.size_toArray,List.length_append,List.length_take,List.length_drop,Array.length_toList,List.length_singleton]
     omega
   · have h8:(cur.toList.drop off).length=cur.size - off:=by simp
     have h9:(cur.toList.take (off+xs.length)++[u]++cur.toList.drop (off+xs.length+1)).drop off=xs++[u]++cur.toList.drop (off+xs.length+1):=by
      rw [List.append_assoc,List.drop_append_of_le_length (by simp;omega),List.append_assoc]
      congr 1
      rw [List.drop_take]
      rw [show off+xs.length - off=xs.length by omega]
      exact h6
     simp only [List.toList_toArray]
     rw [h9,List.take_append_of_le_length (by simp),List.take_of_length_le (by simp)]
 · refine qF ht hT hzs (olds:=xs) (o:=off) rfl (λ j x hx=>?_) hc hl hm (by omega) ?_
   · have hj:=(List.getElem?_eq_some_iff.1 hx).1
     rw [← h6,List.getElem?_take,if_pos hj,List.getElem?_drop] at hx
     rw [(Za h3).1]
     simpa using hx
   · intro v' w' ho hne e
     rcases ho.2 with ⟨h0,_⟩ | ⟨g',cap',cur',rfl,hb',hg',hc',hm',hs',ht'⟩
     · exact absurd h0 hne
     · refine hk _ _ ⟨g',0,cap',cur',by simp,by omega,hg',by simpa using hc',by omega,hm',by rw [List.drop_zero];simpa using ht'⟩ ⟨e.os,e.tape,e.output,e.size,λ q hq _=>e.block q hq⟩
end
def Za3 (t4 t8 t9:Value) (Kr2:World→Prop) (Qr2:List PanicEntry→World→Prop) (Xr2:Nat→World→Prop) (R:RT) (w:World):Prop :=
 opV Pg (Instr.loadAt 3 t9) Qr2 w λ t33 w =>
 opV Pg (ZM .add 3 true t33 (.int .i64 1)) Qr2 w λ t34 w =>
 opU Pg (Instr.storeAt 3 t9 t34) Qr2 w λ w =>
 opV Pg (Instr.loadAt 3 t8) Qr2 w λ t35 w =>
 opV Pg (ZM .eql 3 true t35 (.int .i64 0)) Qr2 w λ t36 w =>
 Zq (λ (t40:Value) (w:World) =>
 Zu t36 t40 (.bool false) λ t41 =>
 Zr t41 (
 Xr2 1 w) (
 Kr2 w)) λ K4 =>
 Zl t36 true (
 opV Pg (Instr.loadAt 3 t9) Qr2 w λ t38 w =>
 opV Pg (Instr.loadAt 3 t4) Qr2 w λ t39 w =>
 opV Pg (ZM .geq 3 false t38 t39) Qr2 w λ t40 w =>
 K4 t40 w) (
 K4 undef w)
def Zb7 (t4 t5 t6 t8 t9 t20:Value) (Kr2:World→Prop) (Qr2:List PanicEntry→World→Prop) (Xr2:Nat→World→Prop) (R:RT) (w:World):Prop :=
 opV Pg (Instr.loadAt 3 t9) Qr2 w λ t21 w =>
 opV Pg (Instr.loadAt 30 t5) Qr2 w λ t22 w =>
 opV Pg (Builtin.len_ #[30] 3 #[t22]) Qr2 w λ t23 w =>
 opV Pg (ZM .geq 3 false t21 t23) Qr2 w λ t24 w =>
 Zq (λ (t31:Value) (w:World) =>
 Zu t24 (.bool true) t31 λ t32 =>
 Zr t32 (
 opU Pg (Instr.storeAt 4 t6 (.bool false)) Qr2 w λ w =>
 Xr2 0 w) (
 Za3 t4 t8 t9 Kr2 Qr2 Xr2 R w)) λ K3 =>
 Zl t24 false (
 opV Pg (Instr.loadAt 30 t5) Qr2 w λ t27 w =>
 opV Pg (Instr.loadAt 3 t9) Qr2 w λ t28 w =>
 opV Pg (Instr.indexAt 30 t27 t28) Qr2 w λ t29 w =>
 opV Pg (Instr.loadAt 3 t29) Qr2 w λ t30 w =>
 opV Pg (ZM .neq 3 false t20 t30) Qr2 w λ t31 w =>
 K3 t31 w) (
 K3 undef w)
def Zao (t6 t8:Value) (next1:List Deferred→Value→World→Prop) (ds:List Deferred) (R:RT) (w:World):Prop :=
 opV Pg (Instr.loadAt 3 t8) (Zw Pg ds [(some 4,t6)] R) w λ t63 w =>
 opV Pg (Instr.alloc 3 true (.tuple #[])) (Zw Pg ds [(some 4,t6)] R) w λ t8 w =>
 opU Pg (Instr.storeAt 3 t8 t63) (Zw Pg ds [(some 4,t6)] R) w λ w =>
 opV Pg (Instr.loadAt 3 t8) (Zw Pg ds [(some 4,t6)] R) w λ t17 w =>
 opV Pg (ZM .add 3 true t17 (.int .i64 1)) (Zw Pg ds [(some 4,t6)] R) w λ t18 w =>
 opU Pg (Instr.storeAt 3 t8 t18) (Zw Pg ds [(some 4,t6)] R) w λ w =>
 next1 ds t8 w
def T1 (t6 t8 t52 t61:Value) (next1:List Deferred→Value→World→Prop) (ds:List Deferred) (R:RT) (w:World):Prop :=
 Zu t52 (.bool true) t61 λ t62 =>
 Zr t62 (
 opU Pg (Instr.storeAt 4 t6 (.bool false)) (Zw Pg ds [(some 4,t6)] R) w λ w =>
 VP Pg ds [(some 4,t6)] R w) (
 Zao t6 t8 next1 ds R w)
def Zar (t5 t6 t8 t9 t52 t56:Value) (next1:List Deferred→Value→World→Prop) (ds:List Deferred) (R:RT) (w:World):Prop :=
 Zq (λ (t60:Value) (w:World) =>
 Zq (λ (t61:Value) (w:World) =>
 T1 t6 t8 t52 t61 next1 ds R w) λ K8 =>
 Zl t52 false (
 Zu t56 t60 (.bool false) λ t61 =>
 K8 t61 w) (
 K8 undef w)) λ K7 =>
 Zl t56 true (
 opV Pg (Instr.loadAt 3 t9) (Zw Pg ds [(some 4,t6)] R) w λ t57 w =>
 opV Pg (Instr.loadAt 30 t5) (Zw Pg ds [(some 4,t6)] R) w λ t58 w =>
 opV Pg (Builtin.len_ #[30] 3 #[t58]) (Zw Pg ds [(some 4,t6)] R) w λ t59 w =>
 opV Pg (ZM .neq 3 false t57 t59) (Zw Pg ds [(some 4,t6)] R) w λ t60 w =>
 K7 t60 w) (
 K7 undef w)
def ZaE (t5 t6 t8 t9 t43 t51:Value) (next1:List Deferred→Value→World→Prop) (ds:List Deferred) (R:RT) (w:World):Prop :=
 Zu t43 t51 (.bool false) λ t52 =>
 Zq (λ (t56:Value) (w:World) =>
 Zar t5 t6 t8 t9 t52 t56 next1 ds R w) λ K6 =>
 Zl t52 false (
 opV Pg (Instr.loadAt 3 t8) (Zw Pg ds [(some 4,t6)] R) w λ t54 w =>
 opV Pg (ZM .eql 3 true t54 (.int .i64 1)) (Zw Pg ds [(some 4,t6)] R) w λ t55 w =>
 K6 t55 w) (
 K6 undef w)
def TN (t4 t5 t6 t9:Value) (K5:KV) (ds:List Deferred) (R:RT) (w:World):Prop :=
 opV Pg (Instr.loadAt 3 t9) (Zw Pg ds [(some 4,t6)] R) w λ t45 w =>
 opV Pg (Instr.loadAt 30 t5) (Zw Pg ds [(some 4,t6)] R) w λ t46 w =>
 opV Pg (Builtin.len_ #[30] 3 #[t46]) (Zw Pg ds [(some 4,t6)] R) w λ t47 w =>
 opV Pg (Instr.loadAt 3 t4) (Zw Pg ds [(some 4,t6)] R) w λ t48 w =>
 opV Pg (Builtin.max_ #[3,3] 3 #[(.int .i64 1),t48]) (Zw Pg ds [(some 4,t6)] R) w λ t49 w =>
 opV Pg (Builtin.min_ #[3,3] 3 #[t47,t49]) (Zw Pg ds [(some 4,t6)] R) w λ t50 w =>
 opV Pg (ZM .neq 3 false t45 t50) (Zw Pg ds [(some 4,t6)] R) w λ t51 w =>
 K5 t51 w
def Zaz (t4 t5 t6 t8 t9:Value) (next1:List Deferred→Value→World→Prop) (ds:List Deferred) (R:RT) (w:World):Prop :=
 opV Pg (Instr.loadAt 3 t8) (Zw Pg ds [(some 4,t6)] R) w λ t42 w =>
 opV Pg (ZM .eql 3 true t42 (.int .i64 0)) (Zw Pg ds [(some 4,t6)] R) w λ t43 w =>
 Zq (λ (t51:Value) (w:World) =>
 ZaE t5 t6 t8 t9 t43 t51 next1 ds R w) λ K5 =>
 Zl t43 true (
 TN t4 t5 t6 t9 K5 ds R w) (
 K5 undef w)
def TQ (t6 t8:Value) (next1:List Deferred→Value→World→Prop) (ds:List Deferred) (R:RT) (w:World):Prop :=
 opV Pg (Instr.loadAt 3 t8) (Zw Pg ds [(some 4,t6)] R) w λ t63 w =>
 opV Pg (Instr.alloc 3 true (.tuple #[])) (Zw Pg ds [(some 4,t6)] R) w λ t8 w =>
 opU Pg (Instr.storeAt 3 t8 t63) (Zw Pg ds [(some 4,t6)] R) w λ w =>
 opV Pg (Instr.loadAt 3 t8) (Zw Pg ds [(some 4,t6)] R) w λ t17 w =>
 opV Pg (ZM .add 3 true t17 (.int .i64 1)) (Zw Pg ds [(some 4,t6)] R) w λ t18 w =>
 opU Pg (Instr.storeAt 3 t8 t18) (Zw Pg ds [(some 4,t6)] R) w λ w =>
 next1 ds t8 w
def D7 (t6 t8 t52 t61:Value) (next1:List Deferred→Value→World→Prop) (ds:List Deferred) (R:RT) (w:World):Prop :=
 Zu t52 (.bool true) t61 λ t62 =>
 Zr t62 (
 opU Pg (Instr.storeAt 4 t6 (.bool false)) (Zw Pg ds [(some 4,t6)] R) w λ w =>
 VP Pg ds [(some 4,t6)] R w) (
 TQ t6 t8 next1 ds R w)
def NY (t5 t6 t8 t9 t52 t56:Value) (next1:List Deferred→Value→World→Prop) (ds:List Deferred) (R:RT) (w:World):Prop :=
 Zq (λ (t60:Value) (w:World) =>
 Zq (λ (t61:Value) (w:World) =>
 D7 t6 t8 t52 t61 next1 ds R w) λ K12 =>
 Zl t52 false (
 Zu t56 t60 (.bool false) λ t61 =>
 K12 t61 w) (
 K12 undef w)) λ K11 =>
 Zl t56 true (
 opV Pg (Instr.loadAt 3 t9) (Zw Pg ds [(some 4,t6)] R) w λ t57 w =>
 opV Pg (Instr.loadAt 30 t5) (Zw Pg ds [(some 4,t6)] R) w λ t58 w =>
 opV Pg (Builtin.len_ #[30] 3 #[t58]) (Zw Pg ds [(some 4,t6)] R) w λ t59 w =>
 opV Pg (ZM .neq 3 false t57 t59) (Zw Pg ds [(some 4,t6)] R) w λ t60 w =>
 K11 t60 w) (
 K11 undef w)
def Nn (t5 t6 t8 t9 t43 t51:Value) (next1:List Deferred→Value→World→Prop) (ds:List Deferred) (R:RT) (w:World):Prop :=
 Zu t43 t51 (.bool false) λ t52 =>
 Zq (λ (t56:Value) (w:World) =>
 NY t5 t6 t8 t9 t52 t56 next1 ds R w) λ K10 =>
 Zl t52 false (
 opV Pg (Instr.loadAt 3 t8) (Zw Pg ds [(some 4,t6)] R) w λ t54 w =>
 opV Pg (ZM .eql 3 true t54 (.int .i64 1)) (Zw Pg ds [(some 4,t6)] R) w λ t55 w =>
 K10 t55 w) (
 K10 undef w)
def Na (t4 t5 t6 t9:Value) (K9:KV) (ds:List Deferred) (R:RT) (w:World):Prop :=
 opV Pg (Instr.loadAt 3 t9) (Zw Pg ds [(some 4,t6)] R) w λ t45 w =>
 opV Pg (Instr.loadAt 30 t5) (Zw Pg ds [(some 4,t6)] R) w λ t46 w =>
 opV Pg (Builtin.len_ #[30] 3 #[t46]) (Zw Pg ds [(some 4,t6)] R) w λ t47 w =>
 opV Pg (Instr.loadAt 3 t4) (Zw Pg ds [(some 4,t6)] R) w λ t48 w =>
 opV Pg (Builtin.max_ #[3,3] 3 #[(.int .i64 1),t48]) (Zw Pg ds [(some 4,t6)] R) w λ t49 w =>
 opV Pg (Builtin.min_ #[3,3] 3 #[t47,t49]) (Zw Pg ds [(some 4,t6)] R) w λ t50 w =>
 opV Pg (ZM .neq 3 false t45 t50) (Zw Pg ds [(some 4,t6)] R) w λ t51 w =>
 K9 t51 w
def My (t4 t5 t6 t8 t9:Value) (next1:List Deferred→Value→World→Prop) (ds:List Deferred) (R:RT) (w:World):Prop :=
 opV Pg (Instr.loadAt 3 t8) (Zw Pg ds [(some 4,t6)] R) w λ t42 w =>
 opV Pg (ZM .eql 3 true t42 (.int .i64 0)) (Zw Pg ds [(some 4,t6)] R) w λ t43 w =>
 Zq (λ (t51:Value) (w:World) =>
 Nn t5 t6 t8 t9 t43 t51 next1 ds R w) λ K9 =>
 Zl t43 true (
 Na t4 t5 t6 t9 K9 ds R w) (
 K9 undef w)
def Tu (t4 t5 t6 t8 t12:Value) (next1:List Deferred→Value→World→Prop) (ds:List Deferred) (R:RT) (w:World):Prop :=
 opV Pg (Instr.alloc 3 true (.tuple #[])) (Zw Pg ds [(some 4,t6)] R) w λ t9 w =>
 opU Pg (Instr.storeAt 3 t9 (.int .i64 0)) (Zw Pg ds [(some 4,t6)] R) w λ w =>
 zy Pg t12 ds (λ l2 t20 w Kr2 Xr2 Qr2 =>
 AU l2 w λ w =>
 Zb7 t4 t5 t6 t8 t9 t20 Kr2 Qr2 Xr2 R w) (λ ch ds w=>Zw Pg ds [(some 4,t6)] R ch w) w (λ ds w =>
 Zaz t4 t5 t6 t8 t9 next1 ds R w) [λ ds w =>
 VP Pg ds [(some 4,t6)] R w,λ ds w =>
 My t4 t5 t6 t8 t9 next1 ds R w]
def S0 (t4 t5 t6 t8 t12:Value) (next1:List Deferred→Value→World→Prop) (ds:List Deferred) (R:RT) (w:World):Prop :=
 opV Pg (Instr.loadAt 3 t8) (Zw Pg ds [(some 4,t6)] R) w λ t15 w =>
 opV Pg (ZM .lss 3 true t15 (.int .i64 2)) (Zw Pg ds [(some 4,t6)] R) w λ t16 w =>
 Zr t16 (
 Tu t4 t5 t6 t8 t12 next1 ds R w) (
 opU Pg (Instr.storeAt 4 t6 (.bool true)) (Zw Pg ds [(some 4,t6)] R) w λ w =>
 VP Pg ds [(some 4,t6)] R w)
def Tt (t4 t5 t6 t12:Value) (ds:List Deferred) (R:RT) (w:World):Prop :=
 opV Pg (Instr.alloc 3 true (.tuple #[])) (Zw Pg ds [(some 4,t6)] R) w λ t8 w =>
 opU Pg (Instr.storeAt 3 t8 (.int .i64 0)) (Zw Pg ds [(some 4,t6)] R) w λ w =>
 Fm (λ ds t8 w next1 =>
 S0 t4 t5 t6 t8 t12 next1 ds R w) ds t8 w
def TB (t4 t5 t6 t12:Value) (ds:List Deferred) (R:RT) (w:World):Prop :=
 opV Pg (ZM .eql 40 true t12 .nilFunc) (Zw Pg ds [(some 4,t6)] R) w λ t14 w =>
 Zr t14 (
 opU Pg (Instr.storeAt 4 t6 (.bool false)) (Zw Pg ds [(some 4,t6)] R) w λ w =>
 VP Pg ds [(some 4,t6)] R w) (
 Tt t4 t5 t6 t12 ds R w)
def n9 (t0 t1 t2:Value) (R:RT) (w:World):Prop :=
 (λ (ds:List Deferred) =>
 opV Pg (Instr.box 24 t0) (Zw Pg ds [(some 4,undef)] R) w λ t3 w =>
 opV Pg (Instr.box 3 t1) (Zw Pg ds [(some 4,undef)] R) w λ t4 w =>
 opV Pg (Instr.box 30 t2) (Zw Pg ds [(some 4,undef)] R) w λ t5 w =>
 opV Pg (Instr.alloc 4 true (.tuple #[])) (Zw Pg ds [(some 4,undef)] R) w λ t6 w =>
 opV Pg (Instr.loadAt 24 t3) (Zw Pg ds [(some 4,t6)] R) w λ t11 w =>
 Yq Pg 19 #[t11] (Zw Pg ds [(some 4,t6)] R) w λ t12 w =>
 TB t4 t5 t6 t12 ds R w) []
set_option maxHeartbeats 40000000 in
theorem n9s {t0 t1 t2:Value} {R:RT} {w:World} (h:n9 t0 t1 t2 R w):Calls Pg 18 #[t0,t1,t2] w R:=by
 refine yE Tryz.func18 ?_
 unfold n9 at h
 dsimp only at h
 refine zs<|zr<|yv h λ _ w h=>yv h λ _ w h=>yv h λ _ w h=>yv h λ _ w h=>zn<|zk<|zs<|zr<|yv h λ _ w h=>yc h c19 λ _ w h=>zm<|zn<|zk ?_
 refine zs<|zs<|zr<|zm<|yb h λ _ w h=>zn<|zk<|yC h (λ h=>zs<|zr<|yu h λ w h=>zn<|zk<|Zk<|Zb<|Xb rfl h) λ h=>Zh<|zk<|zs<|zs<|zr<|yv h λ _ w h=>?_
 refine yu h λ w h=>zn<|zk<|Zj<|yL1 [8,9,15,16,17,18,19,42,43,44,45,46,47,48,49,50,51,52,53,54,55,56,57,58,59,60,61,62,63] 8 h λ σ ds w next h=>zs<|zs<|zr<|yv h λ _ w h=>yb h λ _ w h=>zn<|zk<|yC h (λ h=>?_) λ h=>?_
 · refine Zh<|zk<|zs<|Zj<|zs<|zr<|yv h λ _ w h=>yu h λ w h=>zn<|zk<|zs<|zs<|zr<|zm<|zn ?_
   refine zk<|Zj<|Ue [.ret,.exit 2] h rfl (λ l2 t20 w Kr2 Xr2 Qr2 h=>?_) (λ ds w h=>?_) (λ c ds w h=>?_) (λ ch ds w h=>XR rfl h)
   · refine zr<|zm<|zn<|zk ?_
     obtain ⟨hr,h⟩:=h
     refine ⟨rfl,hr,λ w hb=>?_⟩
     have h:=h w hb
     refine Zj<|zs<|zs<|Zs<|yG 5<|yv h λ _ w h=>yv h λ _ w h=>yx h λ _ w h=>yb h λ _ w h=>zm<|zn<|yg1 6 4 false [26,27,28,29,30,31] 31 h (λ _ T hT h=>?_) λ σ w h=>?_
     · refine zm<|yv h λ _ w h=>yv h λ _ w h=>yv h λ _ w h=>yv h λ _ w h=>yb h λ _ w h=>zn ?_
       exact zt hT h
     refine yG 1<|yp h λ _ h=>zn<|ZG<|zk<|yC h (λ h=>zs<|zr<|yu h λ w h=>zn<|zk<|Zk<|Zb<|Zf<|⟨rfl,0,rfl,h⟩) λ h=>Zh<|zk<|zs<|zr<|yv h λ _ w h=>yb h λ _ w h=>yu h λ w h=>zn ?_
     refine zk<|zs<|Zs<|yG 3<|yv h λ _ w h=>yb h λ _ w h=>zm<|zn<|yg1 3 2 true [38,39,40] 40 h (λ _ T hT h=>?_) λ σ w h=>?_
     · refine yv h λ _ w h=>yv h λ _ w h=>yb h λ _ w h=>zn ?_
       exact zt hT h
     exact yG 1<|yp h λ _ h=>zn<|ZG<|zk<|yC h (λ h=>Zy<|KN rfl<|⟨rfl,1,rfl,h⟩) λ h=>Zh<|Zg<|⟨rfl,h⟩
   · refine Zg<|zk<|zs<|Zs<|yG 3<|yv h λ _ w h=>yb h λ _ w h=>zm<|zn<|yg1 7 2 true [45,46,47,48,49,50,51] 51 h (λ _ T hT h=>?_) λ σ w h=>?_
     · refine yv h λ _ w h=>yv h λ _ w h=>yx h λ _ w h=>yv h λ _ w h=>yx h λ _ w h=>yx h λ _ w h=>yb h λ _ w h=>zn ?_
       exact zt hT h
     refine yG 2<|yp h λ _ h=>zm<|zn<|yg1 3 11 false [54,55,56] 56 h (λ _ T hT h=>?_) λ σ w h=>?_
     · refine yv h λ _ w h=>yb h λ _ w h=>zm<|zn ?_
       exact zt hT h
     refine yg1 4 14 true [57,58,59,60] 60 h (λ _ T hT h=>?_) λ σ w h=>?_
     · refine yv h λ _ w h=>yv h λ _ w h=>yx h λ _ w h=>yb h λ _ w h=>zn ?_
       exact zt hT h
     refine yg1 1 11 false [61] 61 h (λ _ T hT h=>?_) λ σ w h=>?_
     · refine yp h λ _ h=>zn ?_
       exact zt hT h
     refine yG 1<|yp h λ _ h=>zn<|ZG<|zk<|yC h (λ h=>zs<|zr<|yu h λ w h=>zn<|zk<|Zk<|Zf<|Zb<|Zb<|Zf<|Zb<|Xb rfl h) λ h=>Zh<|Zg<|zk<|zs<|zs<|zr<|yv h λ _ w h=>zn ?_
     exact zk<|zr<|yv h λ _ w h=>yu h λ w h=>zn<|zk<|zr<|yv h λ _ w h=>yb h λ _ w h=>yu h λ w h=>zn<|zk<|h
   rcases c with _ | c
   · refine ⟨_,rfl,.inl ⟨rfl,?_⟩⟩
     exact Zf<|Zb<|Zf<|Zb<|Zb<|Zf<|Zb<|Xb rfl h
   rcases c with _ | c
   · refine ⟨_,rfl,.inr ⟨_,rfl,?_⟩⟩
     refine Zn<|zk<|zs<|Zs<|yG 3<|yv h λ _ w h=>yb h λ _ w h=>zm<|zn<|yg1 7 2 true [45,46,47,48,49,50,51] 51 h (λ _ T hT h=>?_) λ σ w h=>?_
     · refine yv h λ _ w h=>yv h λ _ w h=>yx h λ _ w h=>yv h λ _ w h=>yx h λ _ w h=>yx h λ _ w h=>yb h λ _ w h=>zn ?_
       exact zt hT h
     refine yG 2<|yp h λ _ h=>zm<|zn<|yg1 3 11 false [54,55,56] 56 h (λ _ T hT h=>?_) λ σ w h=>?_
     · refine yv h λ _ w h=>yb h λ _ w h=>zm<|zn ?_
       exact zt hT h
     refine yg1 4 14 true [57,58,59,60] 60 h (λ _ T hT h=>?_) λ σ w h=>?_
     · refine yv h λ _ w h=>yv h λ _ w h=>yx h λ _ w h=>yb h λ _ w h=>zn ?_
       exact zt hT h
     refine yg1 1 11 false [61] 61 h (λ _ T hT h=>?_) λ σ w h=>?_
     · refine yp h λ _ h=>zn ?_
       exact zt hT h
     refine yG 1<|yp h λ _ h=>zn<|ZG<|zk<|yC h (λ h=>zs<|zr<|yu h λ w h=>zn<|zk<|Zk<|Zf<|Zb<|Zb<|Zf<|Zb<|Xb rfl h) λ h=>Zh<|Zg<|zk<|zs<|zs<|zr<|yv h λ _ w h=>zn ?_
     exact zk<|zr<|yv h λ _ w h=>yu h λ w h=>zn<|zk<|zr<|yv h λ _ w h=>yb h λ _ w h=>yu h λ w h=>zn<|zk<|h
   exact h.elim
 exact Zy<|Zc<|Zc<|Zn<|zk<|zs<|zr<|yu h λ w h=>zn<|zk<|Zk<|Xb rfl h
def n95 (t0:Value) (R:RT) (w:World):Prop :=
 opV Pg (Instr.box 24 t0) (Zd R) w λ t1 w =>
 F0 24 t1 1 R w λ t4 w =>
 L0 22 t4 R w λ t5 w =>
 opV Pg (Instr.makeFunc (.func 48) #[] #[t1]) (Zd R) w λ t6 w =>
 C0 41 #[t5,t6] R w λ t7 w =>
 C0 50 #[t7] R w λ t9 w =>
 R (.returned t9) w
theorem Zgq {t0:Value} {R:RT} {w:World} (h:n95 t0 R w):Calls Pg 19 #[t0] w R:=by
 refine yD Tryz.func19 ?_
 refine zs<|zr<|yv h λ _ w h=>zm<|zn<|zk<|zs<|zr<|yv h λ _ w h=>yv h λ _ w h=>yF h λ _ w h=>yc h c41 λ _ w h=>zm<|zn<|zk ?_
 exact zs<|zr<|zm<|yc h c50 λ _ w h=>zm<|zn<|zk<|Zk<|Zi rfl rfl h
def n99 (t0:Value) (R:RT) (w:World):Prop :=
 opV Pg (Instr.box 28 t0) (Zd R) w λ t1 w =>
 L0 28 t1 R w λ t4 w =>
 C0 51 #[t4,(.bool true)] R w λ t5 w =>
 opV Pg (Instr.extract t5 0) (Zd R) w λ t6 w =>
 opV Pg (Instr.extract t5 1) (Zd R) w λ t7 w =>
 R (.returned (.tuple #[t6,t7])) w
theorem ZgQ {t0:Value} {R:RT} {w:World} (h:n99 t0 R w):Calls Pg 20 #[t0] w R:=by
 refine yD Tryz.func20 ?_
 refine zs<|zr<|yv h λ _ w h=>zm<|zm<|zn<|zk<|zs<|zr<|yv h λ _ w h=>yc h c51 λ _ w h=>yv h λ _ w h=>yv h λ _ w h=>zm<|zm ?_
 exact zn<|zk<|Zk<|Yx rfl rfl rfl h
def ZcY (t0:Value) (R:RT) (w:World):Prop :=
 opV Pg (Instr.box 28 t0) (Zd R) w λ t1 w =>
 L0 28 t1 R w λ t4 w =>
 C0 51 #[t4,(.bool false)] R w λ t5 w =>
 opV Pg (Instr.extract t5 0) (Zd R) w λ t6 w =>
 opV Pg (Instr.extract t5 1) (Zd R) w λ t7 w =>
 R (.returned (.tuple #[t6,t7])) w
theorem Zb3 {t0:Value} {R:RT} {w:World} (h:ZcY t0 R w):Calls Pg 21 #[t0] w R:=by
 refine yD Tryz.func21 ?_
 refine zs<|zr<|yv h λ _ w h=>zm<|zm<|zn<|zk<|zs<|zr<|yv h λ _ w h=>yc h c51 λ _ w h=>yv h λ _ w h=>yv h λ _ w h=>zm<|zm ?_
 exact zn<|zk<|Zk<|Yx rfl rfl rfl h
def Sl (t7:Value) (R:RT) (w:World):Prop :=
 opV Pg (Instr.extract t7 0) (Zd R) w λ t8 w =>
 opV Pg (Instr.extract t7 1) (Zd R) w λ t9 w =>
 opV Pg (Instr.alloc 90 true (.tuple #[])) (Zd R) w λ t3 w =>
 opU Pg (Instr.storeAt 90 t3 t8) (Zd R) w λ w =>
 opV Pg (Op.unary .not t9) (Zd R) w λ t11 w =>
 R (.returned t11) w
def n31 (t0:Value) (R:RT) (w:World):Prop :=
 opV Pg (Instr.box 28 t0) (Zd R) w λ t1 w =>
 L0 28 t1 R w λ t6 w =>
 C0 52 #[t6] R w λ t7 w =>
 Sl t7 R w
theorem Zgx {t0:Value} {R:RT} {w:World} (h:n31 t0 R w):Calls Pg 22 #[t0] w R:=by
 refine yD Tryz.func22 ?_
 refine zs<|zr<|yv h λ _ w h=>zm<|zn<|zk<|zs<|zr<|yv h λ _ w h=>yc h c52 λ _ w h=>zm<|yv h λ _ w h=>yv h λ _ w h=>yv h λ _ w h=>yu h λ w h=>?_
 exact zm<|zn<|zk<|zs<|zr<|zm<|yv h λ _ w h=>zm<|zn<|zk<|Zk<|Zi rfl rfl h
def Tv (t6 t12 t55:Value) (C4:World→Prop) (next2:KV) (R:RT) (w:World):Prop :=
 qV Pg C4 (Instr.indexAt 93 t12 t55) λ t56 =>
 opU Pg (Instr.storeAt 4 t56 (.bool true)) (Zd R) w λ w =>
 VS w λ C5 w =>
 B0 .add 3 true t6 (.int .i64 1) R w λ t47 w =>
 next2 t47 w
def St (t1 t4 t6 t12 t35:Value) (C4:World→Prop) (next2:KV) (R:RT) (w:World):Prop :=
 qV Pg C4 (Instr.loadAt 28 t1) λ t49 =>
 qV Pg C4 (Instr.indexAt 82 t35 t6) λ t52 =>
 qV Pg C4 (Instr.loadAt 9 t52) λ t53 =>
 C0 53 #[t49,t53,t4] R w λ t55 w =>
 C4 w∧(
 Tv t6 t12 t55 C4 next2 R w)
def HO (t1 t4 t6 t12 t35 t39 t44:Value) (next1:KV) (next2:KV) (R:RT) (w:World):Prop :=
 Zu t39 t44 (.bool false) λ t45 =>
 Zr t45 (
 Yp w λ C4 w =>
 St t1 t4 t6 t12 t35 C4 next2 R w) (
 B0 .sub 3 true t4 (.int .i64 1) R w λ t29 w =>
 next1 t29 w)
def SX (t1 t4 t6 t12 t35:Value) (next1:KV) (next2:KV) (R:RT) (w:World):Prop :=
 X0 93 t12 t4 R w λ t38 w =>
 L0 4 t38 R w λ t39 w =>
 Zq (λ (t44:Value) (w:World) =>
 HO t1 t4 t6 t12 t35 t39 t44 next1 next2 R w) λ K3 =>
 Zl t39 true (
 opV Pg (Builtin.len_ #[82] 3 #[t35]) (Zd R) w λ t43 w =>
 B0 .lss 3 false t6 t43 R w λ t44 w =>
 K3 t44 w) (
 K3 undef w)
def Ob (t7 t8 t12:Value) (next6:KW) (R:RT) (w:World):Prop :=
 X0 93 t12 t8 R w λ t66 w =>
 L0 4 t66 R w λ t67 w =>
 Zq (λ (t7:Value) (w:World) =>
 B0 .add 3 true t8 (.int .i64 1) R w λ t63 w =>
 next6 t7 t63 w) λ K7 =>
 Zr t67 (
 opV Pg (Instr.buildSlice 30 1 #[(0,t8)]) (Zd R) w λ t70 w =>
 opV Pg (Builtin.append_ #[30,30] 30 #[t7,t70]) (Zd R) w λ t71 w =>
 K7 t71 w) (
 K7 t7 w)
def Tl (t1 t7 t8 t12:Value) (next6:KW) (R:RT) (w:World):Prop :=
 F0 28 t1 1 R w λ t58 w =>
 L0 26 t58 R w λ t59 w =>
 opV Pg (Builtin.len_ #[26] 3 #[t59]) (Zd R) w λ t60 w =>
 B0 .lss 3 false t8 t60 R w λ t61 w =>
 Zr t61 (
 Ob t7 t8 t12 next6 R w) (
 R (.returned t7) w)
def Sz (t1 t4 t12:Value) (next1:KV) (R:RT) (w:World):Prop :=
 F0 28 t1 1 R w λ t30 w =>
 L0 26 t30 R w λ t31 w =>
 X0 26 t31 t4 R w λ t33 w =>
 L0 24 t33 R w λ t34 w =>
 C0 54 #[t34] R w λ t35 w =>
 Yi (λ t6 w next2 =>
 SX t1 t4 t6 t12 t35 next1 next2 R w) (.int .i64 0) w
def R5 (t1 t4 t12:Value) (next1:KV) (R:RT) (w:World):Prop :=
 B0 .geq 3 true t4 (.int .i64 0) R w λ t27 w =>
 Zr t27 (
 Sz t1 t4 t12 next1 R w) (
 XP (λ t7 t8 w next6 =>
 Tl t1 t7 t8 t12 next6 R w) (Value.slice none 0 0) (.int .i64 0) w)
def R2 (t1 t12 t20:Value) (R:RT) (w:World):Prop :=
 X0 93 t12 t20 R w λ t21 w =>
 opU Pg (Instr.storeAt 4 t21 (.bool true)) (Zd R) w λ w =>
 F0 28 t1 1 R w λ t22 w =>
 L0 26 t22 R w λ t23 w =>
 opV Pg (Builtin.len_ #[26] 3 #[t23]) (Zd R) w λ t24 w =>
 B0 .sub 3 true t24 (.int .i64 1) R w λ t25 w =>
 Yi (λ t4 w next1 =>
 R5 t1 t4 t12 next1 R w) t25 w
def n43 (t0:Value) (R:RT) (w:World):Prop :=
 opV Pg (Instr.box 28 t0) (Zd R) w λ t1 w =>
 F0 28 t1 1 R w λ t9 w =>
 L0 26 t9 R w λ t10 w =>
 opV Pg (Builtin.len_ #[26] 3 #[t10]) (Zd R) w λ t11 w =>
 opV Pg (Instr.makeSlice 93 t11 t11) (Zd R) w λ t12 w =>
 L0 28 t1 R w λ t14 w =>
 F0 28 t1 2 R w λ t15 w =>
 L0 9 t15 R w λ t16 w =>
 F0 28 t1 1 R w λ t17 w =>
 L0 26 t17 R w λ t18 w =>
 opV Pg (Builtin.len_ #[26] 3 #[t18]) (Zd R) w λ t19 w =>
 C0 53 #[t14,t16,t19] R w λ t20 w =>
 R2 t1 t12 t20 R w
set_option maxHeartbeats 40000000 in
theorem ZdS {t0:Value} {R:RT} {w:World} (h:n43 t0 R w):Calls Pg 23 #[t0] w R:=by
 refine yD Tryz.func23 ?_
 refine zs<|zr<|yv h λ _ w h=>zm<|zn<|zk<|zs<|zr<|yv h λ _ w h=>yv h λ _ w h=>yx h λ _ w h=>yv h λ _ w h=>zm<|zn<|zk ?_
 refine zs<|zr<|zm<|yv h λ _ w h=>yv h λ _ w h=>yv h λ _ w h=>yv h λ _ w h=>yv h λ _ w h=>yx h λ _ w h=>yc h c53 λ _ w h=>yv h λ _ w h=>yu h λ w h=>zn<|zk<|zs ?_
 refine zs<|zr<|yv h λ _ w h=>yv h λ _ w h=>yx h λ _ w h=>yb h λ _ w h=>zm<|zn<|zk<|Zj<|yl1 [4,5,6,26,27,28,29,30,31,32,33,34,35,36,37,38,39,40,41,42,43,44,45,46,47,48,49,50,51,52,53,54,55,56] 4 h λ σ w next h=>zs<|zs<|zr<|zm ?_
 refine yb h λ _ w h=>zn<|zk<|yC h (λ h=>?_) λ h=>?_
 · refine Zh<|zk<|zs<|Zj<|zs<|zr<|yv h λ _ w h=>yv h λ _ w h=>zm<|yv h λ _ w h=>yv h λ _ w h=>yc h c54 λ _ w h=>zm<|zn<|zk ?_
   refine zs<|zr<|zm<|zn<|zk<|Zj<|yl1 [6,36,37,38,39,40,41,42,43,44,45,46,47,48,49,50,51,52,53,54,55,56] 6 h λ σ w next h=>zs<|zs<|Zs<|yG 5<|zm<|zm<|yv h λ _ w h=>yv h λ _ w h=>?_
   refine zm<|zn<|yg1 4 4 true [41,42,43,44] 44 h (λ _ T hT h=>?_) λ σ w h=>?_
   · refine zm<|zm<|yx h λ _ w h=>yb h λ _ w h=>zn ?_
     exact zt hT h
   refine yG 1<|yp h λ _ h=>zn<|ZG<|zk<|yC h (λ h=>?_) λ h=>?_
   · refine Zh<|zk<|zs<|Zj<|yh [48,49,50,51,52,53,54,55,56] h λ C hC h=>yw 0 hC ?_
     refine ye 1 hC h λ _ h=>?_
     refine yw 2 hC ?_
     refine yw 3 hC ?_
     refine ye 4 hC h λ _ h=>?_
     refine ye 5 hC h λ _ h=>?_
     refine yw 6 hC ?_
     refine yo 7 ?_
     refine yc h c53 λ _ w h=>zn ?_
     obtain ⟨hC,h⟩:=h
     refine ⟨hC,?_⟩
     refine ye 8 hC h λ _ h=>?_
     refine yq 9 1 ?_
     refine yu h λ w h=>zn ?_
     obtain ⟨C5,hC,h⟩:=h
     refine ⟨C5,hC,?_⟩
     exact yz<|Zg<|zk<|zr<|zm<|yb h λ _ w h=>zm<|zn<|zk<|⟨rfl,h⟩
   exact Zy<|Zc<|Zc<|Zn<|Zg<|zk<|zr<|zm<|yb h λ _ w h=>zm<|zn<|zk<|⟨rfl,h⟩
 refine Zy<|Zc<|Zc<|Zn<|zk<|zs<|zr<|zm<|zn<|zk<|zs<|zs<|zr<|zm<|zn ?_
 refine zk<|Zj<|yl2 [7,8,57,58,59,60,61,62,63,64,65,66,67,68,69,70,71] 7 8 h λ σ w next h=>zs<|zs<|zr<|zm<|yv h λ _ w h=>yv h λ _ w h=>yx h λ _ w h=>yb h λ _ w h=>zn<|zk<|yC h (λ h=>?_) λ h=>?_
 · refine Zh<|zk<|zs<|Zj<|zs<|zr<|zm<|zm<|yv h λ _ w h=>yv h λ _ w h=>zn<|zk<|yJ1 [7,68,69,70,71] 7 h (λ _ _ hkK7 h=>?_) λ σ w h=>?_
   · refine yC h (λ h=>?_) λ h=>?_
     · refine zr<|zm<|zm<|yS h λ _ w h=>yx h λ _ w h=>zm<|zn<|zk ?_
       exact zt hkK7 h
     refine Zh<|zk ?_
     exact zt hkK7 h
   exact Zg<|zk<|zr<|zm<|yb h λ _ w h=>zm<|zn<|zk<|⟨rfl,h⟩
 exact Zy<|Zc<|Zc<|Zn<|zk<|zs<|zr<|zm<|zm<|zn<|zk<|Zk<|Zi rfl rfl h
theorem Kl (w0:World) (v:Value) (l:List Bool) (g:FuncId) (caps:Array Value) (p:Nat→Bool) (hs:Ze w0 1 EM v l) (hl:l.length≤1048576) (hg:Callable Pg g)
 (hc:∀ (w:World) (i:Nat) (x:Bool),l[i]?=some x→Ext w0 w→Ret Pg g (#[.int .i64 (i:Int),.bool x]++caps) w λ r w'=>r = .bool (p i)∧Ext w w') :
 Ret Pg 87 #[v,.func (.func g) #[] caps] w0 λ r w'=>Yy w' w0.heap.size r (Wz l.length p)∧Ext w0 w':=by
 obtain ⟨A,c,rfl,hlc,hcm,hlm,hel⟩:=Ze.open hs
 refine Zba (R:=ZQ _) ?_;unfold Za8
 simp (disch:=try exact DI) only [↓PR,QR,simprocAttr]
 refine Ye (λ a0 a1 w=>∃ (k:Nat) (sv:Value),a0=sv∧a1 = .int .i64 (k:Int)∧k≤l.length∧Ext w0 w∧Yy w w0.heap.size sv (Wz k p)) (λ a0 a1 _=>l.length - (intOf a1).toNat) ⟨0,.slice none 0 0,rfl,rfl,Nat.zero_le _,ee,Z5.nil _ _ _ _ _⟩ ?_
 rintro _ _ w ⟨k,sv,rfl,rfl,hk,e,hI⟩
 have se:=e.size
 rcases ZB hk with ⟨x,hx,hd,hlt,hdec⟩ | ⟨hk,hd,hdec⟩
 · obtain ⟨b,o,cs,rfl,hl',hA,rfl⟩:=hel k x hx
   have hA':=hA.ext e
   simp (disch:=try exact DI) only [↓PR,QR,simprocAttr,hdec,↓Ot,hA'.c1 (Ext.refl _)]
   rw [YI hg]
   simp only [Array.empty_append]
   refine zcr (hc w k x hx e) λ w2 e2=>?_
   have e02:=e.trans e2
   have hR:=hI.ext e2
   have hss:=jG k p
   have hsl:=UF k p
   cases hp:p k with
   | false =>
    rw [hp] at hss
    simp only [Bool.false_eq_true,if_false,List.append_nil] at hss
    simp (disch:=try exact DI) only [↓PR,QR,simprocAttr,↓Fp]
    exact ⟨⟨k+1,_,rfl,rfl,by omega,ee,by rw [hss];exact hR⟩,ZF (kd := .i64) hlt⟩
   | true =>
    rw [hp] at hss
    simp only [if_true] at hss
    simp (disch:=try exact DI) only [↓PR,QR,simprocAttr,↓Fp]
    generalize hY:World.alloc w2 _=Y
    have eY:Ext w2 Y:=by rw [← hY];exact ee
    have oY:Y.heap[w2.heap.size]?=some (.cells #[.int .i64 (k:Int)] 3 (0,0)):=by rw [← hY];exact ZE _ _ _
    clear hY
    refine UC (k:Int) (hR.ext eY) (by rw [(Za oY).1];rfl) (e02.trans eY).size (by omega) ?_
    intro v' w' hO' hg'
    have e':=hg'.2.1 w0 (e02.trans eY) (Nat.le_refl _)
    simp (disch:=try exact DI) only [↓PR,QR,simprocAttr]
    exact ⟨⟨k+1,v',rfl,rfl,by omega,ee,by rw [hss];exact hO'⟩,ZF (kd := .i64) hlt⟩
 · subst hk
   simp (disch:=try exact DI) only [↓PR,QR,simprocAttr,hdec]
   exact ⟨hI,e⟩
def jN (d:YF):Int:=if (Yl d).2.2=0 then 0 else 2
def V4 (d:YF) (want:Bool):List Int:=if (Yl d).2.2=0 then Wz d.msgs.length (λ i=>Xp d.msgs (Yz d) i == want) else []
theorem qQ (w0:World) (v:Value) (d:YF) (want:Bool) (hd:Yv w0 v d) (ht:UN d):Ret Pg 51 #[v,.bool want] w0 λ r w'=>(∃ u,r = .tuple #[u,.int .i64 (jN d)]∧Yy w' w0.heap.size u (V4 d want))∧Ext w0 w':=by
 obtain ⟨mv,rfl,hM⟩:=hd
 have hm1:=Ze.oneCell hM
 have hM0:=hM
 refine ZcD (R:=ZQ _) ?_;unfold Zbp
 simp (disch:=try exact DI) only [↓PR,QR,simprocAttr]
 generalize hV:World.alloc (World.alloc w0 _) _=V
 have eV:Ext w0 V:=by rw [← hV];exact ee
 have o3:V.heap[w0.heap.size+1]?=some (.cells #[.bool want] 4 (0,0)):=by rw [← hV];simp (disch:=try exact DI) only [↓PR,QR,simprocAttr]
 clear hV
 refine Zt (xd _ _ d ⟨_,rfl,hM0.ext eV⟩ ht) ?_
 rintro r w1 ⟨hr,e1⟩
 have E1:=eV.trans e1
 have s1:=E1.size
 have htest:∀ (l:List Bool) (w:World) (i:Nat) (x:Bool),l[i]?=some x→Ext w1 w→Ret Pg 88 #[.int .i64 (i:Int),.bool x,.pointer (some ⟨w0.heap.size+1,0,none⟩)] w λ r w'=>r = .bool ((l.map λ x=>x == want)[i]?.getD false)∧Ext w w':=by
  intro l w i x hx e
  refine ZcO (R:=ZQ _) ?_;unfold Zcp
  simp (disch:=try exact DI) only [↓PR,QR,simprocAttr,(Za ((e1.trans e).obj o3)).1]
  refine ⟨?_,Ext.refl _⟩
  rw [List.getElem?_map,hx]
  rfl
 by_cases hc:(Yl d).2.2=0
 · simp only [hc,if_true] at hr
   obtain ⟨b,rfl,hb,hR⟩:=hr
   have hl60:=(Xh hc).2.1.2
   have hbs:=hR.bools (by rw [UQ];omega)
   rw [UQ] at hbs
   simp (disch:=try exact DI) only [↓PR,QR,simprocAttr,↓FM]
   refine Zt (Kl _ _ _ _ _ (λ i=>((tab d.msgs.length (Xp d.msgs (Yz d))).map λ x=>x == want)[i]?.getD false) hbs (by rw [UQ];omega) c88 (λ w i x hx e=>htest _ w i x hx e)) ?_
   rintro u w2 ⟨hU,e2⟩
   rw [UQ] at hU
   refine ⟨_,rfl,⟨u,by rw [show jN d=0 from if_pos hc],?_⟩,E1.trans e2⟩
   rw [show V4 d want=_ from if_pos hc]
   have hcg:Wz d.msgs.length (λ i=>((tab d.msgs.length (Xp d.msgs (Yz d))).map λ x=>x == want)[i]?.getD false)=Wz d.msgs.length (λ i=>Xp d.msgs (Yz d) i == want):=Bk λ i hi=>by rw [List.getElem?_map,Q7 hi];rfl
   rw [hcg] at hU
   exact hU.base s1
 · simp only [hc,if_false] at hr
   subst hr
   simp (disch:=try exact DI) only [↓PR,QR,simprocAttr,↓FM]
   refine Zt (Kl _ _ [] _ _ (λ i=>(([]:List Bool).map λ x=>x == want)[i]?.getD false) (Ze.nil _ _ _) (by simp) c88 (λ w i x hx e=>htest _ w i x hx e)) ?_
   rintro u w2 ⟨hU,e2⟩
   refine ⟨_,rfl,⟨u,by rw [show jN d=2 from if_neg hc],?_⟩,E1.trans e2⟩
   rw [show V4 d want=[] from if_neg hc]
   exact hU.base s1
theorem Bz (w0:World) (v:Value) (d:YF) (hd:Yv w0 v d) (ht:UN d):Ret Pg 20 #[v] w0 λ r w'=>(∃ u,r = .tuple #[u,.int .i64 (jN d)]∧Yy w' w0.heap.size u (V4 d true))∧Ext w0 w':=by
 obtain ⟨mv,rfl,hM⟩:=hd
 have hm1:=Ze.oneCell hM
 refine ZgQ (R:=ZQ _) ?_;unfold n99
 rw [Xk]
 have hBW:=ZS.new (w:=w0) (Zz d mv) (28)
 have eW:Ext w0 (w0.alloc (Obj.cells (List.toArray (Zz d mv)) (28))):=(Ext.refl _).alloc _
 generalize (w0.alloc (Obj.cells (List.toArray (Zz d mv)) (28)))=W at hBW eW ⊢
 simp (disch:=try exact DI) only [↓PR,QR,simprocAttr,hBW.c3 (Ext.refl W)]
 refine Zt (qQ _ _ d true ⟨_,rfl,hM.ext eW⟩ ht) ?_
 rintro _ w1 ⟨⟨u,rfl,hU⟩,e1⟩
 simp (disch:=try exact DI) only [↓PR,QR,simprocAttr]
 exact ⟨⟨u,rfl,hU.base eW.size⟩,eW.trans e1⟩
theorem Fx (w0:World) (v:Value) (d:YF) (hd:Yv w0 v d) (ht:UN d):Ret Pg 21 #[v] w0 λ r w'=>(∃ u,r = .tuple #[u,.int .i64 (jN d)]∧Yy w' w0.heap.size u (V4 d false))∧Ext w0 w':=by
 obtain ⟨mv,rfl,hM⟩:=hd
 have hm1:=Ze.oneCell hM
 refine Zb3 (R:=ZQ _) ?_;unfold ZcY
 rw [Xk]
 have hBW:=ZS.new (w:=w0) (Zz d mv) (28)
 have eW:Ext w0 (w0.alloc (Obj.cells (List.toArray (Zz d mv)) (28))):=(Ext.refl _).alloc _
 generalize (w0.alloc (Obj.cells (List.toArray (Zz d mv)) (28)))=W at hBW eW ⊢
 simp (disch:=try exact DI) only [↓PR,QR,simprocAttr,hBW.c3 (Ext.refl W)]
 refine Zt (qQ _ _ d false ⟨_,rfl,hM.ext eW⟩ ht) ?_
 rintro _ w1 ⟨⟨u,rfl,hU⟩,e1⟩
 simp (disch:=try exact DI) only [↓PR,QR,simprocAttr]
 exact ⟨⟨u,rfl,hU.base eW.size⟩,eW.trans e1⟩
section
variable {l:List ZD} {s to:Nat}
def Bfs (l:List ZD) (s to:Nat) (Q:List (List Int)) (sn:Nat→Bool):Prop :=
 ∃ (j:Nat) (A B:List (List Int)),Q=A++Et to l s j::B∧(j:Int)≤dN to l s∧(∀ q∈Q,∃ (q':List Int) (x:Nat),q=q'++[(x:Int)]∧x < l.length∧dN to l s - j≤dN to l x)∧(∀ x,sn x=true→dN to l s - j≤dN to l x)∧∀ q∈A,∃ (q':List Int) (x:Nat),q=q'++[(x:Int)]∧dN to l s - j+1≤dN to l x
theorem Ek (j:Nat):∃ q',Et to l s j=q'++[(pk to l s j:Int)]:=by
 cases j with
 | zero=>exact ⟨[],rfl⟩
 | succ j=>exact ⟨_,Dz j⟩
theorem Ui {a b:List Int} {x y:Nat} (h:a++[(x:Int)]=b++[(y:Int)]):a=b∧x=y:=by
 obtain ⟨h1,h2⟩:=List.append_inj' h rfl
 injection h2 with h2
 exact ⟨h1,by omega⟩
theorem LN (h:YL l) (hs:s < l.length):Bfs l s to [[(s:Int)]] λ _=>false :=
 ⟨0,[],[],rfl,(by have:=F4 (to:=to) h s;omega),(λ q hq=>by simp only [List.mem_singleton] at hq;exact ⟨[],s,hq,hs,by omega⟩),(λ _ h=>by cases h),(λ q hq=>by cases hq)⟩
theorem T2 {Q:List (List Int)} {sn:Nat→Bool} (h:Bfs l s to Q sn):Q≠[]:=by
 obtain ⟨j,A,B,rfl,_⟩:=h
 simp
theorem NH {q:List Int} {Q:List (List Int)} {sn:Nat→Bool} (h:Bfs l s to (q::Q) sn):∃ (q':List Int) (x:Nat),q=q'++[(x:Int)]∧x < l.length:=by
 obtain ⟨j,A,B,_,_,h3,_⟩:=h
 obtain ⟨q',x,h1,h2,_⟩:=h3 q (List.mem_cons_self ..)
 exact ⟨q',x,h1,h2⟩
theorem MP (hf:YL l) (hd:dN to l s < 1000) {q':List Int} {Q:List (List Int)} {sn:Nat→Bool} (h:Bfs l s to ((q'++[(to:Int)])::Q) sn):q'++[(to:Int)]=Em to l s:=by
 obtain ⟨j,A,B,h1,h2,h3,h4,h5⟩:=h
 cases A with
 | nil =>
  simp only [List.nil_append,List.cons.injEq] at h1
  obtain ⟨q2,hq2⟩:=Ek (to:=to) (l:=l) (s:=s) j
  rw [hq2] at h1
  have:=(Ui h1.1).2
  have hp:=B7 hf hd j h2
  rw [← this,Ak] at hp
  rw [h1.1,← hq2]
  unfold Em
  rw [show (dN to l s).toNat=j by omega]
 | cons a A =>
  simp only [List.cons_append,List.cons.injEq] at h1
  obtain ⟨q2,x,e,hx⟩:=h5 a (List.mem_cons_self ..)
  rw [← h1.1] at e
  have:=(Ui e).2
  subst this
  rw [Ak] at hx
  omega
def X5 (q:List Int) (ys:List Int) (sn:Nat→Bool):List (List Int):=(ys.filter λ y=>!sn y.toNat).map λ y=>q++[y]
theorem Lf (q ys:List Int) (sn:Nat→Bool) (y:Int):X5 q (ys++[y]) sn=X5 q ys sn++(if sn y.toNat then [] else [q++[y]]):=by
 unfold X5
 rw [List.filter_append,List.map_append]
 congr 1
 cases h:sn y.toNat<;>simp [h]
theorem Cv (h:YL l) {x y:Nat} (hx:x≠to) (ht:toB l x y=true):dN to l x - 1≤dN to l y:=by
 rcases Se (to:=to) h ht with h1 | h1
 · omega
 · exact absurd h1 hx
theorem Nh (hf:YL l) (hd:dN to l s < 1000) {q':List Int} {x:Nat} {Q:List (List Int)} {sn:Nat→Bool} (h:Bfs l s to ((q'++[(x:Int)])::Q) sn) (hx:x≠to):Bfs l s to (Q++X5 (q'++[(x:Int)]) (toP l x) sn) λ i=>sn i||toB l x i:=by
 obtain ⟨j,A,B,h1,h2,h3,h4,h5⟩:=h
 have hkid:∀ c:Int,(∀ y,toB l x y=true→c≤dN to l y)→∀ q∈X5 (q'++[(x:Int)]) (toP l x) sn,∃ (q2:List Int) (y:Nat),q=q2++[(y:Int)]∧y < l.length∧c≤dN to l y:=by
  intro c hc q hq
  unfold X5 at hq
  simp only [List.mem_map,List.mem_filter] at hq
  obtain ⟨y,⟨hy,_⟩,rfl⟩:=hq
  obtain ⟨i,hi,hti,rfl⟩:=WR.1 hy
  have:=JF hf hti
  exact ⟨_,i,rfl,by omega,hc i hti⟩
 cases A with
 | cons a A =>
  simp only [List.cons_append,List.cons.injEq] at h1
  obtain ⟨ha,hQ⟩:=h1
  obtain ⟨q2,x2,e,hx2⟩:=h5 a (List.mem_cons_self ..)
  rw [← ha] at e
  have:=(Ui e).2
  subst this
  have hnear:∀ y,toB l x y=true→dN to l s - j≤dN to l y:=λ y hy=>by have:=Cv hf hx hy;omega
  refine ⟨j,A,B++X5 (q'++[(x:Int)]) (toP l x) sn,by rw [hQ];simp,h2,λ q hq=>?_,λ y hy=>?_,λ q hq=>h5 q (List.mem_cons_of_mem _ hq)⟩
  · rcases List.mem_append.1 hq with hq | hq
    · exact h3 q (List.mem_cons_of_mem _ hq)
    · exact hkid _ hnear q hq
  · simp only [Bool.or_eq_true] at hy
    rcases hy with hy | hy
    · exact h4 y hy
    · exact hnear y hy
 | nil =>
  simp only [List.nil_append,List.cons.injEq] at h1
  obtain ⟨hp,hQ⟩:=h1
  subst hQ
  obtain ⟨q2,hq2⟩:=Ek (to:=to) (l:=l) (s:=s) j
  rw [hq2] at hp
  have hxk:=(Ui hp).2
  have hp':q'++[(x:Int)]=Et to l s j:=by rw [hp,← hq2]
  have hdx:=B7 hf hd j h2
  rw [← hxk] at hdx
  have hjd:(j:Int) < dN to l s:=by
   have h0:dN to l x≠0:=λ h=>hx ((P1 hf).1 h)
   have:=F4 (to:=to) hf x
   omega
  have hnk:=Bn (to:=to) hf hx (by omega)
  have hpk:pk to l s (j+1)=UY to l x:=by rw [pk,← hxk]
  have hnl:=(JF hf hnk.1).1
  have hsplit:∃ ys zs,toP l x=ys++((UY to l x:Nat):Int)::zs∧∀ y∈ys,∃ i:Nat,y=i∧i < UY to l x∧toB l x i=true:=by
   have hm:((UY to l x:Nat):Int)∈toP l x:=WR.2 ⟨_,hnl,hnk.1,rfl⟩
   obtain ⟨ys,zs,he⟩:=List.append_of_mem hm
   refine ⟨ys,zs,he,λ y hy=>?_⟩
   have hr:=Gv x (toB l x)
   rw [show Wz x (toB l x)=toP l x from rfl,he,List.pairwise_append] at hr
   have:=hr.2.2 y hy _ (List.mem_cons_self ..)
   obtain ⟨i,_,hti,hyi⟩:=WR.1 (show y∈toP l x by rw [he];exact List.mem_append_left _ hy)
   exact ⟨i,hyi,by omega,hti⟩
  obtain ⟨ys,zs,hyz,hys⟩:=hsplit
  have hsn:sn (UY to l x)=false:=by
   cases hb:sn (UY to l x) with
   | false=>rfl
   | true=>have:=h4 _ hb;have:=hnk.2.1;omega
  have hkids:X5 (q'++[(x:Int)]) (toP l x) sn=X5 (q'++[(x:Int)]) ys sn++Et to l s (j+1)::X5 (q'++[(x:Int)]) zs sn:=by
   rw [hyz,Dz,hpk,← hp']
   unfold X5
   rw [List.filter_append,List.map_append,List.filter_cons]
   simp [hsn]
  have hnear:∀ y,toB l x y=true→dN to l s - ((j+1:Nat):Int)≤dN to l y:=λ y hy=>by have:=Cv hf hx hy;omega
  refine ⟨j+1,Q++X5 (q'++[(x:Int)]) ys sn,X5 (q'++[(x:Int)]) zs sn,by rw [hkids];simp,by omega,λ q hq=>?_,λ y hy=>?_,λ q hq=>?_⟩
  · rcases List.mem_append.1 hq with hq | hq
    · obtain ⟨q3,y,a,b,c⟩:=h3 q (List.mem_cons_of_mem _ hq)
      exact ⟨q3,y,a,b,by omega⟩
    · exact hkid _ hnear q hq
  · simp only [Bool.or_eq_true] at hy
    rcases hy with hy | hy
    · have:=h4 y hy;omega
    · exact hnear y hy
  · rcases List.mem_append.1 hq with hq | hq
    · obtain ⟨q3,y,a,b,c⟩:=h3 q (List.mem_cons_of_mem _ hq)
      exact ⟨q3,y,a,by omega⟩
    · unfold X5 at hq
      simp only [List.mem_map,List.mem_filter] at hq
      obtain ⟨y,⟨hy,_⟩,rfl⟩:=hq
      obtain ⟨i,rfl,hi,hti⟩:=hys y hy
      have h6:=Cv hf hx hti
      have h7:=hnk.2.2 i hi hti
      exact ⟨_,i,rfl,by omega⟩
end
def Su (t10 t52 t58 t77:Value) (K5:KV) (R:RT) (w:World):Prop :=
 X0 93 t52 t77 R w λ t85 w =>
 opU Pg (Instr.storeAt 4 t85 (.bool true)) (Zd R) w λ w =>
 opV Pg (Builtin.len_ #[30] 3 #[t58]) (Zd R) w λ t89 w =>
 opV Pg (Builtin.len_ #[30] 3 #[t58]) (Zd R) w λ t91 w =>
 opV Pg (Instr.sliceAt 30 t58 none (some t89) (some t91)) (Zd R) w λ t92 w =>
 opV Pg (Instr.buildSlice 30 1 #[(0,t77)]) (Zd R) w λ t94 w =>
 opV Pg (Builtin.append_ #[30,30] 30 #[t92,t94]) (Zd R) w λ t95 w =>
 opV Pg (Instr.buildSlice 78 1 #[(0,t95)]) (Zd R) w λ t96 w =>
 opV Pg (Builtin.append_ #[78,78] 78 #[t10,t96]) (Zd R) w λ t97 w =>
 K5 t97 w
def N1 (t10 t52 t58 t72 t74:Value) (next4:KW) (R:RT) (w:World):Prop :=
 X0 30 t72 t74 R w λ t76 w =>
 L0 3 t76 R w λ t77 w =>
 X0 93 t52 t77 R w λ t80 w =>
 L0 4 t80 R w λ t81 w =>
 opV Pg (Op.unary .not t81) (Zd R) w λ t82 w =>
 Zq (λ (t10:Value) (w:World) =>
 B0 .add 3 true t74 (.int .i64 1) R w λ t98 w =>
 next4 t10 t98 w) λ K5 =>
 Zr t82 (
 Su t10 t52 t58 t77 K5 R w) (
 K5 t10 w)
def Of (t10 t52 t58 t69 t72:Value) (next3:KV) (R:RT) (w:World):Prop :=
 opV Pg (Builtin.len_ #[30] 3 #[t72]) (Zd R) w λ t73 w =>
 XP (λ t10 t74 w next4 =>
 B0 .lss 3 false t74 t73 R w λ t75 w =>
 Zr t75 (
 N1 t10 t52 t58 t72 t74 next4 R w) (
 next3 t10 w)) t69 (.int .i64 0) w
def SY (t2 t10 t52 t58 t64:Value) (next3:KV) (R:RT) (w:World):Prop :=
 opV Pg (Instr.sliceAt 78 t10 (some (.int .i64 1)) none none) (Zd R) w λ t69 w =>
 L0 28 t2 R w λ t70 w =>
 C0 56 #[t70,t64] R w λ t72 w =>
 Of t10 t52 t58 t69 t72 next3 R w
def R8 (t1 t2 t10 t52:Value) (K2:KV) (next3:KV) (R:RT) (w:World):Prop :=
 opV Pg (Instr.indexAt 78 t10 (.int .i64 0)) (Zd R) w λ t57 w =>
 L0 30 t57 R w λ t58 w =>
 opV Pg (Builtin.len_ #[30] 3 #[t58]) (Zd R) w λ t61 w =>
 B0 .sub 3 true t61 (.int .i64 1) R w λ t62 w =>
 X0 30 t58 t62 R w λ t63 w =>
 L0 3 t63 R w λ t64 w =>
 B0 .eql 3 false t64 t1 R w λ t67 w =>
 Zr t67 (
 K2 t10 w) (
 SY t2 t10 t52 t58 t64 next3 R w)
def Ox (t1 t2 t10 t52:Value) (K2:KV) (next3:KV) (R:RT) (w:World):Prop :=
 opV Pg (Builtin.len_ #[78] 3 #[t10]) (Zd R) w λ t54 w =>
 B0 .gtr 3 true t54 (.int .i64 0) R w λ t55 w =>
 Zr t55 (
 R8 t1 t2 t10 t52 K2 next3 R w) (
 K2 t10 w)
def SO (t1 t2 t19 t44:Value) (R:RT) (w:World):Prop :=
 opV Pg (Instr.extract t44 0) (Zd R) w λ t45 w =>
 opV Pg (Instr.extract t44 1) (Zd R) w λ t46 w =>
 opV Pg (Instr.buildSlice 30 1 #[(0,t45)]) (Zd R) w λ t48 w =>
 opV Pg (Instr.buildSlice 78 1 #[(0,t48)]) (Zd R) w λ t49 w =>
 opV Pg (Builtin.len_ #[93] 3 #[t19]) (Zd R) w λ t51 w =>
 opV Pg (Instr.makeSlice 93 t51 t51) (Zd R) w λ t52 w =>
 Zq (λ (t10:Value) (w:World) =>
 opV Pg (Instr.indexAt 78 t10 (.int .i64 0)) (Zd R) w λ t100 w =>
 L0 30 t100 R w λ t101 w =>
 R (.returned (.tuple #[t101,(.int .i64 0)])) w) λ K2 =>
 Yi (λ t10 w next3 =>
 Ox t1 t2 t10 t52 K2 next3 R w) t49 w
def Ti (t1 t2 t19:Value) (R:RT) (w:World):Prop :=
 L0 28 t2 R w λ t41 w =>
 F0 28 t2 2 R w λ t42 w =>
 L0 9 t42 R w λ t43 w =>
 C0 31 #[t41,t43] R w λ t44 w =>
 SO t1 t2 t19 t44 R w
def Sq (t1 t2 t19:Value) (R:RT) (w:World):Prop :=
 X0 93 t19 t1 R w λ t37 w =>
 L0 4 t37 R w λ t38 w =>
 opV Pg (Op.unary .not t38) (Zd R) w λ t39 w =>
 Zr t39 (
 R (.returned (.tuple #[(Value.slice none 0 0),(.int .i64 9)])) w) (
 Ti t1 t2 t19 R w)
def CK (t1 t2 t19:Value) (R:RT) (w:World):Prop :=
 B0 .lss 3 true t1 (.int .i64 0) R w λ t27 w =>
 Zq (λ (t32:Value) (w:World) =>
 Zu t27 (.bool true) t32 λ t33 =>
 Zr t33 (
 R (.returned (.tuple #[(Value.slice none 0 0),(.int .i64 3)])) w) (
 Sq t1 t2 t19 R w)) λ K1 =>
 Zl t27 false (
 opV Pg (Builtin.len_ #[93] 3 #[t19]) (Zd R) w λ t31 w =>
 B0 .geq 3 false t1 t31 R w λ t32 w =>
 K1 t32 w) (
 K1 undef w)
def FN (t1 t2 t18:Value) (R:RT) (w:World):Prop :=
 opV Pg (Instr.extract t18 0) (Zd R) w λ t19 w =>
 opV Pg (Instr.extract t18 1) (Zd R) w λ t20 w =>
 B0 .neq 31 true t20 (.int .i64 0) R w λ t23 w =>
 Zr t23 (
 R (.returned (.tuple #[(Value.slice none 0 0),t20])) w) (
 CK t1 t2 t19 R w)
def n97 (t0 t1:Value) (R:RT) (w:World):Prop :=
 opV Pg (Instr.box 28 t0) (Zd R) w λ t2 w =>
 L0 28 t2 R w λ t17 w =>
 C0 55 #[t17] R w λ t18 w =>
 FN t1 t2 t18 R w
set_option maxHeartbeats 40000000 in
theorem Ze4 {t0 t1:Value} {R:RT} {w:World} (h:n97 t0 t1 R w):Calls Pg 24 #[t0,t1] w R:=by
 refine yD Tryz.func24 ?_
 refine zs<|zr<|yv h λ _ w h=>zm<|zm<|zn<|zk<|Ls<|zs<|zr<|yv h λ _ w h=>yc h c55 λ _ w h=>zm<|yv h λ _ w h=>yv h λ _ w h=>?_
 refine zm<|zm<|zn<|zk<|zs<|Zj<|zs<|zr<|zm<|yb h λ _ w h=>zm<|zn<|zk<|yC h (λ h=>zs<|zr<|zm<|zm<|zm<|zn<|zk<|Zk<|Zf<|Zb<|Yx rfl rfl rfl h) λ h=>?_
 refine zs<|Zs<|yG 3<|zm<|yb h λ _ w h=>zm<|zn<|yg1 4 2 false [29,30,31,32] 32 h (λ _ T hT h=>?_) λ σ w h=>?_
 · refine zm<|zm<|yx h λ _ w h=>yb h λ _ w h=>zn ?_
   exact zt hT h
 refine yG 2<|yp h λ _ h=>zm<|zn<|ZG<|zk<|yC h (λ h=>zs<|zr<|zm<|zm<|zn<|zk<|Zk<|Zf<|Zb<|Yx rfl rfl rfl h) λ h=>zs<|zr<|zm<|zm<|yv h λ _ w h=>yv h λ _ w h=>yv h λ _ w h=>?_
 refine zm<|zn<|zk<|yC h (λ h=>zs<|zr<|zm<|zm<|zn<|zk<|Zk<|Zf<|Zb<|Yx rfl rfl rfl h) λ h=>Zh<|Zg<|zk<|zs<|zr<|yv h λ _ w h=>yv h λ _ w h=>yv h λ _ w h=>yc h c31 λ _ w h=>zm ?_
 refine yv h λ _ w h=>yv h λ _ w h=>zm<|zm<|zn<|zk<|zs<|zr<|zm<|yS h λ _ w h=>yS h λ _ w h=>zm<|zn<|zk<|zs ?_
 refine zr<|zm<|yx h λ _ w h=>yv h λ _ w h=>zm<|zn<|zk<|zs<|Lo<|zk<|zs<|yJ1 [10,12,13,15,53,54,55,56,57,58,59,60,61,62,63,64,65,66,67,68,69,70,71,72,73,74,75,76,77,78,79,80,81,82,83,84,85,86,87,88,89,90,91,92,93,94,95,96,97,98] 10 h (λ _ _ hkK2 h=>?_) λ σ w h=>?_
 · refine Zj<|yl1 [10,12,13,15,53,54,55,56,57,58,59,60,61,62,63,64,65,66,67,68,69,70,71,72,73,74,75,76,77,78,79,80,81,82,83,84,85,86,87,88,89,90,91,92,93,94,95,96,97,98] 10 h λ σ w next h=>zs<|zs<|zr<|zm<|yx h λ _ w h=>yb h λ _ w h=>zn<|zk<|yC h (λ h=>?_) λ h=>?_
   · refine Zh<|zk<|Zj<|zs<|zr<|zm<|yv h λ _ w h=>yv h λ _ w h=>zm<|zn<|zk<|zs<|zr<|zm<|zm ?_
     refine yx h λ _ w h=>yb h λ _ w h=>yv h λ _ w h=>yv h λ _ w h=>zm<|zn<|zk<|zs<|zs<|zr<|zm<|zm<|yb h λ _ w h=>zn<|zk ?_
     refine yC h (λ h=>?_) λ h=>?_
     · refine Zy<|Zc<|KN rfl<|Zc<|Zn<|zk ?_
       exact zt hkK2 h
     refine Zh<|zk<|zs<|zr<|zm<|yv h λ _ w h=>zm<|zn<|zk<|zs<|zr<|yv h λ _ w h=>zm<|yc h c56 λ _ w h=>yx h λ _ w h=>?_
     refine zm<|zn<|zk<|Zj<|yl2 [10,15,74,75,76,77,78,79,80,81,82,83,84,85,86,87,88,89,90,91,92,93,94,95,96,97,98] 10 74 h λ σ w next h=>zs<|zr<|yb h λ _ w h=>zn<|zk<|zs<|yC h (λ h=>?_) λ h=>?_
     · refine Zh<|zk<|zs<|Zj<|zs<|zr<|yv h λ _ w h=>yv h λ _ w h=>zm<|zn<|zk<|zs<|zr<|zm<|zm ?_
       refine yv h λ _ w h=>yv h λ _ w h=>yv h λ _ w h=>zn<|zk<|yJ1 [10,83,84,85,86,87,88,89,90,91,92,93,94,95,96,97] 10 h (λ _ _ hkK5 h=>?_) λ σ w h=>?_
       · refine yC h (λ h=>?_) λ h=>?_
         · refine zs<|zr<|zm<|zm<|yv h λ _ w h=>yu h λ w h=>zn<|zk<|zr<|zm<|zm<|zm<|yx h λ _ w h=>zm<|yx h λ _ w h=>?_
           refine yv h λ _ w h=>zm<|yS h λ _ w h=>yx h λ _ w h=>yS h λ _ w h=>yx h λ _ w h=>zm<|zn<|zk ?_
           exact zt hkK5 h
         refine Zh<|zk ?_
         exact zt hkK5 h
       exact Zg<|zk<|zr<|yb h λ _ w h=>zm<|zn<|zk<|⟨rfl,h⟩
     exact Zy<|Zc<|Zc<|Zn<|Zg<|zk<|⟨rfl,h⟩
   refine Zy<|Zc<|Zc<|Zn<|zk ?_
   exact zt hkK2 h
 exact zk<|zs<|zr<|zm<|yv h λ _ w h=>yv h λ _ w h=>zm<|zm<|zn<|zk<|Zk<|Yx rfl rfl rfl h
abbrev TS:TypeId:=30
def Um (n:Nat) (f:Nat→Bool):Nat:=((List.range n).filter λ i=>!f i).length
theorem DA (n:Nat) (f:Nat→Bool):Um (n+1) f=Um n f+(if f n then 0 else 1):=by
 unfold Um
 rw [List.range_succ,List.filter_append,List.length_append]
 cases h:f n<;>simp [h]
theorem Lz {n:Nat} {f g:Nat→Bool} (h:∀ i,i < n→f i=g i):Um n f=Um n g:=by
 unfold Um
 rw [List.filter_congr λ i hi=>by rw [h i (List.mem_range.1 hi)]]
theorem Zak (n:Nat) (f:Nat→Bool):Um n f≤n:=by
 unfold Um
 exact Nat.le_trans (List.length_filter_le _ _) (by simp)
theorem IH {j:Nat} {f:Nat→Bool} (hf:f j=false):∀ n,j < n→Um n (λ i=>f i||i == j)+1=Um n f
 | 0,h=>by omega
 | n+1,h=>by
  rw [DA,DA]
  by_cases hj:j=n
  · subst hj
    have:Um j (λ i=>f i||i == j)=Um j f:=Lz λ i hi=>by
     have:(i == j)=false:=by simp;omega
     rw [this,Bool.or_false]
    simp [this,hf]
  · have ih:=IH hf n (by omega)
    have:(n == j)=false:=by simp;omega
    simp only [this,Bool.or_false]
    omega
section
variable {w w':World} {base r:Nat} {v a:Value} {l:List Int} {xs:List Value} {L:List Bool} {bp:Nat}
theorem Q1.type (h:Q1 w r L):X2 w r 4:=⟨_,_,h⟩
theorem Yy.setB (h:Yy w base v l) (hB:Q1 w r L) (i:Nat) (u:Value):Yy (w.setCell ⟨r,i,none⟩ u) base v l :=
 (WI.only (lo:=base) (hi:=w.heap.size) ⟨h,λ b hb=>(h.lt b hb).2⟩ (Yu.setCell w r i u) (.inr (.inr ⟨_,hB.type,by decide⟩))).1
theorem U5.type (h:U5 w bp TS a xs) {g:Nat} (hg:a.ownBlock=some g):∃ cur,w.heap[g]?=some (.cells cur TS (0,0)):=by
 obtain ⟨g',off,cap,cur,rfl,_,h3,_⟩:=h
 injection hg with hg
 subst hg
 exact ⟨cur,h3⟩
theorem Yy.grownO (h:Yy w base v l) (hO:U5 w bp TS a xs) (hg:w.grownBy w' a.ownBlock):Yy w' base v l:=Z5.grown h hg λ b hb e=>by
 obtain ⟨c1,h1⟩:=ES h hb
 obtain ⟨c2,h2⟩:=hO.type e
 rw [h1] at h2
 injection h2 with h2
 injection h2 with _ h2 _
 exact absurd h2 (by decide)
theorem Q1.grownO (h:Q1 w r L) (hO:U5 w bp TS a xs) (hg:w.grownBy w' a.ownBlock):Q1 w' r L:=(hg.block r (Array.getElem?_eq_some_iff.1 h).1 λ e=>by
 obtain ⟨c2,h2⟩:=hO.type e.symm
 rw [h] at h2
 injection h2 with h2
 injection h2 with _ h2 _
 exact absurd h2 (by decide)).trans h
theorem IZ (h:w.ownsRow base 3 1 v (l.length) (l.map λ n=>Value.int .i64 n)):Yy w base v l:=by
 unfold Yy Z5
 rw [Vi]
 exact h
structure QAt (w:World) (B:Nat) (a:Value) (Q:List (List Int)):Prop where
 row:∃ xs,U5 w B TS a xs∧xs.length=Q.length∧∀ (k:Nat) (x:Value) (q:List Int),xs[k]?=some x→Q[k]?=some q→Yy w B x q
theorem QAt.ext {B:Nat} {Q:List (List Int)} (h:QAt w B a Q) (e:Ext w w'):QAt w' B a Q:=by
 obtain ⟨xs,h1,h2,h3⟩:=h.row
 exact ⟨xs,h1.ext e,h2,λ k x q a b=>(h3 k x q a b).ext e⟩
theorem QAt.setB {B:Nat} {Q:List (List Int)} (h:QAt w B a Q) (hB:Q1 w r L) (i:Nat) (u:Value):QAt (w.setCell ⟨r,i,none⟩ u) B a Q:=by
 obtain ⟨xs,h1,h2,h3⟩:=h.row
 exact ⟨xs,h1.only (Yu.setCell w r i u) hB.type (by decide),h2,λ k x q a b=>(h3 k x q a b).setB hB i u⟩
theorem QAt.one {B:Nat} {Q:List (List Int)} (h:QAt w B a Q):a.oneCell'=true:=by
 obtain ⟨xs,⟨g,off,cap,cur,rfl,_⟩,_⟩:=h.row
 rfl
end
section
variable {w0:World} {d:YF} {mv:Value} {p2 r B x t:Nat} {R:RT}
def Wn (f:Nat→Bool) (ys:List Int) (i:Nat):Bool:=f i||ys.contains (i:Int)
theorem Dd (f:Nat→Bool):Wn f []=f:=by funext i;simp [Wn]
theorem LE (f:Nat→Bool) (ys:List Int) (j:Nat):Wn f (ys++[(j:Int)])=λ i=>Wn f ys i||i == j:=by
 funext i
 unfold Wn
 rw [List.contains_eq_any_beq,List.any_append,List.contains_eq_any_beq,Bool.or_assoc]
 congr 2
 simp only [List.any_cons,List.any_nil,Bool.or_false]
 rw [Bool.eq_iff_iff]
 simp
 omega
theorem HK {tz:Value} {w:World} {l:List ZD} {q:List Int} {Q:List (List Int)} {f:Nat→Bool} {a rv x0:Value} {next3:Value→World→Prop} {bs:Nat} (hf:YL l) (hx:x < l.length) (hl:l.length≤60) (hq:0 < q.length) (hql:q.length≤1000) (hT:Yy w bs rv (toP l x)) (hQ:QAt w B a Q) (hx0:Yy w B x0 q) (hR:Q1 w r (tab l.length f)) (hBr:B≤r) (hB:B≤w.heap.size) (hsum:Q.length+Um l.length f≤100)
 (hn:∀ a' w',QAt w' B a' (Q++X5 q (toP l x) f)→Q1 w' r (tab l.length (Wn f (toP l x)))→(Q++X5 q (toP l x) f).length+Um l.length (Wn f (toP l x))=Q.length+Um l.length f→(∀ W,Ext W w→W.heap.size≤B→Ext W w')→B≤w'.heap.size→next3 a' w') :
 Of tz (.slice (some ⟨r,0,none⟩) l.length l.length) x0 a rv next3 R w:=by
 have htl:(toP l x).length≤x:=UF _ _
 obtain ⟨Ar,cr,rfl,hlr,hcr,hlmr,_⟩:=Ze.open hT.ints
 obtain ⟨gq,capq,curq,rfl,_,hgq,hcq,_,_,_⟩:=hx0.2.resolve_left (λ h=>by have h2:q.length=0:=h.2;omega)
 unfold Of
 simp (disch:=try exact DI) only [↓PR,QR,simprocAttr]
 refine Ye (λ a1 i w'=>∃ k:Nat,i = .int .i64 k∧k≤(toP l x).length∧QAt w' B a1 (Q++X5 q ((toP l x).take k) f)∧Q1 w' r (tab l.length (Wn f ((toP l x).take k)))∧(Q++X5 q ((toP l x).take k) f).length+Um l.length (Wn f ((toP l x).take k))=Q.length+Um l.length f∧Yy w' bs (.slice Ar (toP l x).length cr) (toP l x)∧Yy w' B (.slice (some ⟨gq,0,none⟩) q.length capq) q∧(∀ W,Ext W w→W.heap.size≤B→Ext W w')∧B≤w'.heap.size) (λ _ i _=>(toP l x).length - (intOf i).toNat) ⟨0,rfl,by omega,by simpa [X5] using hQ,by rw [List.take_zero,Dd];exact hR,by rw [List.take_zero,Dd];simp [X5],hT,hx0,λ W e _=>e,hB⟩ ?_
 rintro a1 _ w1 ⟨k,rfl,hk,hQ1,hR1,hs1,hT1,hx1,hE1,hB1⟩
 rcases ZB hk with ⟨y,hy,_,hlt,hdec⟩ | ⟨hke,_,hdec⟩
 · obtain ⟨j,rfl,hj⟩:=B8 (List.mem_of_getElem? hy)
   obtain ⟨_,_,hv,_,_,_,hel⟩:=Ze.open hT1.ints
   injection hv with hv _ hv'
   subst hv hv'
   obtain ⟨b6,o6,cs6,rfl,_,hA6,rfl⟩:=hel k _ hy
   have a6:w1.cell? ⟨b6,o6+k,none⟩=some (.int .i64 (j:Int)):=by have:=hA6 0 _ rfl;simpa using this
   have hjn:j < l.length:=by omega
   have c1:w1.cell? ⟨r,j,none⟩=some (.bool (Wn f ((toP l x).take k) j)):=hR1.get (Q7 hjn)
   have hfz:∀ o,w1.frozen? ⟨r,o,none⟩=false:=(Za hR1).2
   have hfj:Wn f ((toP l x).take k) j=f j:=by
    unfold Wn
    have:((toP l x).take k).contains (j:Int)=false:=by
     rw [Bool.eq_false_iff]
     intro h
     rw [List.contains_iff_mem] at h
     obtain ⟨i,hi⟩:=List.getElem?_of_mem h
     rw [List.getElem?_take] at hi
     split at hi
     · rename_i hik
       have hr:(toP l x).Pairwise (· < ·):=Gv x (toB l x)
       have h1:=(List.getElem?_eq_some_iff.1 hi)
       have h2:=(List.getElem?_eq_some_iff.1 hy)
       have:=List.pairwise_iff_getElem.1 hr i k h1.1 h2.1 hik
       rw [h1.2,h2.2] at this
       exact absurd this (Int.lt_irrefl _)
     · cases hi
    rw [this,Bool.or_false]
   have hkid:=Lf q ((toP l x).take k) f (j:Int)
   rw [Int.toNat_natCast,← ZU hy] at hkid
   have hsn:=LE f ((toP l x).take k) j
   rw [← ZU hy] at hsn
   have hwr:IntKind.i64.wrap ((k:Int)+1)=(k:Int)+1:=Yk (by omega) (by omega)
   cases hb:f j with
   | true =>
    rw [hfj,hb] at c1
    rw [hb] at hkid
    simp only [if_true,List.append_nil] at hkid
    have hsn2:Wn f ((toP l x).take (k+1))=Wn f ((toP l x).take k):=by
     rw [hsn]
     funext i
     by_cases hij:i=j
     · subst hij;rw [hfj,hb];rfl
     · have:(i == j)=false:=by simpa using hij
       rw [this,Bool.or_false]
    simp (disch:=try exact DI) only [↓PR,QR,simprocAttr,hdec,↓N1,a6,c1,Nat.mul_one,Nat.zero_add]
    exact ⟨⟨k+1,rfl,by omega,by rw [hkid];exact hQ1,by rw [hsn2];exact hR1,by rw [hkid,hsn2];exact hs1,hT1,hx1,hE1,hB1⟩,ZF (kd := .i64) hlt⟩
   | false =>
    rw [hfj,hb] at c1
    rw [hb] at hkid
    simp only [Bool.false_eq_true,if_false] at hkid
    simp (disch:=try exact DI) only [↓PR,QR,simprocAttr,hdec,↓N1,↓Su,a6,c1,hfz,Nat.mul_one,Nat.zero_add]
    have hR2:=hR1.set j true
    rw [zb hjn] at hR2
    have hfk:(λ i=>if i=j then true else Wn f ((toP l x).take k) i)=Wn f ((toP l x).take (k+1)):=by
     rw [hsn]
     funext i
     by_cases hij:i=j
     · subst hij;simp
     · have:(i == j)=false:=by simpa using hij
       rw [if_neg hij,this,Bool.or_false]
    rw [hfk] at hR2
    have hcnt:=IH (f:=Wn f ((toP l x).take k)) (hfj.trans hb) l.length hjn
    rw [← hsn] at hcnt
    have hlk:(Q++X5 q ((toP l x).take (k+1)) f).length=(Q++X5 q ((toP l x).take k) f).length+1:=by rw [hkid];simp;omega
    have hQ2:=hQ1.setB hR1 j (.bool true)
    have hT2:=hT1.setB hR1 j (.bool true)
    have hx2:=hx1.setB hR1 j (.bool true)
    have hE2:∀ W,Ext W w→W.heap.size≤B→Ext W (w1.setCell ⟨r,j,none⟩ (.bool true)):=λ W e hW=>(hE1 W e hW).setCell (by show W.heap.size≤r;omega) _
    have hB2:B≤(w1.setCell ⟨r,j,none⟩ (.bool true)).heap.size:=by rw [World.size_setCell];exact hB1
    generalize (w1.setCell ⟨r,j,none⟩ (.bool true))=w2 at hR2 hQ2 hT2 hx2 hE2 hB2 ⊢
    rw [BQ Tryz.underlying30 ty3 gq 0 q.length capq hq hcq]
    simp (disch:=try exact DI) only [↓PR,QR,simprocAttr]
    have eY:Ext w2 (w2.alloc (.cells #[.int .i64 (j:Int)] 3)):=ee
    have oY:=ZE w2 #[.int .i64 (j:Int)] 3
    have hQ3:=hQ2.ext eY
    have hT3:=hT2.ext eY
    have hx3:=hx2.ext eY
    have hR3:=hR2.ext eY
    have sY:=eY.size
    generalize (w2.alloc (.cells #[.int .i64 (j:Int)] 3))=Y at eY oY hQ3 hT3 hx3 hR3 sY ⊢
    obtain ⟨_,_,_,hh⟩:=own_holds hx3
    refine qF (olds:=q.map λ n=>Value.int .i64 n) Tryz.underlying30 ty3 rfl (by simp) (λ i u hu=>?_) (by rw [(Za oY).1];rfl) (by omega) (Nat.le_trans by3 (by decide)) (Nat.le_refl _) ?_
    · rw [List.getElem?_map] at hu
      obtain ⟨n,hn',rfl⟩:=Option.map_eq_some_iff.1 hu
      have hi:=(List.getElem?_eq_some_iff.1 hn')
      have:=(hh i (by simpa using hi.1)).1
      rw [getElem!_pos _ i (by simpa using hi.1)] at this
      simp only [List.getElem_toArray] at this
      rw [this,hi.2]
    · intro nv w4 ho hne e4
      have hN:Yy w4 Y.heap.size nv (q++[(j:Int)]):=IZ (by simpa using ho)
      have hN1:=Ze.oneCell hN.ints
      have hQ4:=hQ3.ext e4
      have hT4:=hT3.ext e4
      have hx4:=hx3.ext e4
      have hR4:=hR3.ext e4
      have s4:=e4.size
      simp (disch:=try exact DI) only [↓PR,QR,simprocAttr]
      have eZ:Ext w4 (w4.alloc (.cells #[nv] TS)):=ee
      have oZ:(w4.alloc (.cells #[nv] TS)).heap[w4.heap.size]?=some (.cells #[nv] TS (0,0)):=ZE w4 #[nv] TS
      have hQ5:=hQ4.ext eZ
      have hT5:=hT4.ext eZ
      have hx5:=hx4.ext eZ
      have hR5:=hR4.ext eZ
      have hN5:=hN.ext eZ
      have s5:=eZ.size
      have f5:=eY.trans (e4.trans eZ)
      generalize (w4.alloc (.cells #[nv] TS))=Z at eZ oZ hQ5 hT5 hx5 hR5 hN5 s5 f5 ⊢
      obtain ⟨xs,hO,hxl,hxr⟩:=hQ5.row
      have hkl:(Q++X5 q ((toP l x).take k) f).length≤100:=by omega
      refine Hr Tryz.underlying78 AE rfl hO hN1 (by rw [(Za oZ).1];rfl) (by omega) (Nat.le_trans Zdq (by decide)) (by omega) ?_
      intro v' w6 hO6 hg
      have hge:∀ b,a1.ownBlock=some b→B≤b:=λ b hb=>by
       obtain ⟨g,off,cap,cur,rfl,hgB,_⟩:=hO
       have hb:g=b:=Option.some.inj hb
       omega
      have s6:=hg.size
      simp (disch:=try exact DI) only [↓PR,QR,simprocAttr]
      refine ⟨⟨k+1,rfl,by omega,⟨xs++[nv],hO6,by rw [hlk,List.length_append,hxl];rfl,λ i u q2 hu hq2=>?_⟩,hR5.grownO hO hg,by rw [hlk];omega,Yy.grownO hT5 hO hg,Yy.grownO hx5 hO hg,λ W e hW=>((hE2 W e hW).trans f5).grown hg λ b hb=>by have:=hge b hb;omega,by omega⟩,ZF (kd := .i64) hlt⟩
      rw [hkid,← List.append_assoc] at hq2
      by_cases hi:i < xs.length
      · rw [List.getElem?_append_left hi] at hu
        rw [List.getElem?_append_left (by omega)] at hq2
        exact Yy.grownO (hxr i u q2 hu hq2) hO hg
      · have hi2:i=xs.length:=by
         have:=(List.getElem?_eq_some_iff.1 hu).1
         simp at this
         omega
        subst hi2
        rw [List.getElem?_append_right (Nat.le_refl _),Nat.sub_self] at hu
        rw [List.getElem?_append_right (by omega),hxl,Nat.sub_self] at hq2
        injection hu with hu
        injection hq2 with hq2
        subst hu hq2
        exact Yy.grownO (Z5.base hN5 (by omega)) hO hg
 · subst hke
   rw [List.take_length] at hQ1 hR1 hs1
   simp (disch:=try exact DI) only [↓PR,QR,simprocAttr,hdec]
   exact hn _ _ hQ1 hR1 hs1 hE1 hB1
end
def Az (d:YF) (i:Int):Int:=if (Yl d).2.2=0 then (if 0≤i∧i < d.msgs.length then (if Xp d.msgs (Yz d) i.toNat then 0 else 9) else 3) else 2
def KU (d:YF) (i:Int):List Int:=if Az d i=0 then Em i.toNat d.msgs (Yz d) else []
def ZcH:Value→Nat
 | .slice _ n _=>n
 | _=>0
def NK (w:World) (r:Nat):Nat:=match w.heap[r]? with
 | some (.cells cs _ _)=>(cs.toList.filter λ v=>match v with
  | .bool b=>!b
  | _=>false).length
 | _=>0
theorem El {w:World} {r n:Nat} {f:Nat→Bool} (h:Q1 w r (tab n f)):NK w r=Um n f:=by
 unfold NK
 rw [h]
 simp only
 unfold tab Um
 rw [List.filter_map,List.length_map,List.filter_map,List.length_map]
 rfl
theorem Cj {l:List ZD} (hf:YL l) (f:Nat→Bool) (x:Nat):Wn f (toP l x)=λ i=>f i||toB l x i:=by
 funext i
 unfold Wn
 congr 1
 rw [Bool.eq_iff_iff,List.contains_iff_mem,toP,WR]
 constructor
 · rintro ⟨j,_,h2,h3⟩
   rw [show i=j by omega];exact h2
 · exact λ hb=>⟨i,(JF hf hb).1,hb,rfl⟩
theorem QAt.head {w:World} {B:Nat} {a:Value} {q:List Int} {Q:List (List Int)} (h:QAt w B a (q::Q)):∃ g off cap x,a = .slice (some ⟨g,off,none⟩) (Q.length+1) cap∧Q.length+1≤cap∧w.cell? ⟨g,off,none⟩=some x∧Yy w B x q∧∀ o',(o'=off+1∨(cap=1∧o'=off))→QAt w B (.slice (some ⟨g,o',none⟩) Q.length (cap - 1)) Q:=by
 obtain ⟨xs,hO,hl,hr⟩:=h.row
 have hO0:=hO
 obtain ⟨g,off,cap,rfl,_,_,_,hc,hcell⟩:=hO.get
 cases xs with
 | nil=>simp at hl
 | cons x xs =>
  simp only [List.length_cons,Nat.add_right_cancel_iff] at hl hc
  refine ⟨g,off,cap,x,by simp [hl],by omega,by simpa using hcell 0 x rfl,hr 0 x q rfl rfl,λ o' ho=>⟨xs,?_,hl,λ k y q2 hy hq2=>hr (k+1) y q2 (by simpa using hy) (by simpa using hq2)⟩⟩
  have:=hO0.tail ho
  rw [hl] at this
  exact this
def FR (s:Nat) (Q:List (List Int)):Prop:=∀ q∈Q,∀ (q':List Int) (x:Nat),q=q'++[(x:Int)]→q.length+x≤s+1
theorem Fz {l:List ZD} (hf:YL l) {s x:Nat} {q':List Int} {Q:List (List Int)} (f:Nat→Bool) (h:FR s ((q'++[(x:Int)])::Q)):FR s (Q++X5 (q'++[(x:Int)]) (toP l x) f):=by
 intro q hq q2 y he
 rcases List.mem_append.1 hq with hq | hq
 · exact h q (List.mem_cons_of_mem _ hq) q2 y he
 · unfold X5 at hq
   simp only [List.mem_map,List.mem_filter] at hq
   obtain ⟨z,⟨hz,_⟩,rfl⟩:=hq
   obtain ⟨i,rfl,hi⟩:=B8 hz
   have:=h _ (List.mem_cons_self ..) q' x rfl
   have hy:=(Ui he).2
   simp only [List.length_append,List.length_singleton] at this ⊢
   omega
section
variable {w0 W:World} {d:YF} {mv:Value} {p2 r B s:Nat}
theorem LT {i:Nat} (hM:Q0 w0 mv d.msgs) (e0:Ext w0 W) (ht:UN d) (hf:YL d.msgs) (hl:d.msgs.length≤60) (hs:s < d.msgs.length) (hi:i < d.msgs.length) (hd:dN i d.msgs s < 1000) (o2:W.heap[p2]?=some (.cells (Zz d mv).toArray 28 (0,0))) (hWB:W.heap.size≤B) (hBr:B≤r) {w:World} {a:Value} (hE:∀ X,Ext X W→X.heap.size≤B→Ext X w) (hB:B≤w.heap.size) (hQ:QAt w B a [[(s:Int)]]) (hR:Q1 w r (tab d.msgs.length λ _=>false)) {R:RT} {K2:Value→World→Prop}
 (hK:∀ a' w',(∃ g off cap n x,a' = .slice (some ⟨g,off,none⟩) (n+1) cap∧n+1≤cap∧w'.cell? ⟨g,off,none⟩=some x∧Yy w' B x (Em i d.msgs s))→Ext W w'→K2 a' w') :
 Yi (λ t10 w next3=>Ox (.int .i64 (i:Int)) (.pointer (some ⟨p2,0,none⟩)) t10 (.slice (some ⟨r,0,none⟩) d.msgs.length d.msgs.length) K2 next3 R w) a w:=by
 refine ZA (λ a w'=>∃ (Q:List (List Int)) (f:Nat→Bool),QAt w' B a Q∧Q1 w' r (tab d.msgs.length f)∧Bfs d.msgs s i Q f∧FR s Q∧Q.length+Um d.msgs.length f≤d.msgs.length+1∧(∀ X,Ext X W→X.heap.size≤B→Ext X w')∧B≤w'.heap.size) (λ a w=>NK w r+ZcH a) ⟨[[(s:Int)]],λ _=>false,hQ,hR,LN hf hs,?_,?_,hE,hB⟩ ?_
 · intro q hq q' x he
   simp only [List.mem_singleton] at hq
   subst hq
   have:=(Ui (a:=[]) he).2
   simp
   omega
 · have:=Zak d.msgs.length (λ _=>false)
   simp
   omega
 rintro a1 w1 ⟨Q,f,hQ1,hR1,hbf,hsh,hsum,hE1,hB1⟩
 cases Q with
 | nil=>exact absurd rfl (T2 hbf)
 | cons q Q =>
  obtain ⟨q',x,rfl,hx⟩:=NH hbf
  obtain ⟨g,off,cap,x0,rfl,hcap,hc0,hx0,htail⟩:=hQ1.head
  have hlen:=hsh _ (List.mem_cons_self ..) q' x rfl
  have EW:Ext W w1:=hE1 W (Ext.refl _) hWB
  have hge:decide (((Q.length+1:Nat):Int) > 0)=true:=by simp only [decide_eq_true_eq];omega
  obtain ⟨gq,capq,curq,rfl,_,hgq,hcq,_,_,_⟩:=hx0.2.resolve_left (λ h=>by have h2:(q'++[(x:Int)]).length=0:=h.2;simp at h2)
  obtain ⟨_,_,_,hh⟩:=own_holds hx0
  have hlast:w1.cell? ⟨gq,q'.length,none⟩=some (.int .i64 (x:Int)):=by
   have:=(hh q'.length (by simp)).1
   rw [getElem!_pos _ q'.length (by simp)] at this
   simpa using this
  have hql:(q'++[(x:Int)]).length=q'.length+1:=by simp
  have hsub:IntKind.i64.wrap (((q'++[(x:Int)]).length:Int) - 1)=(q'.length:Int):=by rw [Yk (by omega) (by omega)];omega
  have hqn:q'.length < (q'++[(x:Int)]).length:=by omega
  have hidx0:∀ (K:Value→World→Prop),opV Pg (Instr.indexAt 78 (.slice (some ⟨g,off,none⟩) (Q.length+1) cap) (.int .i64 0)) (Zd R) w1 K=K (.pointer (some ⟨g,off+0*1,none⟩)) w1:=λ K=>YT Tryz.underlying78 AE g off (Q.length+1) cap .i64 0 (by omega)
  unfold Ox
  simp (disch:=try exact DI) only [↓PR,QR,simprocAttr,hge,↓R8]
  rw [hidx0]
  by_cases hxi:x=i
  · subst hxi
    have hxx:((x:Int) == (x:Int))=true:=by simp
    simp (disch:=try exact DI) only [↓PR,QR,simprocAttr,hc0,hsub,hlast,hxx,Nat.mul_one,Nat.zero_add]
    exact hK _ _ ⟨g,off,cap,Q.length,_,rfl,hcap,hc0,MP hf hd hbf ▸ hx0⟩ EW
  have hxd:((x:Int) == (i:Int))=false:=by simp;omega
  obtain ⟨m,hm⟩:=getElem?_lt hx
  obtain ⟨A,c,rfl,hlc,hcm,hlm,hel⟩:=Ze.open hM
  simp (disch:=try exact DI) only [↓PR,QR,simprocAttr,hc0,hsub,hlast,hxd,Nat.mul_one,Nat.zero_add]
  unfold SY
  refine Cu Tryz.underlying78 AE g off (Q.length+1) cap (by omega) hcap λ o' ho=>?_
  simp (disch:=try exact DI) only [↓PR,QR,simprocAttr,(Za (EW.obj o2)).1]
  refine Zt (j7 _ _ d x m ⟨_,rfl,hM.ext (e0.trans EW)⟩ hm hf (ht m (List.mem_of_getElem? hm)).1) ?_
  rintro rv w2 ⟨hT,e2⟩
  have s2:=e2.size
  simp only [List.length_cons] at hsum
  refine HK (q:=q'++[(x:Int)]) (Q:=Q) (f:=f) hf hx hl (by simp) (by omega) hT ((htail o' ho).ext e2) (hx0.ext e2) (hR1.ext e2) hBr (by omega) (by omega) ?_
  intro a3 w3 hQ3 hR3 hs3 hE3 hB3
  have E3:∀ X,Ext X W→X.heap.size≤B→Ext X w3:=λ X h1 h2=>hE3 X ((hE1 X h1 h2).trans e2) h2
  rw [Cj hf] at hR3 hs3
  refine ⟨⟨Q++X5 (q'++[(x:Int)]) (toP d.msgs x) f,_,hQ3,hR3,Nh hf hd hbf hxi,Fz hf f hsh,by omega,E3,hB3⟩,?_⟩
  rw [El hR3,El hR1]
  obtain ⟨xs,⟨_,_,_,_,rfl,_⟩,hxl,_⟩:=hQ3.row
  simp only [ZcH]
  omega
end
theorem jx (w0:World) (v:Value) (d:YF) (i:Int) (hd:Yv w0 v d) (ht:UN d):Ret Pg 24 #[v,.int .i64 i] w0 λ r w'=>(∃ u,r = .tuple #[u,.int .i64 (Az d i)]∧Yy w' w0.heap.size u (KU d i))∧Ext w0 w':=by
 obtain ⟨mv,rfl,hM⟩:=hd
 have hm1:=Ze.oneCell hM
 refine Ze4 (R:=ZQ _) ?_;unfold n97
 rw [Xk]
 have o1:=ZE w0 (Zz d mv).toArray 28
 have eW:Ext w0 (w0.alloc (.cells (Zz d mv).toArray 28)):=ee
 generalize (w0.alloc (.cells (Zz d mv).toArray 28))=W at o1 eW ⊢
 generalize hp1:w0.heap.size=p1 at o1 ⊢
 simp (disch:=try exact DI) only [↓PR,QR,simprocAttr,(Za o1).1]
 refine Zt (xd _ _ d ⟨_,rfl,hM.ext eW⟩ ht) ?_
 rintro r w1 ⟨hr,e1⟩
 have E1:=eW.trans e1
 have s1:=E1.size
 by_cases hc:(Yl d).2.2=0
 case neg =>
  simp only [hc,if_false] at hr
  subst hr
  have he:Az d i=2:=if_neg hc
  rw [he,show KU d i=[] by unfold KU;rw [he];rfl]
  unfold FN
  simp (disch:=try exact DI) only [↓PR,QR,simprocAttr]
  exact ⟨⟨_,rfl,Z5.nil _ _ _ _ _⟩,E1⟩
 simp only [hc,if_true] at hr
 obtain ⟨b,rfl,hb,hR⟩:=hr
 obtain ⟨hs,hany,hidx⟩:=Ge hc
 have hf:=(Xh hc).2.2.1
 have hl60:=(Xh hc).2.1.2
 have he1:Az d i=(if 0≤i∧i < d.msgs.length then (if Xp d.msgs (Yz d) i.toNat then 0 else 9) else 3):=if_pos hc
 unfold FN
 by_cases hin:0≤i∧i < d.msgs.length
 case neg =>
  have he:Az d i=3:=by rw [he1,if_neg hin]
  rw [he,show KU d i=[] by unfold KU;rw [he];rfl]
  cases h0:decide (i < 0) with
  | true =>
   simp (disch:=try exact DI) only [↓PR,QR,simprocAttr,↓CK,h0]
   exact ⟨⟨_,rfl,Z5.nil _ _ _ _ _⟩,E1⟩
  | false =>
   have h2:decide (i≥(d.msgs.length:Int))=true:=by simp at h0 ⊢;omega
   simp (disch:=try exact DI) only [↓PR,QR,simprocAttr,↓CK,h0,h2]
   exact ⟨⟨_,rfl,Z5.nil _ _ _ _ _⟩,E1⟩
 rw [if_pos hin] at he1
 obtain ⟨n,rfl⟩:∃ n:Nat,i=(n:Int):=⟨i.toNat,by omega⟩
 rw [Int.toNat_natCast] at he1
 have hn:n < d.msgs.length:=by omega
 have h0:decide ((n:Int) < 0)=false:=by simp
 have h2:decide ((n:Int)≥(d.msgs.length:Int))=false:=by simp;omega
 have c1:w1.cell? ⟨b,n,none⟩=some (.bool (Xp d.msgs (Yz d) n)):=hR.get (Q7 hn)
 simp (disch:=try exact DI) only [↓PR,QR,simprocAttr,↓CK,h0,h2]
 unfold Sq
 cases hrb:Xp d.msgs (Yz d) n with
 | false =>
  rw [hrb] at he1 c1
  have he:Az d n=9:=by rw [he1];rfl
  rw [he,show KU d n=[] by unfold KU;rw [he];rfl]
  simp (disch:=try exact DI) only [↓PR,QR,simprocAttr,c1,Nat.mul_one,Nat.zero_add]
  exact ⟨⟨_,rfl,Z5.nil _ _ _ _ _⟩,E1⟩
 | true =>
  rw [hrb] at he1 c1
  have he:Az d n=0:=by rw [he1];rfl
  rw [he,show KU d n=Em n d.msgs (Yz d) by unfold KU;rw [he];rfl]
  have hdn:=(F6 hf hs hn (by omega)).1 hrb
  simp (disch:=try exact DI) only [↓PR,QR,simprocAttr,c1,↓Ti,(Za (e1.obj o1)).1,Nat.mul_one,Nat.zero_add]
  refine zcr (j9 _ _ d d.start ⟨_,rfl,hM.ext E1⟩) λ w2 e2=>?_
  rw [hidx,hany]
  have E2:=E1.trans e2
  generalize Yz d=s at *
  have s2:=E2.size
  have o2:w2.heap[p1]?=some (.cells (Zz d mv).toArray 28 (0,0)):=(e1.trans e2).obj o1
  unfold SO
  simp (disch:=try exact DI) only [↓PR,QR,simprocAttr]
  rw [Uy d.msgs.length (by omega)]
  generalize hV:World.alloc (World.alloc w2 _) _=V
  have eV:Ext w2 V:=by rw [← hV];exact ee
  have sV:V.heap.size=w2.heap.size+2:=by rw [← hV];simp only [World.size_alloc]
  have oA:V.heap[w2.heap.size]?=some (.cells #[.int .i64 (s:Int)] 3 (0,0)):=by rw [← hV];exact (Ext.alloc (Ext.refl _) _).obj (ZE w2 _ _)
  have oB:V.heap[w2.heap.size+1]?=some (.cells #[.slice (some ⟨w2.heap.size,0,none⟩) 1 1] TS (0,0)):=by rw [← hV,show w2.heap.size+1=(w2.alloc (.cells #[.int .i64 (s:Int)] 3)).heap.size by simp only [World.size_alloc]];exact ZE (w2.alloc _) _ _
  clear hV
  have eY:Ext V (V.alloc (.cells ((List.replicate d.msgs.length false).map λ x=>Value.bool x).toArray 4)):=ee
  have oR:Q1 (V.alloc (.cells ((List.replicate d.msgs.length false).map λ x=>Value.bool x).toArray 4)) V.heap.size (tab d.msgs.length λ _=>false):=by
   have:=ZE V ((List.replicate d.msgs.length false).map λ x=>Value.bool x).toArray 4
   rw [show tab d.msgs.length (λ _=>false)=List.replicate d.msgs.length false by unfold tab;rw [List.map_const'];simp]
   exact this
  generalize (V.alloc (.cells ((List.replicate d.msgs.length false).map λ x=>Value.bool x).toArray 4))=Y at eY oR ⊢
  have oA:=eY.obj oA
  have oB:=eY.obj oB
  have eX:=eV.trans eY
  have hRow:Yy Y w2.heap.size (.slice (some ⟨w2.heap.size,0,none⟩) 1 1) [(s:Int)]:=IZ ⟨rfl,.inr ⟨_,1,_,rfl,Nat.le_refl _,oA,Nat.le_refl _,by decide,rfl,rfl⟩⟩
  have hQ:QAt Y w2.heap.size (.slice (some ⟨w2.heap.size+1,0,none⟩) 1 1) [[(s:Int)]]:=⟨[.slice (some ⟨w2.heap.size,0,none⟩) 1 1],⟨_,0,1,_,rfl,by omega,oB,Nat.le_refl _,Nat.le_refl _,by decide,rfl⟩,rfl,λ k x q hx hq=>by
   cases k with
   | zero=>injection hx with hx;injection hq with hq;subst hx hq;exact hRow
   | succ k=>cases hx⟩
  rw [sV] at oR ⊢
  simp only [World.size_alloc]
  rw [joinK_eq]
  refine LT (mv:=mv) hM E2 ht hf hl60 hs hn hdn o2 (Nat.le_refl _) (by omega) (λ X e _=>e.trans eX) eX.size hQ oR ?_
  rintro _ w4 ⟨g,off,cap,m,x,rfl,hcap,hx,hXR⟩ e4
  have hidx0:∀ (QP:List PanicEntry→World→Prop) (K:Value→World→Prop),opV Pg (Instr.indexAt 78 (.slice (some ⟨g,off,none⟩) (m+1) cap) (.int .i64 0)) QP w4 K=K (.pointer (some ⟨g,off,none⟩)) w4:=λ QP K=>by simpa using YT (w:=w4) (QP:=QP) (k:=K) Tryz.underlying78 AE g off (m+1) cap .i64 0 (by omega)
  rw [hidx0]
  have hx1:=Ze.oneCell hXR.ints
  simp (disch:=try exact DI) only [↓PR,QR,simprocAttr,hx]
  exact ⟨⟨_,rfl,Z5.base hXR (by omega)⟩,E2.trans e4⟩
end Go.Proofs.YtfjjgjjlebllmaaGreat
namespace Go.Sw
open Go.ChangeShapes Go.WideShapes Go.RowKit Go.ChangeAt Go.Deep
theorem Is {α:Type} {p:Nat→α→Prop}:∀ (n:Nat),(∀ i,i < n→∃ x,p i x)→∃ l:List α,l.length=n∧∀ k x,l[k]?=some x→p k x
 | 0,_=>⟨[],rfl,λ k x h=>by simp at h⟩
 | n+1,h=>by
  obtain ⟨l,hl,hp⟩:=Is n (λ i hi=>h i (by omega))
  obtain ⟨x,hx⟩:=h n (by omega)
  refine ⟨l++[x],by simp [hl],λ k y hy=>?_⟩
  rw [List.getElem?_append] at hy
  split at hy
  · exact hp k y hy
  · have hk:k=n:=by
     have:=(List.getElem?_eq_some_iff.1 hy).1
     simp at this
     omega
    subst hk
    simp [hl] at hy
    subst hy
    exact hx
section
variable {H:Type} {enc:TypeId×Value→H} {P:Program} {w:World} {base:Nat} {spare:Nat→Bool} {held:Bool}
theorem KI {e:TypeId} {m:Nat} {d:DataW H}:∀ {l:List (DataW H)},d∈l→m∈d.weights P e→m∈DataW.weightsAll P e l
 | [],h,_=>by cases h
 | a::l,h,hm=>by
  rw [DataW.weightsAll,List.mem_append]
  rcases List.mem_cons.1 h with rfl | h
  · exact .inl hm
  · exact .inr (KI h hm)
def QD (P:Program) (t:TypeId) (d:DataW H):Prop:=∀ m∈d.weights P t,m≤reachBytes
theorem Hf {ts:List TypeId} {ds:List (DataW H)} (h:(DataW.weightsEach P ts ds).all (· ≤ reachBytes)=true) {j:Nat} {t:TypeId} {d:DataW H} (ht:ts[j]?=some t) (hd:ds[j]?=some d):QD P t d:=λ m hm=>by
 have:=List.all_eq_true.1 h _ (DataW.weights_mem_each ht hd m hm)
 simpa using this
theorem WQ {α:Type} {E:World→List Value→α→Prop} {Q:α→Prop} {t e:TypeId} {n fuel:Nat} {cs:List Value} {x:DataW H×List MemPlace} (ht:P.underlying t=some (.slice e)) (hn:P.cellsOf e=n) (hb1:1≤P.bytesOf e) (h0:0 < n)
 (hE:∀ m cs' y,DataW.trod enc P w base spare held m e cs'=some y→QD P e y.1→∃ x,E w cs' x∧Q x) (h:DataW.trod enc P w base spare held fuel t cs=some x) (hr:QD P t x.1):∃ v l,cs=[v]∧Ze w n E v l∧(∀ x∈l,Q x)∧l.length≤140737488355328:=by
 rcases open_slice ht h with ⟨rfl,_⟩ | ⟨a,len,cap,m,k,D,Pl,rfl,hb,hl,hm,hmm,hx,hel⟩
 · exact ⟨_,[],rfl,Ze.nil _ _ _,λ x hx=>by (cases hx),Nat.zero_le _⟩
 · have hlm:len≤m:=by rw [hmm];split<;>omega
   subst hx
   have hw0:=hr ((len+(m - len))*P.bytesOf e) (by simp only [DataW.weights,ht];simp)
   have hlen:len≤140737488355328:=by
    have:len*1≤(len+(m - len))*P.bytesOf e:=Nat.mul_le_mul (by omega) hb1
    simp only [reachBytes] at hw0
    omega
   have hD:∀ i,i < len→QD P e (D i):=λ i hi q hq=>hr q (by
    simp only [DataW.weights,ht,List.mem_cons,List.mem_append]
    exact .inr (.inl (KI (List.mem_map.2 ⟨i,List.mem_range.2 hi,rfl⟩) hq)))
   obtain ⟨l,hll,hp⟩:=Is (p:=λ i (x:α)=>∃ cs',w.cells? base (a.add (i*n)) n=some cs'∧E w cs' x∧Q x) len (λ i hi=>by
    obtain ⟨cs',h1,h2⟩:=hel i (by omega)
    rw [hn] at h1
    obtain ⟨x,hx⟩:=hE _ _ _ h2 (hD i hi)
    exact ⟨x,cs',h1,hx⟩)
   refine ⟨_,l,rfl,⟨some a,cap,by rw [hll],by rw [hll];exact hl,by simp only [maxLen] at hm;omega,λ hne=>?_⟩,λ x hx=>?_,by omega⟩
   · obtain ⟨b,o,spot⟩:=a
     have hspot:spot=none:=by
      have:0 < l.length:=List.length_pos_iff.2 hne
      obtain ⟨y,hy⟩:=getElem?_lt this
      obtain ⟨cs',h1,_⟩:=hp 0 y hy
      obtain ⟨_,h2,h3⟩:=World.cells?_some h1
      have h4:=h3 0 h0
      rw [List.getElem?_eq_getElem (by omega)] at h4
      simpa [Addr.add] using World.cell?_spot h4
     subst hspot
     refine ⟨b,o,rfl,λ k x hx=>?_⟩
     obtain ⟨cs',h1,h2,_⟩:=hp k x hx
     obtain ⟨_,h3,h4⟩:=World.cells?_some h1
     refine ⟨cs',h3,λ j v hv=>?_,h2⟩
     have h5:=h4 j (by have:=(List.getElem?_eq_some_iff.1 hv).1;omega)
     rw [hv] at h5
     simpa [Addr.add_lit] using h5
   · obtain ⟨k,hk⟩:=List.getElem?_of_mem hx
     obtain ⟨_,_,_,hq⟩:=hp k x hk
     exact hq
theorem XZ {fs:Array Field} {t:TypeId} {n fuel:Nat} {cs:List Value} {x:DataW H×List MemPlace} (ht:P.underlying t=some (.struct fs)) (hn:P.cellsOf t=n) (h:DataW.trod enc P w base spare held fuel t cs=some x) (hr:QD P t x.1) :
 cs.length=n∧∃ m,∀ (i:Nat) (ty off k:Nat),(fs[i]?).map (λ f=>(f.type,f.offset))=some (ty,off)→P.cellsOf ty=k→∃ y,DataW.trod enc P w base spare held m ty ((cs.drop off).take k)=some y∧QD P ty y.1:=by
 obtain ⟨xs,m,_,rfl,hl,hlen,hf⟩:=DataW.trod_struct ht h
 refine ⟨hl.trans hn,m,λ i ty off k hi hk=>?_⟩
 obtain ⟨f,hfi,he⟩:=Option.map_eq_some_iff.1 hi
 injection he with h1 h2
 subst h1 h2 hk
 have hil:i < xs.length:=by rw [hlen];exact (Array.getElem?_eq_some_iff.1 hfi).1
 refine ⟨xs[i],(hf i f hfi).trans (List.getElem?_eq_getElem hil),λ q hq=>hr q ?_⟩
 simp only [DataW.weights,ht]
 refine DataW.weights_mem_each (j:=i) (t:=f.type) (d:=xs[i].1) ?_ ?_ q hq
 · rw [List.getElem?_map,Array.getElem?_toList,hfi];rfl
 · rw [List.getElem?_map,List.getElem?_eq_getElem hil];rfl
theorem JM (hl:laidOutB P=true) {W W':World} (he:Ext W W'):∀ {ts:List TypeId} {vs:List Value} {ds:List (DataW H)} {ps:List MemPlace},(∀ t∈ts,P.readableRec t=true∧t < P.types.size)→(∀ x∈ps,x.block < W.heap.size) →
 DataW.TrodAll enc P W 0 (λ _=>true) true ts vs ds ps→DataW.TrodAll enc P W' 0 (λ b=>decide (b < W.heap.size)) true ts vs ds ps
 | [],_,_,_,_,_,h=>by obtain ⟨rfl,rfl,rfl⟩:=trodAll_nil h;exact trodAll_mk0
 | t::ts,_,_,_,hr,hlt,h=>by
  obtain ⟨v,vs1,d,ds1,a,b,rfl,rfl,rfl,h1,h2⟩:=trodAll_cons h
  refine ⟨a,b,?_,JM hl he (λ t ht=>hr t (List.mem_cons_of_mem _ ht)) (λ x hx=>hlt x (List.mem_append_right _ hx)) h2,rfl⟩
  exact Below.trod hl (hr t (List.mem_cons_self ..)).1 (hr t (List.mem_cons_self ..)).2 h1 ⟨he.os,he.tape,he.output,he.size,he.block⟩ (λ x hx=>hlt x (List.mem_append_left _ hx))
theorem NT {f:Func} {s:ChangeSpec} {W W':World} {args:Array Value} {ds gs:List (DataW H)} {before:List MemPlace} {tb:TypeId} (hl:laidOutB P=true) (hr:∀ t∈f.params.toList,P.readableRec t=true∧t < P.types.size) (hs:s.vars=[])
 (hW:DataW.Whole enc P f.params.toList s.vars false W args.toList ds gs before) (he:Ext W W') (hres:f.resultTypes = #[tb]) (htb:P.underlying tb=some .bool) (hfn:(s.fn H ds).results=[.lit (.bool true)]) (hargs:(s.fn H ds).args=ds) (hvars:(s.fn H ds).vars=[]) :
 s.post enc P f false true false false W args (.bool true) W':=by
 have hW':=hW
 obtain ⟨p,q,hA,hV,rfl,_,_⟩:=hW
 rw [hs] at hV
 obtain ⟨rfl,rfl⟩:=trodVars_none hV
 have hlt:∀ x∈p,x.block < W.heap.size:=λ x hx=>hW'.lt x (by simpa using hx)
 rw [List.append_nil] at hW'
 refine ⟨ds,[],p,[],p,[],hW',?_,?_,?_,Below.frame ⟨he.os,he.tape,he.output,he.size,he.block⟩ _,λ h=>by cases h⟩
 · rw [List.append_nil,hfn,hres]
   exact trodAll_mk1 (shut_bool htb _)
 · rw [List.append_nil,hargs]
   exact JM hl he hr hlt hA
 · rw [List.append_nil,hvars,hs]
   exact rfl
end
end Go.Sw
namespace Go.Proofs.YtfjjgjjlebllmaaGreat
open Sw
open Go.ChangeShapes Go.WideShapes Go.RowKit Go.ChangeAt Go.Deep
theorem AV:Pg.cellsOf 62=2:=by kernel_rfl
theorem Bl:Pg.cellsOf 60=3:=by kernel_rfl
theorem Bj:Pg.cellsOf 45=2:=by kernel_rfl
theorem ql:Pg.cellsOf 48=15:=by kernel_rfl
theorem GA:Pg.cellsOf 24=2:=by kernel_rfl
theorem xN:Pg.cellsOf 28=3:=by kernel_rfl
theorem XM:Pg.cellsOf 9=1:=by kernel_rfl
theorem Wr:Pg.cellsOf 3=1:=by kernel_rfl
theorem Bi:Pg.cellsOf 4=1:=by kernel_rfl
theorem Ma:Pg.cellsOf 42=1:=by kernel_rfl
theorem FK:Pg.cellsOf 43=1:=by kernel_rfl
theorem Hi:Pg.cellsOf 46=1:=by kernel_rfl
theorem Dj:Pg.cellsOf 22=1:=by kernel_rfl
theorem LP:1≤Pg.bytesOf 62:=Nat.le_of_ble_eq_true (by kernel_rfl)
theorem Mq:1≤Pg.bytesOf 60:=Nat.le_of_ble_eq_true (by kernel_rfl)
theorem FB:1≤Pg.bytesOf 48:=Nat.le_of_ble_eq_true (by kernel_rfl)
theorem B4:1≤Pg.bytesOf 24:=Nat.le_of_ble_eq_true (by kernel_rfl)
def Cr (f:Zm):Prop:=f.terms.length≤140737488355328∧f.cases.length≤140737488355328∧∀ c∈f.cases,c.of.size≤140737488355328
def NN (m:ZD):Prop:=m.fields.length≤140737488355328∧∀ f∈m.fields,Cr f
def Eq (d:YF):Prop:=d.msgs.length≤140737488355328∧∀ m∈d.msgs,NN m
theorem Av:Pg.cellsOf 26=1:=by kernel_rfl
section
variable {H:Type} {enc:TypeId×Value→H} {w:World} {base:Nat} {spare:Nat→Bool} {held:Bool}
theorem RD {m:Nat} {cs:List Value} {y:DataW H×List MemPlace} (h:DataW.trod enc Pg w base spare held m 62 cs=some y) (hr:QD Pg 62 y.1):∃ x,G8 w cs x:=by
 obtain ⟨hl,n,hf⟩:=XZ Tryz.underlying62 AV h hr
 obtain ⟨y0,h0,r0⟩:=hf 0 9 0 1 rfl XM
 obtain ⟨y1,h1,r1⟩:=hf 1 3 1 1 rfl Wr
 match cs,hl with
 | [c0,c1],_ =>
  obtain ⟨s,e0,_⟩:=DataW.trod_string Tryz.underlying9 h0
  obtain ⟨k,e1,_⟩:=DataW.trod_int Tryz.underlying3 h1
  simp at e0 e1
  subst e0 e1
  exact ⟨⟨s,k⟩,rfl⟩
theorem Rv {m:Nat} {cs:List Value} {y:DataW H×List MemPlace} (h:DataW.trod enc Pg w base spare held m 60 cs=some y) (hr:QD Pg 60 y.1):∃ x,Ag w cs x∧x.of.size≤140737488355328:=by
 obtain ⟨hl,n,hf⟩:=XZ Tryz.underlying60 Bl h hr
 obtain ⟨y0,h0,r0⟩:=hf 0 3 0 1 rfl Wr
 obtain ⟨y1,h1,r1⟩:=hf 1 3 1 1 rfl Wr
 obtain ⟨y2,h2,r2⟩:=hf 2 9 2 1 rfl XM
 match cs,hl with
 | [c0,c1,c2],_ =>
  obtain ⟨a,e0,_⟩:=DataW.trod_int Tryz.underlying3 h0
  obtain ⟨b,e1,_⟩:=DataW.trod_int Tryz.underlying3 h1
  obtain ⟨s,e2,e3,_⟩:=DataW.trod_string Tryz.underlying9 h2
  simp at e0 e1 e2
  subst e0 e1 e2
  refine ⟨⟨a,b,s⟩,rfl,?_⟩
  have:=r2 s.data.toList.length (by rw [e3];exact List.mem_singleton.2 rfl)
  simp only [reachBytes] at this
  have h4:s.size=s.data.toList.length:=Array.length_toList.symm
  show s.size≤_
  omega
theorem Rt {m:Nat} {cs:List Value} {y:DataW H×List MemPlace} (h:DataW.trod enc Pg w base spare held m 45 cs=some y) (hr:QD Pg 45 y.1):∃ b tv ts,cs=[.int .i64 b,tv]∧ZW w tv ts∧ts.length≤140737488355328:=by
 obtain ⟨hl,n,hf⟩:=XZ Tryz.underlying45 Bj h hr
 obtain ⟨y0,h0,r0⟩:=hf 0 3 0 1 rfl Wr
 obtain ⟨y1,h1,r1⟩:=hf 1 43 1 1 rfl FK
 match cs,hl with
 | [c0,c1],_ =>
  obtain ⟨a,e0,_⟩:=DataW.trod_int Tryz.underlying3 h0
  obtain ⟨v,l,e1,hS,_,hL⟩:=WQ (E:=G8) (Q:=λ _=>True) Tryz.underlying43 AV LP (by decide) (λ _ _ _ h hr=>let ⟨x,hx⟩:=RD h hr; ⟨x,hx,trivial⟩) h1 r1
  simp at e0 e1
  subst e0 e1
  exact ⟨a,_,l,rfl,hS,hL⟩
theorem Nv {m:Nat} {cs:List Value} {y:DataW H×List MemPlace} (h:DataW.trod enc Pg w base spare held m 48 cs=some y) (hr:QD Pg 48 y.1):∃ x,W6 w cs x∧Cr x:=by
 obtain ⟨hl,n,hf⟩:=XZ Tryz.underlying48 ql h hr
 obtain ⟨y0,h0,r0⟩:=hf 0 9 0 1 rfl XM
 obtain ⟨y1,h1,r1⟩:=hf 1 42 1 1 rfl Ma
 obtain ⟨y2,h2,r2⟩:=hf 2 3 2 1 rfl Wr
 obtain ⟨y3,h3,r3⟩:=hf 3 4 3 1 rfl Bi
 obtain ⟨y4,h4,r4⟩:=hf 4 4 4 1 rfl Bi
 obtain ⟨y5,h5,r5⟩:=hf 5 3 5 1 rfl Wr
 obtain ⟨y6,h6,r6⟩:=hf 6 3 6 1 rfl Wr
 obtain ⟨y7,h7,r7⟩:=hf 7 45 7 2 rfl Bj
 obtain ⟨y8,h8,r8⟩:=hf 8 9 9 1 rfl XM
 obtain ⟨y9,h9,r9⟩:=hf 9 9 10 1 rfl XM
 obtain ⟨y10,h10,r10⟩:=hf 10 9 11 1 rfl XM
 obtain ⟨y11,h11,r11⟩:=hf 11 46 12 1 rfl Hi
 obtain ⟨y12,h12,r12⟩:=hf 12 3 13 1 rfl Wr
 obtain ⟨y13,h13,r13⟩:=hf 13 3 14 1 rfl Wr
 match cs,hl with
 | [c0,c1,c2,c3,c4,c5,c6,c7,c8,c9,c10,c11,c12,c13,c14],_ =>
  obtain ⟨x0,e0,_⟩:=DataW.trod_string Tryz.underlying9 h0
  obtain ⟨x1,e1,_⟩:=DataW.trod_int Tryz.underlying42 h1
  obtain ⟨x2,e2,_⟩:=DataW.trod_int Tryz.underlying3 h2
  obtain ⟨x3,e3,_⟩:=DataW.trod_bool Tryz.underlying4 h3
  obtain ⟨x4,e4,_⟩:=DataW.trod_bool Tryz.underlying4 h4
  obtain ⟨x5,e5,_⟩:=DataW.trod_int Tryz.underlying3 h5
  obtain ⟨x6,e6,_⟩:=DataW.trod_int Tryz.underlying3 h6
  obtain ⟨x7,tv,ts,e7,hT,hTl⟩:=Rt h7 r7
  obtain ⟨x9,e9,_⟩:=DataW.trod_string Tryz.underlying9 h8
  obtain ⟨x10,e10,_⟩:=DataW.trod_string Tryz.underlying9 h9
  obtain ⟨x11,e11,_⟩:=DataW.trod_string Tryz.underlying9 h10
  obtain ⟨cv,l,e12,hC,hCq,hCl⟩:=WQ (E:=Ag) (Q:=λ c=>c.of.size≤140737488355328) Tryz.underlying46 Bl Mq (by decide) (λ _ _ _ h hr=>Rv h hr) h11 r11
  obtain ⟨x13,e13,_⟩:=DataW.trod_int Tryz.underlying3 h12
  obtain ⟨x14,e14,_⟩:=DataW.trod_int Tryz.underlying3 h13
  simp at e0 e1 e2 e3 e4 e5 e6 e7 e9 e10 e11 e12 e13 e14
  obtain ⟨e7,e8⟩:=e7
  subst e0 e1 e2 e3 e4 e5 e6 e7 e8 e9 e10 e11 e12 e13 e14
  exact ⟨⟨x0,x1,x2,x3,x4,x5,x6,x7,ts,x9,x10,x11,l,x13,x14⟩,⟨_,_,rfl,hT,hC⟩,hTl,hCl,hCq⟩
theorem TO {m:Nat} {cs:List Value} {y:DataW H×List MemPlace} (h:DataW.trod enc Pg w base spare held m 24 cs=some y) (hr:QD Pg 24 y.1):∃ x,GZ w cs x∧NN x:=by
 obtain ⟨hl,n,hf⟩:=XZ Tryz.underlying24 GA h hr
 obtain ⟨y0,h0,r0⟩:=hf 0 9 0 1 rfl XM
 obtain ⟨y1,h1,r1⟩:=hf 1 22 1 1 rfl Dj
 match cs,hl with
 | [c0,c1],_ =>
  obtain ⟨a,e0,_⟩:=DataW.trod_string Tryz.underlying9 h0
  obtain ⟨v,l,e1,hS,hQ,hL⟩:=WQ (E:=W6) (Q:=Cr) Tryz.underlying22 ql FB (by decide) (λ _ _ _ h hr=>Nv h hr) h1 r1
  simp at e0 e1
  subst e0 e1
  exact ⟨⟨a,l⟩,⟨_,rfl,hS⟩,hL,hQ⟩
theorem Zaf {m:Nat} {cs:List Value} {y:DataW H×List MemPlace} (h:DataW.trod enc Pg w base spare held m 28 cs=some y) (hr:QD Pg 28 y.1):∃ d mv,cs=Zz d mv∧Q0 w mv d.msgs∧Eq d:=by
 obtain ⟨hl,n,hf⟩:=XZ Tryz.underlying28 xN h hr
 obtain ⟨y0,h0,r0⟩:=hf 0 9 0 1 rfl XM
 obtain ⟨y1,h1,r1⟩:=hf 1 26 1 1 rfl Av
 obtain ⟨y2,h2,r2⟩:=hf 2 9 2 1 rfl XM
 match cs,hl with
 | [c0,c1,c2],_ =>
  obtain ⟨a,e0,_⟩:=DataW.trod_string Tryz.underlying9 h0
  obtain ⟨v,l,e1,hS,hQ,hL⟩:=WQ (E:=GZ) (Q:=NN) Tryz.underlying26 GA B4 (by decide) (λ _ _ _ h hr=>TO h hr) h1 r1
  obtain ⟨b,e2,_⟩:=DataW.trod_string Tryz.underlying9 h2
  simp at e0 e1 e2
  subst e0 e1 e2
  exact ⟨⟨a,l,b⟩,_,rfl,hS,hL,hQ⟩
theorem Rm {r:Reach} {b0:Nat} {v:Value} {d:DataW H} {ps:List MemPlace} (hval:Value.okWide Pg w r b0 28 v) (h:DataW.Trod enc Pg w base spare held 28 v d ps) (hr:QD Pg 28 d):∃ f,Yv w v f∧Eq f:=by
 obtain ⟨cs,rfl,_⟩:=okWide_struct Tryz.underlying28 hval
 obtain ⟨fuel,hf⟩:=h
 obtain ⟨f,tv,h1,h2,hs⟩:=Zaf hf hr
 exact ⟨f,⟨tv,congrArg Value.agg (by rw [← h1,ZH]),h2⟩,hs⟩
end
end Go.Proofs.YtfjjgjjlebllmaaGreat
namespace Go.Proofs.YtfjjgjjlebllmaaGreat
open Sw
def ZaS (t6 t23:Value) (next3:KV) (R:RT) (w:World):Prop :=
 X0 22 t23 t6 R w λ t38 w =>
 F0 48 t38 11 R w λ t39 w =>
 L0 46 t39 R w λ t40 w =>
 opV Pg (Builtin.len_ #[46] 3 #[t40]) (Zd R) w λ t41 w =>
 B0 .gtr 3 true t41 (.int .i64 50) R w λ t42 w =>
 Zq (λ (t51:Value) (w:World) =>
 Zu t42 (.bool true) t51 λ t52 =>
 Zr t52 (
 R (.returned (.bool false)) w) (
 B0 .add 3 true t6 (.int .i64 1) R w λ t35 w =>
 next3 t35 w)) λ K4 =>
 Zl t42 false (
 X0 22 t23 t6 R w λ t46 w =>
 F0 48 t46 7 R w λ t47 w =>
 F0 45 t47 1 R w λ t48 w =>
 L0 43 t48 R w λ t49 w =>
 opV Pg (Builtin.len_ #[43] 3 #[t49]) (Zd R) w λ t50 w =>
 B0 .gtr 3 true t50 (.int .i64 10) R w λ t51 w =>
 K4 t51 w) (
 K4 undef w)
def Zap (t4 t6 t23 t27:Value) (next1:KW) (next3:KV) (R:RT) (w:World):Prop :=
 opV Pg (Builtin.len_ #[22] 3 #[t23]) (Zd R) w λ t32 w =>
 B0 .lss 3 false t6 t32 R w λ t33 w =>
 Zr t33 (
 ZaS t6 t23 next3 R w) (
 B0 .add 3 true t4 (.int .i64 1) R w λ t17 w =>
 next1 t27 t17 w)
def Zaw (t1:Value) (R:RT) (w:World):Prop :=
 F0 28 t1 1 R w λ t53 w =>
 L0 26 t53 R w λ t54 w =>
 opV Pg (Builtin.len_ #[26] 3 #[t54]) (Zd R) w λ t55 w =>
 B0 .leq 3 true t55 (.int .i64 70) R w λ t56 w =>
 R (.returned t56) w
def ZbI (t1 t3 t4:Value) (next1:KW) (R:RT) (w:World):Prop :=
 F0 28 t1 1 R w λ t18 w =>
 L0 26 t18 R w λ t19 w =>
 X0 26 t19 t4 R w λ t21 w =>
 F0 24 t21 1 R w λ t22 w =>
 L0 22 t22 R w λ t23 w =>
 opV Pg (Builtin.len_ #[22] 3 #[t23]) (Zd R) w λ t26 w =>
 B0 .add 3 false t3 t26 R w λ t27 w =>
 B0 .gtr 3 true t27 (.int .i64 400) R w λ t29 w =>
 Zr t29 (
 R (.returned (.bool false)) w) (
 Yi (λ t6 w next3 =>
 Zap t4 t6 t23 t27 next1 next3 R w) (.int .i64 0) w)
def Zav (t1 t3 t4:Value) (next1:KW) (R:RT) (w:World):Prop :=
 F0 28 t1 1 R w λ t8 w =>
 L0 26 t8 R w λ t9 w =>
 opV Pg (Builtin.len_ #[26] 3 #[t9]) (Zd R) w λ t10 w =>
 B0 .lss 3 false t4 t10 R w λ t11 w =>
 Zq (λ (t14:Value) (w:World) =>
 Zu t11 t14 (.bool false) λ t15 =>
 Zr t15 (
 ZbI t1 t3 t4 next1 R w) (
 Zaw t1 R w)) λ K2 =>
 Zl t11 true (
 B0 .leq 3 true t4 (.int .i64 70) R w λ t14 w =>
 K2 t14 w) (
 K2 undef w)
def n8 (t0:Value) (R:RT) (w:World):Prop :=
 opV Pg (Instr.box 28 t0) (Zd R) w λ t1 w =>
 XP (λ t3 t4 w next1 =>
 Zav t1 t3 t4 next1 R w) (.int .i64 0) (.int .i64 0) w
set_option maxHeartbeats 40000000 in
theorem n8s {t0:Value} {R:RT} {w:World} (h:n8 t0 R w):Calls Pg 10 #[t0] w R:=by
 refine yD Tryz.func10 ?_
 refine zs<|zr<|yv h λ _ w h=>zm<|zn<|zk<|zs<|zr<|zm<|zn<|zk<|zs<|zs<|zr<|zm ?_
 refine zn<|zk<|Zj<|yl2 [2,3,4,5,6,7,8,9,10,11,12,13,14,15,16,17,18,19,20,21,22,23,24,25,26,27,28,29,30,31,32,33,34,35,36,37,38,39,40,41,42,43,44,45,46,47,48,49,50,51,52] 3 4 h λ σ w next h=>zs<|zs<|Zs<|yG 6<|zm<|yv h λ _ w h=>yv h λ _ w h=>yx h λ _ w h=>yb h λ _ w h=>zm<|zn ?_
 refine yg1 2 5 true [13,14] 14 h (λ _ T hT h=>?_) λ σ w h=>?_
 · refine zm<|yb h λ _ w h=>zn ?_
   exact zt hT h
 refine yG 1<|yp h λ _ h=>zn<|ZG<|zk<|yC h (λ h=>?_) λ h=>?_
 · refine Zh<|zk<|zs<|Zj<|zs<|zr<|yv h λ _ w h=>yv h λ _ w h=>zm<|yv h λ _ w h=>yv h λ _ w h=>yv h λ _ w h=>zm<|zn<|zk ?_
   refine zs<|zr<|zm<|zm<|yx h λ _ w h=>yb h λ _ w h=>zm<|zn<|zk<|zs<|zs<|zr<|zm<|yb h λ _ w h=>zn ?_
   refine zk<|yC h (λ h=>zs<|zr<|zm<|zn<|zk<|Zk<|Zb<|Zf<|Zb<|Zb<|Zf<|Zb<|Zi rfl rfl h) λ h=>Zh<|zk<|zs<|zr<|zm<|zn<|zk<|Zj<|yl1 [2,6,30,31,32,33,34,35,36,37,38,39,40,41,42,43,44,45,46,47,48,49,50,51,52] 6 h λ σ w next h=>zs<|zs<|zr ?_
   refine zm<|zm<|yx h λ _ w h=>yb h λ _ w h=>zn<|zk<|yC h (λ h=>?_) λ h=>?_
   · refine Zh<|zk<|zs<|Zj<|zs<|Zs<|yG 8<|zm<|zm<|yv h λ _ w h=>yv h λ _ w h=>yv h λ _ w h=>yx h λ _ w h=>yb h λ _ w h=>zm ?_
     refine zn<|yg1 8 7 false [44,45,46,47,48,49,50,51] 51 h (λ _ T hT h=>?_) λ σ w h=>?_
     · refine zm<|zm<|yv h λ _ w h=>yv h λ _ w h=>yv h λ _ w h=>yv h λ _ w h=>yx h λ _ w h=>yb h λ _ w h=>zn ?_
       exact zt hT h
     refine yG 1<|yp h λ _ h=>zn<|ZG<|zk<|yC h (λ h=>?_) λ h=>?_
     · refine zs<|zr<|zm<|zn<|zk<|Zk<|Zf<|Zb<|Zb<|Zf<|Zf<|Zb<|Zb<|Zf<|Zb ?_
       exact Zi rfl rfl h
     exact Zh<|Zg<|zk<|zr<|zm<|yb h λ _ w h=>zm<|zn<|zk<|⟨rfl,h⟩
   exact Zy<|Zc<|Zc<|Zn<|Zg<|zk<|zr<|zm<|yb h λ _ w h=>zm<|zn<|zk<|⟨rfl,h⟩
 refine Zy<|Zc<|Zc<|Zn<|zk<|zs<|zr<|yv h λ _ w h=>yv h λ _ w h=>yx h λ _ w h=>yb h λ _ w h=>zm<|zn<|zk<|Zk ?_
 exact Zi rfl rfl h
def SU (t35 t45 t48:Value) (next1:KV) (R:RT) (w:World):Prop :=
 opV Pg (Op.unary .not t48) (Zd R) w λ t49 w =>
 Zq (λ (t52:Value) (w:World) =>
 Zu t49 (.bool true) t52 λ t53 =>
 Zr t53 (
 R (.returned (.bool false)) w) (
 B0 .add 3 true t35 (.int .i64 1) R w λ t54 w =>
 next1 t54 w)) λ K2 =>
 Zl t49 false (
 B0 .neq 31 true t45 (.int .i64 0) R w λ t52 w =>
 K2 t52 w) (
 K2 undef w)
def So (t35 t39 t43:Value) (next1:KV) (R:RT) (w:World):Prop :=
 opV Pg (Instr.extract t43 0) (Zd R) w λ t44 w =>
 opV Pg (Instr.extract t43 1) (Zd R) w λ t45 w =>
 C0 14 #[t44,t39] R w λ t48 w =>
 SU t35 t45 t48 next1 R w
def Tc (t130 t160 t163:Value) (R:RT) (w:World):Prop :=
 Zu t160 t163 (.bool false) λ t164 =>
 Zq (λ (t167:Value) (w:World) =>
 Zu t164 t167 (.bool false) λ t168 =>
 R (.returned t168) w) λ K16 =>
 Zl t164 true (
 B0 .eql 31 true t130 (.int .i64 9) R w λ t167 w =>
 K16 t167 w) (
 K16 undef w)
def RZ (t125 t130 t156 t159:Value) (R:RT) (w:World):Prop :=
 Zu t156 t159 (.bool false) λ t160 =>
 Zq (λ (t163:Value) (w:World) =>
 Tc t130 t160 t163 R w) λ K15 =>
 Zl t160 true (
 B0 .eql 31 true t125 (.int .i64 0) R w λ t163 w =>
 K15 t163 w) (
 K15 undef w)
def Sv (t120 t125 t130 t152 t155:Value) (R:RT) (w:World):Prop :=
 Zu t152 t155 (.bool false) λ t156 =>
 Zq (λ (t159:Value) (w:World) =>
 RZ t125 t130 t156 t159 R w) λ K14 =>
 Zl t156 true (
 B0 .eql 31 true t120 (.int .i64 0) R w λ t159 w =>
 K14 t159 w) (
 K14 undef w)
def R0 (t115 t120 t125 t130 t148 t151:Value) (R:RT) (w:World):Prop :=
 Zu t148 t151 (.bool false) λ t152 =>
 Zq (λ (t155:Value) (w:World) =>
 Sv t120 t125 t130 t152 t155 R w) λ K13 =>
 Zl t152 true (
 B0 .eql 31 true t115 (.int .i64 0) R w λ t155 w =>
 K13 t155 w) (
 K13 undef w)
def ST (t110 t115 t120 t125 t130 t143 t147:Value) (R:RT) (w:World):Prop :=
 Zu t143 t147 (.bool false) λ t148 =>
 Zq (λ (t151:Value) (w:World) =>
 R0 t115 t120 t125 t130 t148 t151 R w) λ K12 =>
 Zl t148 true (
 B0 .eql 31 true t110 (.int .i64 0) R w λ t151 w =>
 K12 t151 w) (
 K12 undef w)
def R1 (t110 t115 t120 t124 t125 t130 t138 t142:Value) (R:RT) (w:World):Prop :=
 Zu t138 t142 (.bool false) λ t143 =>
 Zq (λ (t147:Value) (w:World) =>
 ST t110 t115 t120 t125 t130 t143 t147 R w) λ K11 =>
 Zl t143 true (
 opV Pg (Instr.buildSlice 30 2 #[(0,(.int .i64 2)),(1,(.int .i64 1))]) (Zd R) w λ t146 w =>
 C0 14 #[t124,t146] R w λ t147 w =>
 K11 t147 w) (
 K11 undef w)
def RS (t110 t115 t119 t120 t124 t125 t130 t133 t137:Value) (R:RT) (w:World):Prop :=
 Zu t133 t137 (.bool false) λ t138 =>
 Zq (λ (t142:Value) (w:World) =>
 R1 t110 t115 t120 t124 t125 t130 t138 t142 R w) λ K10 =>
 Zl t138 true (
 opV Pg (Instr.buildSlice 30 2 #[(0,(.int .i64 2)),(1,(.int .i64 0))]) (Zd R) w λ t141 w =>
 C0 14 #[t119,t141] R w λ t142 w =>
 K10 t142 w) (
 K10 undef w)
def NW (t110 t114 t115 t119 t120 t124 t125 t130 t133:Value) (R:RT) (w:World):Prop :=
 Zq (λ (t137:Value) (w:World) =>
 RS t110 t115 t119 t120 t124 t125 t130 t133 t137 R w) λ K9 =>
 Zl t133 true (
 opV Pg (Instr.buildSlice 30 1 #[(0,(.int .i64 3))]) (Zd R) w λ t136 w =>
 C0 14 #[t114,t136] R w λ t137 w =>
 K9 t137 w) (
 K9 undef w)
def MM (t109 t110 t114 t115 t119 t120 t124 t125 t128:Value) (R:RT) (w:World):Prop :=
 opV Pg (Instr.extract t128 0) (Zd R) w λ t129 w =>
 opV Pg (Instr.extract t128 1) (Zd R) w λ t130 w =>
 opV Pg (Instr.buildSlice 30 3 #[(0,(.int .i64 0)),(1,(.int .i64 1)),(2,(.int .i64 2))]) (Zd R) w λ t132 w =>
 C0 14 #[t109,t132] R w λ t133 w =>
 NW t110 t114 t115 t119 t120 t124 t125 t130 t133 R w
def Ou (t1 t109 t110 t114 t115 t119 t120 t123:Value) (R:RT) (w:World):Prop :=
 opV Pg (Instr.extract t123 0) (Zd R) w λ t124 w =>
 opV Pg (Instr.extract t123 1) (Zd R) w λ t125 w =>
 L0 28 t1 R w λ t127 w =>
 C0 24 #[t127,(.int .i64 3)] R w λ t128 w =>
 MM t109 t110 t114 t115 t119 t120 t124 t125 t128 R w
def Pp (t1 t109 t110 t114 t115 t118:Value) (R:RT) (w:World):Prop :=
 opV Pg (Instr.extract t118 0) (Zd R) w λ t119 w =>
 opV Pg (Instr.extract t118 1) (Zd R) w λ t120 w =>
 L0 28 t1 R w λ t122 w =>
 C0 24 #[t122,(.int .i64 1)] R w λ t123 w =>
 Ou t1 t109 t110 t114 t115 t119 t120 t123 R w
def Mz (t1 t109 t110 t113:Value) (R:RT) (w:World):Prop :=
 opV Pg (Instr.extract t113 0) (Zd R) w λ t114 w =>
 opV Pg (Instr.extract t113 1) (Zd R) w λ t115 w =>
 L0 28 t1 R w λ t117 w =>
 C0 24 #[t117,(.int .i64 0)] R w λ t118 w =>
 Pp t1 t109 t110 t114 t115 t118 R w
def OO (t1 t108:Value) (R:RT) (w:World):Prop :=
 opV Pg (Instr.extract t108 0) (Zd R) w λ t109 w =>
 opV Pg (Instr.extract t108 1) (Zd R) w λ t110 w =>
 L0 28 t1 R w λ t112 w =>
 C0 21 #[t112] R w λ t113 w =>
 Mz t1 t109 t110 t113 R w
def Po (t1 t96 t104:Value) (R:RT) (w:World):Prop :=
 Zu t96 (.bool true) t104 λ t105 =>
 Zr t105 (
 R (.returned (.bool false)) w) (
 L0 28 t1 R w λ t107 w =>
 C0 20 #[t107] R w λ t108 w =>
 OO t1 t108 R w)
def Nu (t1:Value) (K8:KV) (R:RT) (w:World):Prop :=
 F0 28 t1 1 R w λ t98 w =>
 L0 26 t98 R w λ t99 w =>
 opV Pg (Instr.indexAt 26 t99 (.int .i64 0)) (Zd R) w λ t100 w =>
 L0 24 t100 R w λ t101 w =>
 opV Pg (Instr.buildSlice 30 1 #[(0,(.int .i64 0))]) (Zd R) w λ t102 w =>
 C0 18 #[t101,(.int .i64 9),t102] R w λ t103 w =>
 opV Pg (Op.unary .not t103) (Zd R) w λ t104 w =>
 K8 t104 w
def Ph (t1 t91 t95:Value) (R:RT) (w:World):Prop :=
 Zu t91 (.bool true) t95 λ t96 =>
 Zq (λ (t104:Value) (w:World) =>
 Po t1 t96 t104 R w) λ K8 =>
 Zl t96 false (
 Nu t1 K8 R w) (
 K8 undef w)
def Ni (t1 t2 t87 t90:Value) (R:RT) (w:World):Prop :=
 Zu t87 (.bool true) t90 λ t91 =>
 Zq (λ (t95:Value) (w:World) =>
 Ph t1 t91 t95 R w) λ K7 =>
 Zl t91 false (
 L0 24 t2 R w λ t93 w =>
 C0 18 #[t93,(.int .i64 9),(Value.slice none 0 0)] R w λ t94 w =>
 opV Pg (Op.unary .not t94) (Zd R) w λ t95 w =>
 K7 t95 w) (
 K7 undef w)
def OI (t1 t2 t69 t83 t86:Value) (R:RT) (w:World):Prop :=
 Zu t83 (.bool true) t86 λ t87 =>
 Zq (λ (t90:Value) (w:World) =>
 Ni t1 t2 t87 t90 R w) λ K6 =>
 Zl t87 false (
 B0 .neq 31 true t69 (.int .i64 0) R w λ t90 w =>
 K6 t90 w) (
 K6 undef w)
def O6 (t1 t2 t64 t69 t77 t82:Value) (R:RT) (w:World):Prop :=
 Zu t77 (.bool true) t82 λ t83 =>
 Zq (λ (t86:Value) (w:World) =>
 OI t1 t2 t69 t83 t86 R w) λ K5 =>
 Zl t83 false (
 B0 .neq 31 true t64 (.int .i64 0) R w λ t86 w =>
 K5 t86 w) (
 K5 undef w)
def PJ (t1 t2 t64 t68 t69 t71 t76:Value) (R:RT) (w:World):Prop :=
 Zu t71 (.bool true) t76 λ t77 =>
 Zq (λ (t82:Value) (w:World) =>
 O6 t1 t2 t64 t69 t77 t82 R w) λ K4 =>
 Zl t77 false (
 opV Pg (Instr.buildSlice 30 1 #[(0,(.int .i64 4))]) (Zd R) w λ t80 w =>
 C0 14 #[t68,t80] R w λ t81 w =>
 opV Pg (Op.unary .not t81) (Zd R) w λ t82 w =>
 K4 t82 w) (
 K4 undef w)
def Pb (t1 t2 t59 t63 t64 t67:Value) (R:RT) (w:World):Prop :=
 opV Pg (Instr.extract t67 0) (Zd R) w λ t68 w =>
 opV Pg (Instr.extract t67 1) (Zd R) w λ t69 w =>
 B0 .neq 31 true t59 (.int .i64 3) R w λ t71 w =>
 Zq (λ (t76:Value) (w:World) =>
 PJ t1 t2 t64 t68 t69 t71 t76 R w) λ K3 =>
 Zl t71 false (
 opV Pg (Instr.buildSlice 30 1 #[(0,(.int .i64 2))]) (Zd R) w λ t74 w =>
 C0 14 #[t63,t74] R w λ t75 w =>
 opV Pg (Op.unary .not t75) (Zd R) w λ t76 w =>
 K3 t76 w) (
 K3 undef w)
def Nc (t1 t2 t59 t62:Value) (R:RT) (w:World):Prop :=
 opV Pg (Instr.extract t62 0) (Zd R) w λ t63 w =>
 opV Pg (Instr.extract t62 1) (Zd R) w λ t64 w =>
 L0 24 t2 R w λ t66 w =>
 C0 13 #[t66,(.int .i64 2)] R w λ t67 w =>
 Pb t1 t2 t59 t63 t64 t67 R w
def M7 (t1 t2 t57:Value) (R:RT) (w:World):Prop :=
 opV Pg (Instr.extract t57 0) (Zd R) w λ t58 w =>
 opV Pg (Instr.extract t57 1) (Zd R) w λ t59 w =>
 L0 24 t2 R w λ t61 w =>
 C0 13 #[t61,(.int .i64 0)] R w λ t62 w =>
 Nc t1 t2 t59 t62 R w
def O2 (t2 t33 t35:Value) (next1:KV) (R:RT) (w:World):Prop :=
 X0 78 t33 t35 R w λ t38 w =>
 L0 30 t38 R w λ t39 w =>
 L0 24 t2 R w λ t41 w =>
 C0 12 #[t41,t35] R w λ t43 w =>
 So t35 t39 t43 next1 R w
def Fk (t1 t2 t33 t34 t35:Value) (next1:KV) (R:RT) (w:World):Prop :=
 B0 .lss 3 false t35 t34 R w λ t36 w =>
 Zr t36 (
 O2 t2 t33 t35 next1 R w) (
 L0 24 t2 R w λ t56 w =>
 C0 12 #[t56,(.int .i64 5)] R w λ t57 w =>
 M7 t1 t2 t57 R w)
def NA (t23:Value) (R:RT) (w:World):Prop :=
 opV Pg (Instr.alloc 28 true (.tuple #[])) (Zd R) w λ t1 w =>
 opU Pg (Instr.storeAt 28 t1 t23) (Zd R) w λ w =>
 F0 28 t1 1 R w λ t24 w =>
 L0 26 t24 R w λ t25 w =>
 opV Pg (Instr.indexAt 26 t25 (.int .i64 2)) (Zd R) w λ t26 w =>
 L0 24 t26 R w λ t27 w =>
 opV Pg (Instr.alloc 24 true (.tuple #[])) (Zd R) w λ t2 w =>
 opU Pg (Instr.storeAt 24 t2 t27) (Zd R) w λ w =>
 opV Pg (Instr.buildSlice 30 0 #[]) (Zd R) w λ t28 w =>
 opV Pg (Instr.buildSlice 30 0 #[]) (Zd R) w λ t29 w =>
 opV Pg (Instr.buildSlice 30 1 #[(0,(.int .i64 0))]) (Zd R) w λ t30 w =>
 opV Pg (Instr.buildSlice 30 1 #[(0,(.int .i64 1))]) (Zd R) w λ t31 w =>
 opV Pg (Instr.buildSlice 30 1 #[(0,(.int .i64 2))]) (Zd R) w λ t32 w =>
 opV Pg (Instr.buildSlice 78 5 #[(0,t28),(1,t29),(2,t30),(3,t31),(4,t32)]) (Zd R) w λ t33 w =>
 opV Pg (Builtin.len_ #[78] 3 #[t33]) (Zd R) w λ t34 w =>
 Yi (λ t35 w next1 =>
 Fk t1 t2 t33 t34 t35 next1 R w) (.int .i64 0) w
def n11 (R:RT) (w:World):Prop :=
 C0 38 #[] R w λ t23 w =>
 NA t23 R w
set_option maxHeartbeats 40000000 in
theorem Zg4 {R:RT} {w:World} (h:n11 R w):Calls Pg 11 #[] w R:=by
 refine yD Tryz.func11 ?_
 refine zs<|zr<|zm<|zn<|zk<|zs<|zr<|yc h c38 λ _ w h=>yv h λ _ w h=>yu h λ w h=>zn<|zk<|zs<|zr<|yv h λ _ w h=>?_
 refine yv h λ _ w h=>yv h λ _ w h=>yv h λ _ w h=>yv h λ _ w h=>yu h λ w h=>zn<|zk<|zs<|zs<|zr<|yS h λ _ w h=>yS h λ _ w h=>yS h λ _ w h=>yS h λ _ w h=>yS h λ _ w h=>?_
 refine yS h λ _ w h=>yx h λ _ w h=>zm<|zn<|zk<|Zj<|yl1 [0,3,4,5,6,35,36,37,38,39,40,41,42,43,44,45,46,47,48,49,50,51,52,53,54] 35 h λ σ w next h=>zs<|zr<|yb h λ _ w h=>zn<|zk<|zs<|yC h (λ h=>?_) λ h=>?_
 · refine Zh<|zk<|zs<|Zj<|zs<|zr<|zm<|yv h λ _ w h=>yv h λ _ w h=>zm<|zm<|zn<|zk<|zs<|zr ?_
   refine yv h λ _ w h=>zm<|yc h c12 λ _ w h=>zm<|yv h λ _ w h=>yv h λ _ w h=>zm<|zm<|zn<|zk<|zs<|Zs<|yG 5<|zm<|zm ?_
   refine yc h c14 λ _ w h=>yv h λ _ w h=>zm<|zn<|yg1 2 4 false [51,52] 52 h (λ _ T hT h=>?_) λ σ w h=>?_
   · refine zm<|yb h λ _ w h=>zn ?_
     exact zt hT h
   refine yG 1<|yp h λ _ h=>zn<|ZG<|zk<|yC h (λ h=>zs<|zr<|zm<|zn<|zk<|Zk<|Zf<|Zb<|Zb<|Zf<|Zb<|Zi rfl rfl h) λ h=>Zh<|Zg<|zk<|zr<|yb h λ _ w h=>zm<|zn<|zk ?_
   exact ⟨rfl,h⟩
 refine Zy<|Zc<|Zc<|Zn<|zk<|zs<|zr<|yv h λ _ w h=>yc h c12 λ _ w h=>zm<|yv h λ _ w h=>yv h λ _ w h=>zm<|zm<|zn ?_
 refine zk<|zs<|zr<|yv h λ _ w h=>yc h c13 λ _ w h=>zm<|yv h λ _ w h=>yv h λ _ w h=>zm<|zm<|zn<|zk<|zs<|zr<|yv h λ _ w h=>?_
 refine yc h c13 λ _ w h=>zm<|yv h λ _ w h=>yv h λ _ w h=>zm<|zm<|zn<|zk<|zs<|zs<|Zs<|yG 3<|zm<|yb h λ _ w h=>zm ?_
 refine zn<|yg1 4 2 false [73,74,75,76] 76 h (λ _ T hT h=>?_) λ σ w h=>?_
 · refine zm<|yS h λ _ w h=>yc h c14 λ _ w h=>yv h λ _ w h=>zn ?_
   exact zt hT h
 refine yG 2<|yp h λ _ h=>zm<|zn<|yg1 4 8 false [79,80,81,82] 82 h (λ _ T hT h=>?_) λ σ w h=>?_
 · refine zm<|yS h λ _ w h=>yc h c14 λ _ w h=>yv h λ _ w h=>zn ?_
   exact zt hT h
 refine yG 2<|yp h λ _ h=>zm<|zn<|yg1 2 14 false [85,86] 86 h (λ _ T hT h=>?_) λ σ w h=>?_
 · refine zm<|yb h λ _ w h=>zn ?_
   exact zt hT h
 refine yG 2<|yp h λ _ h=>zm<|zn<|yg1 2 18 false [89,90] 90 h (λ _ T hT h=>?_) λ σ w h=>?_
 · refine zm<|yb h λ _ w h=>zn ?_
   exact zt hT h
 refine yG 2<|yp h λ _ h=>zm<|zn<|yg1 3 22 false [93,94,95] 95 h (λ _ T hT h=>?_) λ σ w h=>?_
 · refine yv h λ _ w h=>yc h c18 λ _ w h=>yv h λ _ w h=>zn ?_
   exact zt hT h
 refine yG 2<|yp h λ _ h=>zm<|zn<|yg1 7 27 false [98,99,100,101,102,103,104] 104 h (λ _ T hT h=>?_) λ σ w h=>?_
 · refine yv h λ _ w h=>yv h λ _ w h=>yv h λ _ w h=>yv h λ _ w h=>yS h λ _ w h=>yc h c18 λ _ w h=>yv h λ _ w h=>zn ?_
   exact zt hT h
 refine yG 1<|yp h λ _ h=>zn<|ZG<|zk<|yC h (λ h=>zs<|zr<|zm<|zn<|zk<|Zk<|Zb<|Zi rfl rfl h) λ h=>Zh<|zk<|zs<|zr<|yv h λ _ w h=>yc h c20 λ _ w h=>zm<|yv h λ _ w h=>?_
 refine yv h λ _ w h=>zm<|zm<|zn<|zk<|zs<|zr<|yv h λ _ w h=>yc h c21 λ _ w h=>zm<|yv h λ _ w h=>yv h λ _ w h=>zm<|zm<|zn ?_
 refine zk<|zs<|zr<|yv h λ _ w h=>yc h c24 λ _ w h=>zm<|yv h λ _ w h=>yv h λ _ w h=>zm<|zm<|zn<|zk<|zs<|zr<|yv h λ _ w h=>?_
 refine yc h c24 λ _ w h=>zm<|yv h λ _ w h=>yv h λ _ w h=>zm<|zm<|zn<|zk<|zs<|zr<|yv h λ _ w h=>yc h c24 λ _ w h=>zm<|yv h λ _ w h=>yv h λ _ w h=>?_
 refine zm<|zm<|zn<|zk<|zs<|Zs<|yG 4<|zm<|yS h λ _ w h=>yc h c14 λ _ w h=>zm<|zn<|yg1 3 3 true [135,136,137] 137 h (λ _ T hT h=>?_) λ σ w h=>?_
 · refine zm<|yS h λ _ w h=>yc h c14 λ _ w h=>zn ?_
   exact zt hT h
 refine yG 2<|yp h λ _ h=>zm<|zn<|yg1 3 8 true [140,141,142] 142 h (λ _ T hT h=>?_) λ σ w h=>?_
 · refine zm<|yS h λ _ w h=>yc h c14 λ _ w h=>zn ?_
   exact zt hT h
 refine yG 2<|yp h λ _ h=>zm<|zn<|yg1 3 13 true [145,146,147] 147 h (λ _ T hT h=>?_) λ σ w h=>?_
 · refine zm<|yS h λ _ w h=>yc h c14 λ _ w h=>zn ?_
   exact zt hT h
 refine yG 2<|yp h λ _ h=>zm<|zn<|yg1 2 18 true [150,151] 151 h (λ _ T hT h=>?_) λ σ w h=>?_
 · refine zm<|yb h λ _ w h=>zn ?_
   exact zt hT h
 refine yG 2<|yp h λ _ h=>zm<|zn<|yg1 2 22 true [154,155] 155 h (λ _ T hT h=>?_) λ σ w h=>?_
 · refine zm<|yb h λ _ w h=>zn ?_
   exact zt hT h
 refine yG 2<|yp h λ _ h=>zm<|zn<|yg1 2 26 true [158,159] 159 h (λ _ T hT h=>?_) λ σ w h=>?_
 · refine zm<|yb h λ _ w h=>zn ?_
   exact zt hT h
 refine yG 2<|yp h λ _ h=>zm<|zn<|yg1 2 30 true [162,163] 163 h (λ _ T hT h=>?_) λ σ w h=>?_
 · refine zm<|yb h λ _ w h=>zn ?_
   exact zt hT h
 refine yG 2<|yp h λ _ h=>zm<|zn<|yg1 2 34 true [166,167] 167 h (λ _ T hT h=>?_) λ σ w h=>?_
 · refine zm<|yb h λ _ w h=>zn ?_
   exact zt hT h
 exact yG 2<|yp h λ _ h=>zm<|zn<|ZG<|zk<|Zk<|Zi rfl rfl h
def OC (t1 t2 t8:Value) (R:RT) (w:World):Prop :=
 opV Pg (Op.unary .not t8) (Zd R) w λ t9 w =>
 Zr t9 (
 R (.returned (.tuple #[(Value.slice none 0 0),(.int .i64 3)])) w) (
 L0 24 t2 R w λ t10 w =>
 C0 40 #[t10,t1] R w λ t12 w =>
 R (.returned (.tuple #[t12,(.int .i64 0)])) w)
def Zcw (t0 t1:Value) (R:RT) (w:World):Prop :=
 opV Pg (Instr.box 24 t0) (Zd R) w λ t2 w =>
 L0 24 t2 R w λ t6 w =>
 C0 39 #[t6,t1] R w λ t8 w =>
 OC t1 t2 t8 R w
theorem Zby {t0 t1:Value} {R:RT} {w:World} (h:Zcw t0 t1 R w):Calls Pg 12 #[t0,t1] w R:=by
 refine yD Tryz.func12 ?_
 refine zs<|zr<|yv h λ _ w h=>zm<|zm<|zn<|zk<|zs<|zs<|zr<|yv h λ _ w h=>zm<|yc h c39 λ _ w h=>yv h λ _ w h=>zn ?_
 refine zk<|yC h (λ h=>zs<|zr<|zm<|zm<|zn<|zk<|Zk<|Zb<|Yx rfl rfl rfl h) λ h=>Zh<|zk<|zs<|zr<|yv h λ _ w h=>zm<|yc h c40 λ _ w h=>zm<|zm<|zn<|zk<|Zk ?_
 exact Yx rfl rfl rfl h
def Oo (t2 t3:Value) (R:RT) (w:World):Prop :=
 F0 24 t2 1 R w λ t10 w =>
 L0 22 t10 R w λ t11 w =>
 opV Pg (Instr.makeFunc (.func 42) #[] #[t2,t3]) (Zd R) w λ t12 w =>
 C0 41 #[t11,t12] R w λ t13 w =>
 R (.returned (.tuple #[t13,(.int .i64 0)])) w
def Zc2 (t0 t1:Value) (R:RT) (w:World):Prop :=
 opV Pg (Instr.box 24 t0) (Zd R) w λ t2 w =>
 opV Pg (Instr.box 3 t1) (Zd R) w λ t3 w =>
 L0 24 t2 R w λ t6 w =>
 L0 3 t3 R w λ t7 w =>
 C0 39 #[t6,t7] R w λ t8 w =>
 opV Pg (Op.unary .not t8) (Zd R) w λ t9 w =>
 Zr t9 (
 R (.returned (.tuple #[(Value.slice none 0 0),(.int .i64 3)])) w) (
 Oo t2 t3 R w)
theorem Zbz {t0 t1:Value} {R:RT} {w:World} (h:Zc2 t0 t1 R w):Calls Pg 13 #[t0,t1] w R:=by
 refine yD Tryz.func13 ?_
 refine zs<|zr<|yv h λ _ w h=>yv h λ _ w h=>zm<|zm<|zn<|zk<|zs<|zs<|zr<|yv h λ _ w h=>yv h λ _ w h=>yc h c39 λ _ w h=>yv h λ _ w h=>?_
 refine zn<|zk<|yC h (λ h=>zs<|zr<|zm<|zm<|zn<|zk<|Zk<|Zb<|Yx rfl rfl rfl h) λ h=>Zh<|zk<|zs<|zr<|yv h λ _ w h=>yv h λ _ w h=>yF h λ _ w h=>yc h c41 λ _ w h=>zm<|zm<|zn ?_
 exact zk<|Zk<|Yx rfl rfl rfl h
open Go.RowKit (intOf Below)
def Gx (l:List ZD):Nat:=(l.map λ m=>m.fields.length).sum
def okF (f:Zm):Prop:=f.cases.length≤50∧f.terms.length≤10
def Ii (d:YF):Prop:=d.msgs.length≤70∧Gx d.msgs≤400∧∀ m∈d.msgs,∀ f∈m.fields,okF f
theorem Lu {l:List ZD} {k:Nat} {x:ZD} (hx:l[k]?=some x):Gx (l.take (k+1))=Gx (l.take k)+x.fields.length:=by
 rw [ZU hx];simp [Gx]
theorem CF {l:List ZD} {m:ZD} (h:m∈l):m.fields.length≤Gx l:=by
 unfold Gx
 induction l with
 | nil=>cases h
 | cons a l ih =>
  rcases List.mem_cons.1 h with rfl | h
  · simp
  · have:=ih h;simp at this ⊢;omega
theorem xu {α:Type} {p:α→Prop} {l:List α} {k:Nat} {x:α} (h:∀ y∈l.take k,p y) (hx:l[k]?=some x) (hp:p x):∀ y∈l.take (k+1),p y:=by
 rw [ZU hx]
 intro y hy
 rcases List.mem_append.1 hy with hy | hy
 · exact h y hy
 · simp only [List.mem_singleton] at hy;subst hy;exact hp
theorem Np (w0:World) (v:Value) (d:YF) (hd:Yv w0 v d) (hs:Eq d):Ret Pg 10 #[v] w0 λ r w'=>∃ b,r = .bool b∧(b=true→Ii d)∧Ext w0 w':=by
 obtain ⟨mv,rfl,hM⟩:=hd
 obtain ⟨A,c,rfl,hlc,hcm,hlm,hel⟩:=Ze.open hM
 refine n8s (R:=ZQ _) ?_;unfold n8
 simp (disch:=try exact DI) only [↓PR,QR,simprocAttr]
 have hBW:=ZS.new (w:=w0) (Zz d (.slice A d.msgs.length c)) (28)
 have eW:Ext w0 (w0.alloc (Obj.cells (List.toArray (Zz d (.slice A d.msgs.length c))) (28))):=(Ext.refl _).alloc _
 generalize (w0.alloc (Obj.cells (List.toArray (Zz d (.slice A d.msgs.length c))) (28)))=W at hBW eW ⊢
 refine Ye (λ a0 a1 w=>∃ (k:Nat) , a0 = .int .i64 (Gx (d.msgs.take k):Nat)∧a1 = .int .i64 (k:Int)∧k≤d.msgs.length∧Ext W w∧Gx (d.msgs.take k)≤400∧∀ m∈d.msgs.take k,∀ f∈m.fields,okF f) (λ a0 a1 _=>d.msgs.length - (intOf a1).toNat) ⟨0,rfl,rfl,Nat.zero_le _,ee,⟨by simp [Gx],by simp⟩⟩ ?_
 rintro _ _ w ⟨k,rfl,rfl,hk,e,hI⟩
 have se:=e.size
 rcases ZB hk with ⟨x,hx,hd,hlt,hdec⟩ | ⟨hk,hd,hdec⟩
 · obtain ⟨h400,hok⟩:=hI
   obtain ⟨b,o,cs,rfl,hl,hA,fv,rfl,hF⟩:=hel k x hx
   obtain ⟨A2,c2,rfl,hlc2,hcm2,hlm2,hel2⟩:=Ze.open hF
   have hxm:=List.mem_of_getElem? hx
   have hsx:=hs.2 x hxm
   have hx1:=hsx.1
   have e':=eW.trans e
   unfold Zav
   by_cases hk70:k≤70
   · have d1:decide ((k:Int)≤70)=true:=by simp;omega
     simp (disch:=try exact DI) only [↓PR,QR,simprocAttr,hBW.c3,hdec,d1]
     unfold ZbI
     have hwr:IntKind.i64.wrap ((Gx (d.msgs.take k):Int)+(x.fields.length:Int))=((Gx (d.msgs.take (k+1)):Nat):Int):=by
      rw [Lu hx,Yk (by omega) (by omega)];omega
     by_cases hn:Gx (d.msgs.take (k+1))≤400
     · have d2:decide (((Gx (d.msgs.take (k+1)):Nat):Int) > 400)=false:=by simp;omega
       simp (disch:=try exact DI) only [↓PR,QR,simprocAttr,hBW.c3,(hA.c2 e').1,(hA.c2 e').2,hwr,d2]
       rw [hwr]
       refine ZA (λ a0 wb=>∃ (kb:Nat) , a0 = .int .i64 (kb:Int)∧kb≤x.fields.length∧Ext w wb∧∀ f∈x.fields.take kb,okF f) (λ a0 _=>x.fields.length - (intOf a0).toNat) ⟨0,rfl,Nat.zero_le _,ee,by simp⟩ ?_
       rintro _ wb ⟨kb,rfl,hkb,eb,hIb⟩
       have seb:=eb.size
       rcases ZB hkb with ⟨xb,hxb,hdb,hltb,hdecb⟩ | ⟨hkb,hdb,hdecb⟩
       · obtain ⟨b2,o2,cs2,rfl,hl2,hA2,hE2⟩:=hel2 kb xb hxb
         obtain ⟨tv,cv,rfl,hT,hC,ht1,hc1⟩:=hE2.op
         obtain ⟨A3,c3,rfl,hlc3,hcm3,hlm3,hel3⟩:=Ze.open hC
         obtain ⟨A4,c4,rfl,hlc4,hcm4,hlm4,hel4⟩:=Ze.open hT
         have eb':=e'.trans eb
         unfold Zap
         simp (disch:=try exact DI) only [↓PR,QR,simprocAttr,hdecb]
         unfold ZaS
         have hcell:=hA2.c15 eb'
         by_cases hc50:xb.cases.length≤50
         · have d3:decide ((xb.cases.length:Int) > 50)=false:=by simp;omega
           by_cases ht10:xb.terms.length≤10
           · have d4:decide ((xb.terms.length:Int) > 10)=false:=by simp;omega
             simp (disch:=try exact DI) only [↓PR,QR,simprocAttr,hcell,d3,d4]
             exact ⟨⟨kb+1,rfl,by omega,ee,xu hIb hxb ⟨hc50,ht10⟩⟩,ZF (kd := .i64) hltb⟩
           · have d4:decide ((xb.terms.length:Int) > 10)=true:=by simp;omega
             simp (disch:=try exact DI) only [↓PR,QR,simprocAttr,hcell,d3,d4]
             exact ⟨false,rfl,by simp,ee⟩
         · have d3:decide ((xb.cases.length:Int) > 50)=true:=by simp;omega
           simp (disch:=try exact DI) only [↓PR,QR,simprocAttr,hcell,d3]
           exact ⟨false,rfl,by simp,ee⟩
       · subst hkb
         rw [List.take_length] at hIb
         unfold Zap
         simp (disch:=try exact DI) only [↓PR,QR,simprocAttr,hdecb]
         exact ⟨⟨k+1,rfl,rfl,by omega,ee,⟨hn,xu hok hx hIb⟩⟩,ZF (kd := .i64) hlt⟩
     · have d2:decide (((Gx (d.msgs.take (k+1)):Nat):Int) > 400)=true:=by simp;omega
       simp (disch:=try exact DI) only [↓PR,QR,simprocAttr,hBW.c3,(hA.c2 e').1,(hA.c2 e').2,hwr,d2]
       exact ⟨false,rfl,by simp,ee⟩
   · have d1:decide ((k:Int)≤70)=false:=by simp;omega
     have d2:decide ((d.msgs.length:Int)≤70)=false:=by simp;omega
     simp (disch:=try exact DI) only [↓PR,QR,simprocAttr,hBW.c3,hdec,d1,Zaw,d2]
     exact ⟨false,rfl,by simp,ee⟩
 · subst hk
   obtain ⟨h400,hok⟩:=hI
   rw [List.take_length] at h400 hok
   unfold Zav
   simp (disch:=try exact DI) only [↓PR,QR,simprocAttr,hBW.c3,hdec,Zaw]
   exact ⟨_,rfl,λ hb=>⟨by have:=of_decide_eq_true hb;omega,h400,hok⟩,ee⟩
theorem LL {f:Zm} (h:okF f):(XQ f).length≤50:=by
 unfold XQ
 split
 · simp
 · split
   · simpa using h.1
   · simp
theorem xr:∀ {l:List Zm},(∀ f∈l,okF f)→(Z0 l).length≤l.length*50
 | [],_=>by simp [Z0]
 | f::l,h=>by
  have h1:=LL (h f (List.mem_cons_self ..))
  have h2:=xr (l:=l) (λ g hg=>h g (List.mem_cons_of_mem _ hg))
  unfold Z0 at *
  rw [List.flatMap_cons,List.length_append,List.length_cons]
  omega
theorem Lr {d:YF} (h:Ii d):UN d:=λ m hm=>by
 have h1:=CF hm
 have h2:=h.2.1
 have h3:=xr (h.2.2 m hm)
 exact ⟨by omega,λ f hf=>by have:=(h.2.2 m hm f hf).2;omega⟩
theorem Lx {d:YF} (h:Ii d):Ra d:=⟨by have:=h.1;omega,λ m hm=>⟨by have:=CF hm;have:=h.2.1;omega,λ f hf=>⟨by have:=(h.2.2 m hm f hf).2;omega,by have:=(h.2.2 m hm f hf).1;omega⟩⟩⟩
def Tk (t0 t1 t5:Value) (C2:World→Prop) (next1:KV) (R:RT) (w:World):Prop :=
 qV Pg C2 (Instr.indexAt 30 t0 t5) λ t19 =>
 qV Pg C2 (Instr.loadAt 3 t19) λ t20 =>
 qV Pg C2 (Instr.indexAt 30 t1 t5) λ t23 =>
 qV Pg C2 (Instr.loadAt 3 t23) λ t24 =>
 qV Pg C2 (ZM .neq 3 false t20 t24) λ t25 =>
 Zr t25 (
 R (.returned (.bool false)) w) (
 B0 .add 3 true t5 (.int .i64 1) R w λ t16 w =>
 next1 t16 w)
def M8 (t0 t1 t5:Value) (next1:KV) (R:RT) (w:World):Prop :=
 opV Pg (Builtin.len_ #[30] 3 #[t0]) (Zd R) w λ t13 w =>
 B0 .lss 3 false t5 t13 R w λ t14 w =>
 Zr t14 (
 Yp w λ C2 w =>
 Tk t0 t1 t5 C2 next1 R w) (
 R (.returned (.bool true)) w)
def n12 (t0 t1:Value) (R:RT) (w:World):Prop :=
 opV Pg (Builtin.len_ #[30] 3 #[t0]) (Zd R) w λ t7 w =>
 opV Pg (Builtin.len_ #[30] 3 #[t1]) (Zd R) w λ t9 w =>
 B0 .neq 3 false t7 t9 R w λ t10 w =>
 Zr t10 (
 R (.returned (.bool false)) w) (
 Yi (λ t5 w next1 =>
 M8 t0 t1 t5 next1 R w) (.int .i64 0) w)
theorem ZfY {t0 t1:Value} {R:RT} {w:World} (h:n12 t0 t1 R w):Calls Pg 14 #[t0,t1] w R:=by
 refine yD Tryz.func14 ?_
 refine zs<|zr<|zm<|zn<|zk<|zs<|zs<|zr<|zm<|yx h λ _ w h=>zm<|yx h λ _ w h=>yb h λ _ w h=>zn<|zk ?_
 refine yC h (λ h=>zs<|zr<|zm<|zn<|zk<|Zk<|Zb<|Zi rfl rfl h) λ h=>Zh<|zk<|zs<|zs<|zr<|zm<|zn<|zk<|Zj<|yl1 [4,5,11,12,13,14,15,16,17,18,19,20,21,22,23,24,25] 5 h λ σ w next h=>zs<|zs<|zr ?_
 refine zm<|zm<|yx h λ _ w h=>yb h λ _ w h=>zn<|zk<|yC h (λ h=>?_) λ h=>?_
 · refine Zh<|zk<|zs<|Zj<|zs<|yh [17,18,19,20,21,22,23,24,25] h λ C hC h=>yw 0 hC ?_
   refine yw 1 hC ?_
   refine ye 2 hC h λ _ h=>?_
   refine ye 3 hC h λ _ h=>?_
   refine yw 4 hC ?_
   refine yw 5 hC ?_
   refine ye 6 hC h λ _ h=>?_
   refine ye 7 hC h λ _ h=>?_
   refine ye 8 hC h λ _ h=>?_
   exact yz<|zk<|yC h (λ h=>zs<|zr<|zm<|zn<|zk<|Zk<|Zf<|Zb<|Zb<|Zf<|Zb<|Zi rfl rfl h) λ h=>Zh<|Zg<|zk<|zr<|zm<|yb h λ _ w h=>zm<|zn<|zk<|⟨rfl,h⟩
 exact Zy<|Zc<|Zc<|Zn<|zk<|zs<|zr<|zm<|zn<|zk<|Zk<|Zi rfl rfl h
end Go.Proofs.YtfjjgjjlebllmaaGreat
