/-
  Lemmas for the claim.
-/
import Derived.Test.YtfjjgjjlebllmaaGreatQs5
set_option linter.all false
set_option maxHeartbeats 4000000
set_option maxRecDepth 100000
open Go.Instr (loadAt storeAt fieldAt indexAt buildSlice mapUpdate makeFunc)
open Go.Proofs.Tryz
namespace Go.Proofs.YtfjjgjjlebllmaaGreat
open Sw
open Go.RowKit (intOf Below)
section
variable (w0:Wd) (m:ZC) (fl tv cv:Vl) (mr:Nat) (f:Zl)
theorem HD (hf1:fl.oneCell'=true) (hT:ZV w0 tv f.terms) (hC:Yc w0 cv f.cases):Ret Pg 170 #[.agg (ZZ m fl mr).toArray,.agg (Zm f tv cv).toArray] w0 λ r w'=>r=(if f.check=3 then Zv 32 32 else Zv 16 16)∧Ext w0 w':=by
 have ht1:=Zd.oneCell hT
 have hc1:=Zd.oneCell hC
 refine Ze8 (R:=ZO _) ?_;unfold Ze7
 by_cases hk:f.check=3
 · have d:(f.check == 3)=true:=by simp [hk]
   rw [if_pos hk]
   simp (disch:=try exact DI) only [↓PR,QR,simprocAttr,d]
   generalize hW:World.alloc (World.alloc (World.alloc w0 _) _) _=W
   have e0:Ext w0 W:=by rw [← hW];exact ee
   have o2:W.heap[w0.heap.size+1+1]?=some (.cells #[.int .i64 0,.int .i64 0] 74 (0,0)):=by rw [← hW];simp (disch:=try exact DI) only [↓PR,QR,simprocAttr]
   clear hW
   refine zcr (Ul _ 32) λ w1 e1=>?_
   have x2:=e1.obj o2
   have E1:=e0.trans e1
   have l2:=(Array.getElem?_eq_some_iff.1 x2).1
   simp (disch:=try exact DI) only [↓PR,QR,simprocAttr,(Za x2).1,(Za x2).2]
   exact ⟨by first | trivial | rfl,ee⟩
 · have d:(f.check == 3)=false:=by simp [hk]
   rw [if_neg hk]
   simp (disch:=try exact DI) only [↓PR,QR,simprocAttr,d]
   generalize hW:World.alloc (World.alloc (World.alloc w0 _) _) _=W
   have e0:Ext w0 W:=by rw [← hW];exact ee
   have o2:W.heap[w0.heap.size+1+1]?=some (.cells #[.int .i64 0,.int .i64 0] 74 (0,0)):=by rw [← hW];simp (disch:=try exact DI) only [↓PR,QR,simprocAttr]
   clear hW
   refine zcr (Ul _ 16) λ w1 e1=>?_
   have x2:=e1.obj o2
   have E1:=e0.trans e1
   have l2:=(Array.getElem?_eq_some_iff.1 x2).1
   simp (disch:=try exact DI) only [↓PR,QR,simprocAttr,(Za x2).1,(Za x2).2]
   exact ⟨by first | trivial | rfl,ee⟩
theorem CT (hF:Yq w0 fl m.fields) (hT:ZV w0 tv f.terms) (hC:Yc w0 cv f.cases) (hb:f.terms.length≤1048576):Ret Pg 188 #[.agg (ZZ m fl mr).toArray,.agg (Zm f tv cv).toArray] w0 λ r w'=>r=Zv (ivL m.fields f) (ivH m.fields f)∧Ext w0 w':=by
 have ht1:=Zd.oneCell hT
 have hc1:=Zd.oneCell hC
 have hf1:=Zd.oneCell hF
 refine Zfx (R:=ZO _) ?_;unfold Zfw
 simp (disch:=try exact DI) only [↓PR,QR,simprocAttr]
 generalize hW:World.alloc (World.alloc (World.alloc w0 _) _) _=W
 have e0:Ext w0 W:=by rw [← hW];exact ee
 have o2:W.heap[w0.heap.size]?=some (.cells (ZZ m fl mr).toArray 124 (0,0)):=by rw [← hW];simp (disch:=try exact DI) only [↓PR,QR,simprocAttr]
 have o3:W.heap[w0.heap.size+1]?=some (.cells (Zm f tv cv).toArray 48 (0,0)):=by rw [← hW];simp (disch:=try exact DI) only [↓PR,QR,simprocAttr]
 have o4:W.heap[w0.heap.size+1+1]?=some (.cells #[.int .i64 0,.int .i64 0] 74 (0,0)):=by rw [← hW];simp (disch:=try exact DI) only [↓PR,QR,simprocAttr]
 clear hW
 refine Zy ?_
 have eD:Ext W W.drew:=(Ext.refl _).wdrew
 have hRg:=λ (w:Wd) (e:Ext W w)=>Hu w (.agg #[.string m.name,fl]) m ⟨fl,rfl,hF.ext (e0.trans e)⟩
 have hIv:=λ (w:Wd) (b:Nat) (e:Ext W w) (hM:Yr w b (XJ m.fields))=>zQ w (.agg #[.int .i64 f.base,tv]) f.base f.terms b (YD m.fields) ⟨tv,rfl,hT.ext (e0.trans e)⟩ hb (by rw [← Uh];exact hM)
 unfold PH
 simp (disch:=try exact DI) only [↓PR,QR,simprocAttr,(Za o2).1,(Za o3).1]
 refine ⟨?_,?_⟩
 · refine Zs (hRg _ eD) ?_
   rintro _ w1 ⟨b,rfl,_,hM1,e1⟩
   refine ⟨e1,?_⟩
   unfold PF
   refine ⟨?_,?_⟩
   · refine zcr (hIv _ b (eD.trans e1) hM1) λ w2 e2=>?_
     refine ⟨e1.trans e2,?_⟩
     unfold PD
     have eX:Ext w2 (w2.alloc (.cells #[.int .i64 (ivL m.fields f),.int .i64 (ivH m.fields f)] 74)):=ee
     have x4:=eX.obj (e2.obj (e1.obj (eD.obj o4)))
     have l4:=(Array.getElem?_eq_some_iff.1 x4).1
     have E2:=eD.trans (e1.trans e2)
     simp (disch:=try exact DI) only [↓PR,QR,simprocAttr,(Za x4).1,(Za x4).2]
     have E3:Ext W.drew w2:=e1.trans e2
     have E02:Ext w0 w2:=e0.trans E2
     exact ⟨ee,ee,by trivial,ee⟩
   · have eX:Ext w1 (w1.alloc (.cells #[.int .i64 0,.int .i64 0] 74)):=ee
     have oX:=ZG w1 #[.int .i64 0,.int .i64 0] 74
     have hM2:=hM1.ext eX
     have s1:=(eD.trans e1).size
     simp (disch:=try exact DI) only [↓PR,QR,simprocAttr]
     generalize (w1.alloc (.cells #[.int .i64 0,.int .i64 0] 74))=X at eX oX hM2 ⊢
     generalize w1.heap.size=px at oX s1 ⊢
     refine ⟨e1.trans eX,?_⟩
     unfold PE
     refine zcr (hIv _ b (eD.trans (e1.trans eX)) hM2) λ w2 e2=>?_
     have E2:Ext W.drew w2:=e1.trans (eX.trans e2)
     refine ⟨E2,?_⟩
     have x5:=e2.obj oX
     have x4:=e2.obj (eX.obj (e1.obj (eD.obj o4)))
     have l4:=(Array.getElem?_eq_some_iff.1 x4).1
     have l5:=(Array.getElem?_eq_some_iff.1 x5).1
     have l44:=(Array.getElem?_eq_some_iff.1 o4).1
     have n45:px≠w0.heap.size+1+1:=by omega
     have n54:w0.heap.size+1+1≠px:=by omega
     simp (disch:=try exact DI) only [↓PR,QR,simprocAttr,(Za x5).1,(Za x5).2,(Za x4).1,(Za x4).2]
     have E02:Ext w0 w2:=e0.trans (eD.trans E2)
     have sD:W.drew.heap.size=W.heap.size:=World.size_drew _
     have s0:=e0.size
     exact ⟨ee,by trivial,ee⟩
 · have eX:Ext W.drew (W.drew.alloc (.cells #[.int .i64 0,.int .i64 0] 74)):=ee
   have oX:=ZG W.drew #[.int .i64 0,.int .i64 0] 74
   have sD:W.drew.heap.size=W.heap.size:=World.size_drew _
   rw [sD] at oX
   generalize (W.drew.alloc (.cells #[.int .i64 0,.int .i64 0] 74))=X at eX oX ⊢
   refine ⟨eX,?_⟩
   refine Zs (hRg _ (eD.trans eX)) ?_
   rintro _ w1 ⟨b,rfl,_,hM1,e1⟩
   refine ⟨eX.trans e1,?_⟩
   unfold PG
   refine zcr (hIv _ b (eD.trans (eX.trans e1)) hM1) λ w2 e2=>?_
   have E2:Ext W.drew w2:=eX.trans (e1.trans e2)
   refine ⟨E2,?_⟩
   have x5:=e2.obj (e1.obj oX)
   have x4:=E2.obj (eD.obj o4)
   have l4:=(Array.getElem?_eq_some_iff.1 x4).1
   have l5:=(Array.getElem?_eq_some_iff.1 x5).1
   have l44:=(Array.getElem?_eq_some_iff.1 o4).1
   have n45:W.heap.size≠w0.heap.size+1+1:=by omega
   have n54:w0.heap.size+1+1≠W.heap.size:=by omega
   simp (disch:=try exact DI) only [↓PR,QR,simprocAttr,(Za x5).1,(Za x5).2,(Za x4).1,(Za x4).2]
   have E02:Ext w0 w2:=e0.trans (eD.trans E2)
   have s0:=e0.size
   exact ⟨ee,by trivial,ee⟩
end
theorem Gy (w0:Wd) (a b:Int) (ha:0≤a∧a≤2097152) (hb:0≤b∧b≤1099511627776):Two w0 189 a b (capF (a*b)):=λ w _=>Nz w a b ha hb
theorem xf {w:Wd} {mr:Nat} {sp:List (BAr×Int×Int)} (hM:Yr w mr (RP sp)) (s:BAr) (QP:PEn) (K:KV):opV Pg (Instr.lookup 122 (.map (some mr)) (.string s) false) QP w K=K (Zv (Z5 sp s).1 (Z5 sp s).2) w:=by
 rw [QC underlying122 underlying9 UY hM,Qg]
 unfold Z5
 cases Ym sp s<;>rfl
section
variable (w0:Wd) (m:ZC) (fl tv cv:Vl) (mr:Nat) (f:Zl)
theorem j2 (hF:Yq w0 fl m.fields) (hT:ZV w0 tv f.terms) (hC:Yc w0 cv f.cases) (hb:f.terms.length≤1048576) (hL:0≤ivL m.fields f∧ivL m.fields f≤2097152) (hH:0≤ivH m.fields f∧ivH m.fields f≤2097152):Ret Pg 163 #[.agg (ZZ m fl mr).toArray,.agg (Zm f tv cv).toArray] w0 λ r w'=>r=Zv (capF (ivL m.fields f*8)) (capF (ivH m.fields f*8))∧Ext w0 w':=by
 have ht1:=Zd.oneCell hT
 have hc1:=Zd.oneCell hC
 have hf1:=Zd.oneCell hF
 refine Ze6 (R:=ZO _) ?_;unfold Ze5
 simp (disch:=try exact DI) only [↓PR,QR,simprocAttr]
 generalize hW:World.alloc (World.alloc (World.alloc w0 _) _) _=W
 have e0:Ext w0 W:=by rw [← hW];exact ee
 have o4:W.heap[w0.heap.size+1+1]?=some (.cells #[.int .i64 0,.int .i64 0] 74 (0,0)):=by rw [← hW];simp (disch:=try exact DI) only [↓PR,QR,simprocAttr]
 clear hW
 refine zcr (CT W m fl tv cv mr f (hF.ext e0) (hT.ext e0) (hC.ext e0) hb) λ w1 e1=>?_
 refine zcr (Ul _ 8) λ w2 e2=>?_
 unfold Pc
 refine zcr (Kn w2 _ _ 8 8 _ _ _ Zc3 (Gy _ _ 8 hL (by decide)) (Gy _ _ 8 hH (by decide))) λ w3 e3=>?_
 have x4:=e3.obj (e2.obj (e1.obj o4))
 have E3:=e0.trans (e1.trans (e2.trans e3))
 have l4:=(Array.getElem?_eq_some_iff.1 x4).1
 simp (disch:=try exact DI) only [↓PR,QR,simprocAttr,(Za x4).1,(Za x4).2]
 exact ⟨by first | trivial | rfl,ee⟩
theorem MX (sp:List (BAr×Int×Int)) (hM:Yr w0 mr (RP sp)) (hF:Yq w0 fl m.fields) (hT:ZV w0 tv f.terms) (hC:Yc w0 cv f.cases) (hb:f.terms.length≤1048576) (hL:0≤ivL m.fields f∧ivL m.fields f≤2097152) (hH:0≤ivH m.fields f∧ivH m.fields f≤2097152)
 (h1:0≤(Z5 sp f.of).1∧(Z5 sp f.of).1≤1099511627776) (h2:0≤(Z5 sp f.of).2∧(Z5 sp f.of).2≤1099511627776):Ret Pg 166 #[.agg (ZZ m fl mr).toArray,.agg (Zm f tv cv).toArray] w0 λ r w'=>r=Zv (capF (ivL m.fields f*(Z5 sp f.of).1)) (capF (ivH m.fields f*(Z5 sp f.of).2))∧Ext w0 w':=by
 have ht1:=Zd.oneCell hT
 have hc1:=Zd.oneCell hC
 have hf1:=Zd.oneCell hF
 refine Zfc (R:=ZO _) ?_;unfold Zfb
 simp (disch:=try exact DI) only [↓PR,QR,simprocAttr]
 generalize hW:World.alloc (World.alloc (World.alloc w0 _) _) _=W
 have e0:Ext w0 W:=by rw [← hW];exact ee
 have o2:W.heap[w0.heap.size]?=some (.cells (ZZ m fl mr).toArray 124 (0,0)):=by rw [← hW];simp (disch:=try exact DI) only [↓PR,QR,simprocAttr]
 have o3:W.heap[w0.heap.size+1]?=some (.cells (Zm f tv cv).toArray 48 (0,0)):=by rw [← hW];simp (disch:=try exact DI) only [↓PR,QR,simprocAttr]
 have o4:W.heap[w0.heap.size+1+1]?=some (.cells #[.int .i64 0,.int .i64 0] 74 (0,0)):=by rw [← hW];simp (disch:=try exact DI) only [↓PR,QR,simprocAttr]
 clear hW
 refine Zy ?_
 have eD:Ext W W.drew:=(Ext.refl _).wdrew
 have qlk:∀ K:Vl→Prop,qV Pg (EC W.drew) (Instr.lookup 122 (.map (some mr)) (.string f.of) false) K=K (Zv (Z5 sp f.of).1 (Z5 sp f.of).2):=λ K=>VA λ w' e=>Xa λ QP k=>xf (hM.ext (e0.trans (eD.trans e))) f.of QP k
 unfold Ps
 simp (disch:=try exact DI) only [↓PR,QR,simprocAttr,(Za o2).1,(Za o3).1,qlk]
 refine zcr (CT _ m fl tv cv mr f (hF.ext (e0.trans eD)) (hT.ext (e0.trans eD)) (hC.ext (e0.trans eD)) hb) λ w1 e1=>?_
 refine ⟨e1,?_⟩
 unfold Pr
 refine zcr (Kn w1 _ _ _ _ _ _ _ Zc3 (Gy _ _ _ hL h1) (Gy _ _ _ hH h2)) λ w2 e2=>?_
 refine ⟨e1.trans e2,?_⟩
 have E2:=eD.trans (e1.trans e2)
 have x4:=E2.obj o4
 have E3:=e0.trans E2
 have l4:=(Array.getElem?_eq_some_iff.1 x4).1
 simp (disch:=try exact DI) only [↓PR,QR,simprocAttr,(Za x4).1,(Za x4).2]
 refine Yb ?_
 simp (disch:=try exact DI) only [↓PR,QR,simprocAttr,(Za x4).1]
 exact ⟨by first | trivial | rfl,ee⟩
theorem FB (v:Nat) (hv:v < 9223372036854775808):Ret Pg 186 #[.int .i64 (v:Int),.int .i64 8] w0 λ r w'=>r = .int .i64 (((YG v:Nat):Int)*8)∧Ext w0 w':=by
 have hb:=W3 9 v (Nat.lt_of_lt_of_le hv (by decide)) (by decide)
 refine Zfg (R:=ZO _) ?_;unfold Zff
 refine zcr (HM w0 v hv) λ w1 e1=>?_
 simp (disch:=try exact DI) only [↓PR,QR,simprocAttr,Z0]
 exact ⟨by first | trivial | rfl,ee⟩
end
section
variable {w0:Wd} {m:ZC} {fl tv cv:Vl} {mr:Nat} {f:Zl}
theorem Zcb {w:Wd} {p3 p4 p5:Nat} {a b:Int} (h3:w.heap[p3]?=some (.cells (Zm f tv cv).toArray 48 (0,0))) (h4:w.heap[p4]?=some (.cells #[.int .i64 0,.int .i64 0] 74 (0,0))) (h5:w.heap[p5]?=some (.cells #[.int .i64 a,.int .i64 b] 74 (0,0))) (Xv:p4≠p5) (e:Ext w0 w) (g4:w0.heap.size≤p4) (g5:w0.heap.size≤p5) :
 Dz (.pointer (some ⟨p3,0,none⟩)) (.pointer (some ⟨p4,0,none⟩)) (.pointer (some ⟨p5,0,none⟩)) (ZO λ r w'=>r=Zv a (if f.loose then 40 else b)∧Ext w0 w') w:=by
 have hne':p5≠p4:=λ h=>Xv h.symm
 have l4:=(Array.getElem?_eq_some_iff.1 h4).1
 have l5:=(Array.getElem?_eq_some_iff.1 h5).1
 unfold Dz
 cases hl:f.loose with
 | true=>
  have y5:(w.setCell ⟨p5,1,none⟩ (.int .i64 40)).heap[p5]?=some (.cells #[.int .i64 a,.int .i64 40] 74 (0,0)):=by simpa using ZE (o:=1) h5 (.int .i64 40)
  have y4:=(YY.setCell w p5 1 (.int .i64 40) p4 Xv).trans h4
  have E:Ext w0 (w.setCell ⟨p5,1,none⟩ (.int .i64 40)):=ee
  simp (disch:=try exact DI) only [↓PR,QR,simprocAttr,(Za h3).1,hl,(Za h5).1,(Za h5).2]
  generalize (w.setCell ⟨p5,1,none⟩ (.int .i64 40))=X at y5 y4 E ⊢
  have l4':=(Array.getElem?_eq_some_iff.1 y4).1
  simp (disch:=try exact DI) only [↓PR,QR,simprocAttr,(Za y5).1,(Za h4).1,(Za y4).1,(Za y4).2]
  exact ⟨by first | trivial | rfl,ee⟩
 | false=>
  simp (disch:=try exact DI) only [↓PR,QR,simprocAttr,(Za h3).1,hl,(Za h5).1,(Za h4).1,(Za h4).2]
  exact ⟨by first | trivial | rfl,ee⟩
theorem FD (hf1:fl.oneCell'=true) (hT:ZV w0 tv f.terms) (hC:Yc w0 cv f.cases) (h1:0≤f.low∧f.low < 9223372036854775808) (h2:0≤f.high∧f.high < 9223372036854775808):Ret Pg 162 #[.agg (ZZ m fl mr).toArray,.agg (Zm f tv cv).toArray] w0 λ r w'=>r=Zv ((YG f.low.toNat:Nat)*8) (if f.loose then 40 else (YG f.high.toNat:Nat)*8)∧Ext w0 w':=by
 have ht1:=Zd.oneCell hT
 have hc1:=Zd.oneCell hC
 refine Zfe (R:=ZO _) ?_;unfold Zfd
 simp (disch:=try exact DI) only [↓PR,QR,simprocAttr]
 generalize hW:World.alloc (World.alloc (World.alloc w0 _) _) _=W
 have e0:Ext w0 W:=by rw [← hW];exact ee
 have o3:W.heap[w0.heap.size+1]?=some (.cells (Zm f tv cv).toArray 48 (0,0)):=by rw [← hW];simp (disch:=try exact DI) only [↓PR,QR,simprocAttr]
 have o4:W.heap[w0.heap.size+1+1]?=some (.cells #[.int .i64 0,.int .i64 0] 74 (0,0)):=by rw [← hW];simp (disch:=try exact DI) only [↓PR,QR,simprocAttr]
 clear hW
 have s0:=e0.size
 have l4:=(Array.getElem?_eq_some_iff.1 o4).1
 refine Zy ?_
 have eD:Ext W W.drew:=(Ext.refl _).wdrew
 have sD:W.drew.heap.size=W.heap.size:=World.size_drew _
 have h1':((f.low.toNat:Nat):Int)=f.low:=by omega
 have h2':((f.high.toNat:Nat):Int)=f.high:=by omega
 have t1:∀ w,Two w 186 f.low 8 ((YG f.low.toNat:Nat)*8):=λ w w' _=>by have:=FB w' f.low.toNat (by omega);rwa [h1'] at this
 have t2:∀ w,Two w 186 f.high 8 ((YG f.high.toNat:Nat)*8):=λ w w' _=>by have:=FB w' f.high.toNat (by omega);rwa [h2'] at this
 have both:=λ w=>Kn w f.low f.high 8 8 _ _ _ Zhe (t1 w) (t2 w)
 clear t1 t2
 generalize (((YG f.low.toNat:Nat):Int)*8)=A at both ⊢
 generalize (((YG f.high.toNat:Nat):Int)*8)=B at both ⊢
 have st:∀ (w:Wd) (p:Nat),Ext W.drew w→W.heap.size≤p→w.heap[p]?=some (.cells #[.int .i64 0,.int .i64 0] 74 (0,0))→opU Pg (storeAt 74 (.pointer (some ⟨p,0,none⟩)) (Zv A B)) (Zh (ZO λ r w'=>r=Zv A (if f.loose then 40 else B)∧Ext w0 w')) w λ w=>Xt w λ C w=>Dz (.pointer (some ⟨w0.heap.size+1,0,none⟩)) (.pointer (some ⟨w0.heap.size+1+1,0,none⟩)) (.pointer (some ⟨p,0,none⟩)) (ZO λ r w'=>r=Zv A (if f.loose then 40 else B)∧Ext w0 w') w:=by
  intro w p e hp hh
  simp (disch:=try exact DI) only [↓PR,QR,simprocAttr,(Za hh).1,(Za hh).2]
  refine Yb ?_
  have y5:((w.setCell ⟨p,0,none⟩ (.int .i64 A)).setCell ⟨p,1,none⟩ (.int .i64 B)).heap[p]?=some (.cells #[.int .i64 A,.int .i64 B] 74 (0,0)):=by simpa using ZE (o:=1) (ZE (o:=0) hh (.int .i64 A)) (.int .i64 B)
  have only:∀ q,q≠p→((w.setCell ⟨p,0,none⟩ (.int .i64 A)).setCell ⟨p,1,none⟩ (.int .i64 B)).heap[q]?=w.heap[q]?:=λ q hq=>(YY.setCell _ p 1 (.int .i64 B) q hq).trans (YY.setCell w p 0 (.int .i64 A) q hq)
  have E:Ext w0 ((w.setCell ⟨p,0,none⟩ (.int .i64 A)).setCell ⟨p,1,none⟩ (.int .i64 B)):=((e0.trans (eD.trans e)).setCell (p:=⟨p,0,none⟩) (by show w0.heap.size≤p;omega) _).setCell (p:=⟨p,1,none⟩) (by show w0.heap.size≤p;omega) _
  exact Zcb ((only _ (by omega)).trans (e.obj (eD.obj o3))) ((only _ (by omega)).trans (e.obj (eD.obj o4))) y5 (by omega) E (by omega) (by omega)
 unfold Pv
 simp (disch:=try exact DI) only [↓PR,QR,simprocAttr,(Za o3).1]
 repeat rw [World.size_alloc]
 refine ⟨?_,?_⟩
 · refine zcr (Ul _ 8) λ w1 e1=>?_
   refine ⟨e1,?_⟩
   unfold Pt
   refine ⟨?_,?_⟩
   · refine zcr (both _) λ w2 e2=>?_
     have E2:=e1.trans e2
     have s2:=E2.size
     refine ⟨E2,?_⟩
     have eX:Ext w2 (w2.alloc (.cells #[.int .i64 0,.int .i64 0] 74)):=ee
     have oX:=ZG w2 #[.int .i64 0,.int .i64 0] 74
     rw [YE UY]
     refine ⟨E2.trans eX,?_⟩
     exact st _ _ (E2.trans eX) (by omega) oX
   · have eX:Ext w1 (w1.alloc (.cells #[.int .i64 0,.int .i64 0] 74)):=ee
     have oX:=ZG w1 #[.int .i64 0,.int .i64 0] 74
     have s1:=e1.size
     rw [YE UY]
     refine ⟨e1.trans eX,?_⟩
     refine zcr (both _) λ w2 e2=>?_
     refine ⟨e1.trans (eX.trans e2),?_⟩
     exact st _ _ (e1.trans (eX.trans e2)) (by omega) (e2.obj oX)
 · have eX:Ext W.drew (W.drew.alloc (.cells #[.int .i64 0,.int .i64 0] 74)):=ee
   have oX:=ZG W.drew #[.int .i64 0,.int .i64 0] 74
   refine ⟨eX,?_⟩
   refine zcr (Ul _ 8) λ w1 e1=>?_
   unfold Pu
   refine ⟨eX.trans e1,?_⟩
   refine zcr (both _) λ w2 e2=>?_
   refine ⟨eX.trans (e1.trans e2),?_⟩
   have sD2:(drew W).heap.size=W.heap.size:=sD
   exact st _ _ (eX.trans (e1.trans e2)) (by omega) (e2.obj (e1.obj oX))
def M1 (a b:Int):Int:=if b < a then b else a
def Um (sp:List (BAr×Int×Int)) (o:Int×Int) (c:W6):Int×Int:=(M1 o.1 (Z5 sp c.of).1,Qj o.2 (Z5 sp c.of).2)
def XN (sp:List (BAr×Int×Int)) (l:List W6):Int×Int:=match l with
 | []=>(0,0)
 | c::_=>l.foldl (Um sp) (Z5 sp c.of)
theorem EA (sp:List (BAr×Int×Int)) (hM:Yr w0 mr (RP sp)) (hf1:fl.oneCell'=true) (hT:ZV w0 tv f.terms) (hC:Yc w0 cv f.cases) (Xv:f.cases≠[]):Ret Pg 168 #[.agg (ZZ m fl mr).toArray,.agg (Zm f tv cv).toArray] w0 λ r w'=>r=Zv (XN sp f.cases).1 (XN sp f.cases).2∧Ext w0 w':=by
 have ht1:=Zd.oneCell hT
 have hc1:=Zd.oneCell hC
 obtain ⟨A,c,rfl,hlc,hcm,hlm,Y3⟩:=Zd.open hC
 obtain ⟨c0,hc0⟩:∃ c0,f.cases[0]?=some c0:=by
  cases hh:f.cases with
  | nil=>exact absurd hh Xv
  | cons a l=>exact ⟨a,rfl⟩
 have hch:XN sp f.cases=f.cases.foldl (Um sp) (Z5 sp c0.of):=by
  cases hh:f.cases with
  | nil=>exact absurd hh Xv
  | cons a l=>rw [hh] at hc0;injection hc0 with hc0;subst hc0;rfl
 have hl0:0 < f.cases.length:=(List.getElem?_eq_some_iff.1 hc0).1
 obtain ⟨b,o,cs0,rfl,_,hA0,rfl⟩:=Y3 0 c0 hc0
 rw [Nat.zero_mul,Nat.add_zero] at hA0
 refine Zfa (R:=ZO _) ?_;unfold Ze9
 simp (disch:=try exact DI) only [↓PR,QR,simprocAttr]
 generalize hW:World.alloc (World.alloc (World.alloc w0 _) _) _=W
 have e0:Ext w0 W:=by rw [← hW];exact ee
 have o2:W.heap[w0.heap.size]?=some (.cells (ZZ m fl mr).toArray 124 (0,0)):=by rw [← hW];simp (disch:=try exact DI) only [↓PR,QR,simprocAttr]
 have o3:W.heap[w0.heap.size+1]?=some (.cells (Zm f tv (.slice (some ⟨b,o,none⟩) f.cases.length c)).toArray 48 (0,0)):=by rw [← hW];simp (disch:=try exact DI) only [↓PR,QR,simprocAttr]
 have o4:W.heap[w0.heap.size+1+1]?=some (.cells #[.int .i64 0,.int .i64 0] 74 (0,0)):=by rw [← hW];simp (disch:=try exact DI) only [↓PR,QR,simprocAttr]
 clear hW
 have s0:=e0.size
 have l4:=(Array.getElem?_eq_some_iff.1 o4).1
 refine Zy ?_
 have eD:Ext W W.drew:=(Ext.refl _).wdrew
 have sD:W.drew.heap.size=W.heap.size:=World.size_drew _
 have qlk:∀ K:Vl→Prop,qV Pg (EC W.drew) (Instr.lookup 122 (.map (some mr)) (.string c0.of) false) K=K (Zv (Z5 sp c0.of).1 (Z5 sp c0.of).2):=λ K=>VA λ w' e=>Xa λ QP k=>xf (hM.ext (e0.trans (eD.trans e))) c0.of QP k
 have qix:∀ K:Vl→Prop,qV Pg (EC W.drew) (indexAt 46 (.slice (some ⟨b,o,none⟩) f.cases.length c) (.int .i64 0)) K=K (.pointer (some ⟨b,o,none⟩)):=λ K=>by
  have:=YO (C:=EC W.drew) (k:=K) λ QP w' k=>YN (QP:=QP) (w:=w') (k:=k) underlying46 jC b o f.cases.length c .i64 0 hl0
  rwa [Nat.zero_mul,Nat.add_zero] at this
 unfold Pq
 simp (disch:=try exact DI) only [↓PR,QR,simprocAttr,(Za o2).1,(Za o3).1,qix,qlk,hA0.c3 (e0.trans eD),hA0.c3 e0,(hA0.c3 (Ext.refl w0))]
 repeat rw [World.size_alloc]
 refine ⟨ee,Yb ?_⟩
 have o5:(W.drew.alloc (.cells #[.int .i64 (Z5 sp c0.of).1,.int .i64 (Z5 sp c0.of).2] 74)).heap[W.heap.size]?=some (.cells #[.int .i64 (Z5 sp c0.of).1,.int .i64 (Z5 sp c0.of).2] 74 (0,0)):=by have:=ZG W.drew #[.int .i64 (Z5 sp c0.of).1,.int .i64 (Z5 sp c0.of).2] 74;rwa [sD] at this
 have eX:Ext W (W.drew.alloc (.cells #[.int .i64 (Z5 sp c0.of).1,.int .i64 (Z5 sp c0.of).2] 74)):=eD.trans ee
 have sD2:(drew W).heap.size=W.heap.size:=sD
 rw [sD2]
 generalize (W.drew.alloc (.cells #[.int .i64 (Z5 sp c0.of).1,.int .i64 (Z5 sp c0.of).2] 74))=X at o5 eX ⊢
 generalize hp5:W.heap.size=p5 at o5 l4 ⊢
 have n45:w0.heap.size+1+1≠p5:=by omega
 unfold Pp
 simp (disch:=try exact DI) only [↓PR,QR,simprocAttr,(Za (eX.obj o3)).1]
 refine ZF (λ i w=>∃ k:Nat,i = .int .i64 k∧k≤f.cases.length∧Ext W w∧w.heap[p5]?=some (.cells #[.int .i64 ((f.cases.take k).foldl (Um sp) (Z5 sp c0.of)).1,.int .i64 ((f.cases.take k).foldl (Um sp) (Z5 sp c0.of)).2] 74 (0,0))) (λ i _=>f.cases.length - (intOf i).toNat) ⟨0,rfl,by omega,eX,o5⟩ ?_
 rintro _ w ⟨k,rfl,hk,e,x5⟩
 have E:=e0.trans e
 have l5:=(Array.getElem?_eq_some_iff.1 x5).1
 unfold Po
 rcases ZD hk with ⟨x,hx,hd,Yv,ZJ⟩ | ⟨hk,hd,ZJ⟩
 · obtain ⟨b',o',cs,hbo,_,hA,rfl⟩:=Y3 k x hx
   injection hbo with hbo
   injection hbo with hb1 hb2
   subst hb1 hb2
   have hst:(f.cases.take (k+1)).foldl (Um sp) (Z5 sp c0.of)=Um sp ((f.cases.take k).foldl (Um sp) (Z5 sp c0.of)) x:=by rw [Z4 hx,List.foldl_append];rfl
   generalize (f.cases.take k).foldl (Um sp) (Z5 sp c0.of)=z at x5 hst
   simp (disch:=try exact DI) only [↓PR,QR,simprocAttr,ZJ]
   unfold Pn
   have eA:Ext w (w.alloc (.cells (W8 x).toArray 60)):=ee
   have hlk:=xf ((hM.ext E).ext eA) x.of
   try unfold X0
   try unfold L0
   rw [YN underlying46 jC _ _ _ _ _ k Yv,Wi ((hA.ext E).loads jC rfl)]
   simp (disch:=try exact DI) only [↓PR,QR,simprocAttr,(Za (e.obj o2)).1,hlk,(Za x5).1,(Za x5).2]
   refine ⟨⟨k+1,rfl,by omega,ee,?_⟩,ZM (kd := .i64) Yv⟩
   rw [hst]
   simpa [Um,M1,Qj] using ZE (o:=1) (ZE (o:=0) x5 (.int .i64 (M1 z.1 (Z5 sp x.of).1))) (.int .i64 (Qj z.2 (Z5 sp x.of).2))
 · subst hk
   rw [List.take_length,← hch] at x5
   have x4:=e.obj o4
   have l44:=(Array.getElem?_eq_some_iff.1 x4).1
   simp (disch:=try exact DI) only [↓PR,QR,simprocAttr,ZJ,(Za x5).1,(Za x4).1,(Za x4).2]
   exact ⟨by first | trivial | rfl,ee⟩
end
def Yg (sp:List (BAr×Int×Int)) (l:List Zl) (f:Zl):Int×Int:=
 if f.kind=1∨f.kind=2 then (f.bits,f.bits) else
 if f.kind=3 then ((YG f.low.toNat:Nat)*8,if f.loose then 40 else (YG f.high.toNat:Nat)*8) else
 if f.kind=4∨f.kind=12 then (capF (ivL l f*8),capF (ivH l f*8)) else
 if f.kind=5 then (8,8*(f.high+1)) else
 if f.kind=6 then (16,8*f.high) else
 if f.kind=7 then (capF (ivL l f*(Z5 sp f.of).1),capF (ivH l f*(Z5 sp f.of).2)) else
 if f.kind=8 then Z5 sp f.of else
 if f.kind=9 then XN sp f.cases else
 if f.kind=10 then (0,f.bits - 1) else if f.check=3 then (32,32) else (16,16)
structure OkS (sp:List (BAr×Int×Int)) (l:List Zl) (f:Zl):Prop where
 kind:1≤f.kind∧f.kind≤12
 num:f.kind=3→(0≤f.low∧f.low < 9223372036854775808)∧0≤f.high∧f.high < 9223372036854775808
 iv:f.kind=4∨f.kind=12∨f.kind=7→(0≤ivL l f∧ivL l f≤2097152)∧0≤ivH l f∧ivH l f≤2097152
 high:f.kind=5∨f.kind=6→0≤f.high∧f.high≤1048576
 of:f.kind=7→(0≤(Z5 sp f.of).1∧(Z5 sp f.of).1≤1099511627776)∧0≤(Z5 sp f.of).2∧(Z5 sp f.of).2≤1099511627776
 cases:f.kind=9→f.cases≠[]
 bits:f.kind=10→0≤f.bits∧f.bits≤1048576
 terms:f.terms.length≤1048576
theorem Xw {w0 w:Wd} {m c:Nat} {L:List (Int×Vl×Nat)} {QP:PEn} {ku:WPr} (hM:Xn w m Vr L c) (e:Ext w0 w) (hm:w0.heap.size≤m) (k:Int) (v:Vl)
 (h:∀ w' L' c',Xn w' m Vr L' c'→(∀ k',Sw.look L' k'=if k'=k then some v else Sw.look L k')→Ext w0 w'→ku w'):opU Pg (mapUpdate 202 (.map (some m)) (.int .i64 k) v) QP w ku:=by
 rw [Ja underlying202 (W7.int underlying42) hM k v]
 exact h _ _ _ (hM.put k v) (λ k'=>yH _ _ _ _ _) (e.putObj hm _)
theorem RM (w0:Wd) (m:ZC) (fl tv cv:Vl) (mr:Nat) (f:Zl) (sp:List (BAr×Int×Int)) (hM:Yr w0 mr (RP sp)) (hF:Yq w0 fl m.fields) (hT:ZV w0 tv f.terms) (hC:Yc w0 cv f.cases) (ok:OkS sp m.fields f):Ret Pg 127 #[.agg (ZZ m fl mr).toArray,.agg (Zm f tv cv).toArray] w0 λ r w'=>r=Zv (Yg sp m.fields f).1 (Yg sp m.fields f).2∧Ext w0 w':=by
 have ht1:=Zd.oneCell hT
 have hc1:=Zd.oneCell hC
 have hf1:=Zd.oneCell hF
 refine Zfi (R:=ZO _) ?_;unfold Zfh
 rw [Wh,Wh,YE UY]
 show opV _ _ _ (((w0.alloc (.cells (ZZ m fl mr).toArray 124)).alloc (.cells (Zm f tv cv).toArray 48)).alloc (.cells #[.int .i64 0,.int .i64 0] 74)) _
 simp only [World.size_alloc]
 generalize hW:(((w0.alloc (.cells (ZZ m fl mr).toArray 124)).alloc (.cells (Zm f tv cv).toArray 48)).alloc (.cells #[.int .i64 0,.int .i64 0] 74))=W
 have e0:Ext w0 W:=by rw [← hW];exact ee
 have o2:W.heap[w0.heap.size]?=some (.cells (ZZ m fl mr).toArray 124 (0,0)):=by rw [← hW];simp (disch:=try exact DI) only [↓PR,QR,simprocAttr]
 have o3:W.heap[w0.heap.size+1]?=some (.cells (Zm f tv cv).toArray 48 (0,0)):=by rw [← hW];simp (disch:=try exact DI) only [↓PR,QR,simprocAttr]
 have o4:W.heap[w0.heap.size+1+1]?=some (.cells #[.int .i64 0,.int .i64 0] 74 (0,0)):=by rw [← hW];simp (disch:=try exact DI) only [↓PR,QR,simprocAttr]
 clear hW
 generalize hp4:w0.heap.size+1+1=p4 at o4 ⊢
 generalize hp3:w0.heap.size+1=p3 at o3 hp4 ⊢
 generalize hp2:w0.heap.size=p2 at o2 ⊢
 simp (disch:=try exact DI) only [↓PR,QR,simprocAttr]
 have eM0:Ext W (W.alloc (.map #[] 0)):=ee
 have hM0:Xn (W.alloc (.map #[] 0)) W.heap.size Vr [] 0:=Xn.new W _
 have cv_fin:∀ (w:Wd) (g:FuncId) (first caps:AVl),Ext W w→Callable Pg g→(Ret Pg g (first ++ #[.agg (Zm f tv cv).toArray]++caps) w λ r w'=>r=Zv (Yg sp m.fields f).1 (Yg sp m.fields f).2∧Ext w w') →
  XB Pg (.func (.func g) first caps) #[.agg (Zm f tv cv).toArray] (Zh (ZO λ r w'=>r=Zv (Yg sp m.fields f).1 (Yg sp m.fields f).2∧Ext w0 w')) w λ t27 w=>opU Pg (storeAt 74 (.pointer (some ⟨p4,0,none⟩)) t27) (Zh (ZO λ r w'=>r=Zv (Yg sp m.fields f).1 (Yg sp m.fields f).2∧Ext w0 w')) w λ w=>qW Pg 74 (.pointer (some ⟨p4,0,none⟩)) w λ r0=>ZO (λ r w'=>r=Zv (Yg sp m.fields f).1 (Yg sp m.fields f).2∧Ext w0 w') (.returned r0) w:=by
  intro w g first caps e hg hr
  rw [YZ hg]
  refine Zs hr ?_
  rintro _ w1 ⟨rfl,e1⟩
  have x4:=e1.obj (e.obj o4)
  have E1:=e0.trans (e.trans e1)
  have l4:=(Array.getElem?_eq_some_iff.1 x4).1
  simp (disch:=try exact DI) only [↓PR,QR,simprocAttr,(Za x4).1,(Za x4).2]
  exact ⟨by first | trivial | rfl,ee⟩
 refine Xw hM0 eM0 (Nat.le_refl _) 1 _ (λ w1 L1 c1 hM1 hl1 eM1=>?_)
 try simp (disch:=try exact DI) only [↓PR,QR,simprocAttr,(Za (eM1.obj o2)).1]
 refine Xw hM1 eM1 (Nat.le_refl _) 2 _ (λ w2 L2 c2 hM2 hl2 eM2=>?_)
 try simp (disch:=try exact DI) only [↓PR,QR,simprocAttr,(Za (eM2.obj o2)).1]
 refine Xw hM2 eM2 (Nat.le_refl _) 3 _ (λ w3 L3 c3 hM3 hl3 eM3=>?_)
 try simp (disch:=try exact DI) only [↓PR,QR,simprocAttr,(Za (eM3.obj o2)).1]
 refine Xw hM3 eM3 (Nat.le_refl _) 4 _ (λ w4 L4 c4 hM4 hl4 eM4=>?_)
 try simp (disch:=try exact DI) only [↓PR,QR,simprocAttr,(Za (eM4.obj o2)).1]
 refine Xw hM4 eM4 (Nat.le_refl _) 5 _ (λ w5 L5 c5 hM5 hl5 eM5=>?_)
 try simp (disch:=try exact DI) only [↓PR,QR,simprocAttr,(Za (eM5.obj o2)).1]
 refine Xw hM5 eM5 (Nat.le_refl _) 6 _ (λ w6 L6 c6 hM6 hl6 eM6=>?_)
 try simp (disch:=try exact DI) only [↓PR,QR,simprocAttr,(Za (eM6.obj o2)).1]
 refine Xw hM6 eM6 (Nat.le_refl _) 7 _ (λ w7 L7 c7 hM7 hl7 eM7=>?_)
 try simp (disch:=try exact DI) only [↓PR,QR,simprocAttr,(Za (eM7.obj o2)).1]
 refine Xw hM7 eM7 (Nat.le_refl _) 8 _ (λ w8 L8 c8 hM8 hl8 eM8=>?_)
 try simp (disch:=try exact DI) only [↓PR,QR,simprocAttr,(Za (eM8.obj o2)).1]
 refine Xw hM8 eM8 (Nat.le_refl _) 9 _ (λ w9 L9 c9 hM9 hl9 eM9=>?_)
 try simp (disch:=try exact DI) only [↓PR,QR,simprocAttr,(Za (eM9.obj o2)).1]
 refine Xw hM9 eM9 (Nat.le_refl _) 10 _ (λ w10 L10 c10 hM10 hl10 eM10=>?_)
 try simp (disch:=try exact DI) only [↓PR,QR,simprocAttr,(Za (eM10.obj o2)).1]
 refine Xw hM10 eM10 (Nat.le_refl _) 11 _ (λ w11 L11 c11 hM11 hl11 eM11=>?_)
 try simp (disch:=try exact DI) only [↓PR,QR,simprocAttr,(Za (eM11.obj o2)).1]
 refine Xw hM11 eM11 (Nat.le_refl _) 12 _ (λ w12 L12 c12 hM12 hl12 eM12=>?_)
 have hlk:=λ (QP:PEn) (K:KV)=>Be (k':=K) (QP:=QP) underlying202 (W7.int underlying42) Zgk hM12 f.kind
 have hn:∀ k,Sw.look ([]:List (Int×Vl×Nat)) k=none:=λ _=>rfl
 have E:=e0.trans eM12
 have hF':=hF.ext E
 have hT':=hT.ext E
 have hC':=hC.ext E
 have hMp:=hM.ext E
 have hk12:f.kind=1∨f.kind=2∨f.kind=3∨f.kind=4∨f.kind=5∨f.kind=6∨f.kind=7∨f.kind=8∨f.kind=9∨f.kind=10∨f.kind=11∨f.kind=12:=by have:=ok.kind;omega
 rcases hk12 with hk | hk | hk | hk | hk | hk | hk | hk | hk | hk | hk | hk
 · have hlook:Sw.look L12 f.kind=some (.func (.func 161) #[] #[]):=by
    rw [hk,hl12,hl11,hl10,hl9,hl8,hl7,hl6,hl5,hl4,hl3,hl2,hl1]
    rw [if_neg (by decide)];rw [if_neg (by decide)];rw [if_neg (by decide)];rw [if_neg (by decide)];rw [if_neg (by decide)];rw [if_neg (by decide)];rw [if_neg (by decide)];rw [if_neg (by decide)];rw [if_neg (by decide)];rw [if_neg (by decide)];rw [if_neg (by decide)];rw [if_pos rfl]
   have hS:Yg sp m.fields f=(f.bits,f.bits):=by unfold Yg;simp [hk]
   rw [hlook] at hlk
   simp (disch:=try exact DI) only [↓PR,QR,simprocAttr,(Za (eM12.obj o3)).1,hlk,Option.getD_some]
   refine cv_fin _ _ _ _ eM12 ZcX ?_
   rw [hS]
   exact LV _ tv cv f hT' hC'
 · have hlook:Sw.look L12 f.kind=some (.func (.func 161) #[] #[]):=by
    rw [hk,hl12,hl11,hl10,hl9,hl8,hl7,hl6,hl5,hl4,hl3,hl2]
    rw [if_neg (by decide)];rw [if_neg (by decide)];rw [if_neg (by decide)];rw [if_neg (by decide)];rw [if_neg (by decide)];rw [if_neg (by decide)];rw [if_neg (by decide)];rw [if_neg (by decide)];rw [if_neg (by decide)];rw [if_neg (by decide)];rw [if_pos rfl]
   have hS:Yg sp m.fields f=(f.bits,f.bits):=by unfold Yg;simp [hk]
   rw [hlook] at hlk
   simp (disch:=try exact DI) only [↓PR,QR,simprocAttr,(Za (eM12.obj o3)).1,hlk,Option.getD_some]
   refine cv_fin _ _ _ _ eM12 ZcX ?_
   rw [hS]
   exact LV _ tv cv f hT' hC'
 · have hlook:Sw.look L12 f.kind=some (.func (.func 162) #[.agg (ZZ m fl mr).toArray] #[]):=by
    rw [hk,hl12,hl11,hl10,hl9,hl8,hl7,hl6,hl5,hl4,hl3]
    rw [if_neg (by decide)];rw [if_neg (by decide)];rw [if_neg (by decide)];rw [if_neg (by decide)];rw [if_neg (by decide)];rw [if_neg (by decide)];rw [if_neg (by decide)];rw [if_neg (by decide)];rw [if_neg (by decide)];rw [if_pos rfl]
   have hS:Yg sp m.fields f=(((YG f.low.toNat:Nat):Int)*8,if f.loose then 40 else ((YG f.high.toNat:Nat):Int)*8):=by unfold Yg;simp [hk]
   rw [hlook] at hlk
   simp (disch:=try exact DI) only [↓PR,QR,simprocAttr,(Za (eM12.obj o3)).1,hlk,Option.getD_some]
   refine cv_fin _ _ _ _ eM12 Zg1 ?_
   rw [hS]
   exact FD hf1 hT' hC' (ok.num hk).1 (ok.num hk).2
 · have hlook:Sw.look L12 f.kind=some (.func (.func 163) #[.agg (ZZ m fl mr).toArray] #[]):=by
    rw [hk,hl12,hl11,hl10,hl9,hl8,hl7,hl6,hl5,hl4]
    rw [if_neg (by decide)];rw [if_neg (by decide)];rw [if_neg (by decide)];rw [if_neg (by decide)];rw [if_neg (by decide)];rw [if_neg (by decide)];rw [if_neg (by decide)];rw [if_neg (by decide)];rw [if_pos rfl]
   have hS:Yg sp m.fields f=(capF (ivL m.fields f*8),capF (ivH m.fields f*8)):=by unfold Yg;simp [hk]
   rw [hlook] at hlk
   simp (disch:=try exact DI) only [↓PR,QR,simprocAttr,(Za (eM12.obj o3)).1,hlk,Option.getD_some]
   refine cv_fin _ _ _ _ eM12 ZcY ?_
   rw [hS]
   exact j2 _ m fl tv cv mr f hF' hT' hC' ok.terms (ok.iv (by omega)).1 (ok.iv (by omega)).2
 · have hlook:Sw.look L12 f.kind=some (.func (.func 164) #[] #[]):=by
    rw [hk,hl12,hl11,hl10,hl9,hl8,hl7,hl6,hl5]
    rw [if_neg (by decide)];rw [if_neg (by decide)];rw [if_neg (by decide)];rw [if_neg (by decide)];rw [if_neg (by decide)];rw [if_neg (by decide)];rw [if_neg (by decide)];rw [if_pos rfl]
   have hS:Yg sp m.fields f=(8,8*(f.high+1)):=by unfold Yg;simp [hk]
   rw [hlook] at hlk
   simp (disch:=try exact DI) only [↓PR,QR,simprocAttr,(Za (eM12.obj o3)).1,hlk,Option.getD_some]
   refine cv_fin _ _ _ _ eM12 Zg2 ?_
   rw [hS]
   exact To _ tv cv f hT' hC' (ok.high (by omega))
 · have hlook:Sw.look L12 f.kind=some (.func (.func 165) #[] #[]):=by
    rw [hk,hl12,hl11,hl10,hl9,hl8,hl7,hl6]
    rw [if_neg (by decide)];rw [if_neg (by decide)];rw [if_neg (by decide)];rw [if_neg (by decide)];rw [if_neg (by decide)];rw [if_neg (by decide)];rw [if_pos rfl]
   have hS:Yg sp m.fields f=(16,8*f.high):=by unfold Yg;simp [hk]
   rw [hlook] at hlk
   simp (disch:=try exact DI) only [↓PR,QR,simprocAttr,(Za (eM12.obj o3)).1,hlk,Option.getD_some]
   refine cv_fin _ _ _ _ eM12 Zg3 ?_
   rw [hS]
   exact Tp _ tv cv f hT' hC' (ok.high (by omega))
 · have hlook:Sw.look L12 f.kind=some (.func (.func 166) #[.agg (ZZ m fl mr).toArray] #[]):=by
    rw [hk,hl12,hl11,hl10,hl9,hl8,hl7]
    rw [if_neg (by decide)];rw [if_neg (by decide)];rw [if_neg (by decide)];rw [if_neg (by decide)];rw [if_neg (by decide)];rw [if_pos rfl]
   have hS:Yg sp m.fields f=(capF (ivL m.fields f*(Z5 sp f.of).1),capF (ivH m.fields f*(Z5 sp f.of).2)):=by unfold Yg;simp [hk]
   rw [hlook] at hlk
   simp (disch:=try exact DI) only [↓PR,QR,simprocAttr,(Za (eM12.obj o3)).1,hlk,Option.getD_some]
   refine cv_fin _ _ _ _ eM12 Zg4 ?_
   rw [hS]
   exact MX _ m fl tv cv mr f sp hMp hF' hT' hC' ok.terms (ok.iv (by omega)).1 (ok.iv (by omega)).2 (ok.of hk).1 (ok.of hk).2
 · have hlook:Sw.look L12 f.kind=some (.func (.func 167) #[] #[.pointer (some ⟨p2,0,none⟩)]):=by
    rw [hk,hl12,hl11,hl10,hl9,hl8]
    rw [if_neg (by decide)];rw [if_neg (by decide)];rw [if_neg (by decide)];rw [if_neg (by decide)];rw [if_pos rfl]
   have hS:Yg sp m.fields f=Z5 sp f.of:=by unfold Yg;simp [hk]
   rw [hlook] at hlk
   simp (disch:=try exact DI) only [↓PR,QR,simprocAttr,(Za (eM12.obj o3)).1,hlk,Option.getD_some]
   refine cv_fin _ _ _ _ eM12 Zg5 ?_
   rw [hS]
   exact Tq _ m fl tv cv mr f sp p2 hMp (eM12.obj o2) hT' hC'
 · have hlook:Sw.look L12 f.kind=some (.func (.func 168) #[.agg (ZZ m fl mr).toArray] #[]):=by
    rw [hk,hl12,hl11,hl10,hl9]
    rw [if_neg (by decide)];rw [if_neg (by decide)];rw [if_neg (by decide)];rw [if_pos rfl]
   have hS:Yg sp m.fields f=XN sp f.cases:=by unfold Yg;simp [hk]
   rw [hlook] at hlk
   simp (disch:=try exact DI) only [↓PR,QR,simprocAttr,(Za (eM12.obj o3)).1,hlk,Option.getD_some]
   refine cv_fin _ _ _ _ eM12 Zg6 ?_
   rw [hS]
   exact EA sp hMp hf1 hT' hC' (ok.cases hk)
 · have hlook:Sw.look L12 f.kind=some (.func (.func 169) #[] #[]):=by
    rw [hk,hl12,hl11,hl10]
    rw [if_neg (by decide)];rw [if_neg (by decide)];rw [if_pos rfl]
   have hS:Yg sp m.fields f=(0,f.bits - 1):=by unfold Yg;simp [hk]
   rw [hlook] at hlk
   simp (disch:=try exact DI) only [↓PR,QR,simprocAttr,(Za (eM12.obj o3)).1,hlk,Option.getD_some]
   refine cv_fin _ _ _ _ eM12 Zg7 ?_
   rw [hS]
   exact Tr _ tv cv f hT' hC' (ok.bits hk)
 · have hlook:Sw.look L12 f.kind=some (.func (.func 170) #[.agg (ZZ m fl mr).toArray] #[]):=by
    rw [hk,hl12,hl11]
    rw [if_neg (by decide)];rw [if_pos rfl]
   have hS:Yg sp m.fields f=if f.check=3 then (32,32) else (16,16):=by unfold Yg;simp [hk]
   rw [hlook] at hlk
   simp (disch:=try exact DI) only [↓PR,QR,simprocAttr,(Za (eM12.obj o3)).1,hlk,Option.getD_some]
   refine cv_fin _ _ _ _ eM12 Zg8 ?_
   rw [hS]
   have:=HD _ m fl tv cv mr f hf1 hT' hC'
   by_cases h3:f.check=3
   · rw [if_pos h3] at this;rw [if_pos h3];exact this
   · rw [if_neg h3] at this;rw [if_neg h3];exact this
 · have hlook:Sw.look L12 f.kind=some (.func (.func 163) #[.agg (ZZ m fl mr).toArray] #[]):=by
    rw [hk,hl12]
    rw [if_pos rfl]
   have hS:Yg sp m.fields f=(capF (ivL m.fields f*8),capF (ivH m.fields f*8)):=by unfold Yg;simp [hk]
   rw [hlook] at hlk
   simp (disch:=try exact DI) only [↓PR,QR,simprocAttr,(Za (eM12.obj o3)).1,hlk,Option.getD_some]
   refine cv_fin _ _ _ _ eM12 ZcY ?_
   rw [hS]
   exact j2 _ m fl tv cv mr f hF' hT' hC' ok.terms (ok.iv (by omega)).1 (ok.iv (by omega)).2
theorem Z6.of_heap {w:Wd} {b:Nat} {cs:List Vl} {T:TypeId} (h:w.heap[b]?=some (.cells cs.toArray T (0,0))):Z6 w b 0 cs:=λ j v hv=>by
 rw [Nat.zero_add,(Za h).1];simpa using hv
theorem Bk {L:List (Option TypeId×Vl)} {R:RT} {bs:List Nat}:∀ {w w0:Wd},bs.Nodup→(∀ b∈bs,ZR b w∧w0.heap.size≤b)→Ext w0 w →
 (∀ w',Ext w0 w'→(∀ (b:Nat) (o:Obj),(∀ d,o ≠ .deferred d)→w.heap[b]?=some o→w'.heap[b]?=some o)→Us Pg [] L R w')→Us Pg (bs.map Sw.mark) L R w:=by
 induction bs with
 | nil=>exact λ _ _ e h=>h _ e λ _ _ _ h=>h
 | cons b bs ih=>
  intro w w0 hn hm e h
  obtain ⟨hb,hn'⟩:=List.nodup_cons.1 hn
  have hmb:=hm b (List.mem_cons_self ..)
  refine V0 hmb.1 (ih (w0:=w0) hn' (λ c hc=>⟨?_,(hm c (List.mem_cons_of_mem _ hc)).2⟩) (e.putObj hmb.2 _) (λ w' e' h'=>h w' e' (λ c o ho hc=>h' c o ho ((World.putObj_heap_other ?_).trans hc))))
  · exact (World.putObj_heap_other (λ (e:c=b)=>hb (by rw [← e];exact hc))).trans (hm c (List.mem_cons_of_mem _ hc)).1
  · rintro rfl
    have:=hmb.1
    unfold ZR at this
    rw [hc] at this
    injection this with this
    exact ho _ this
theorem Dt {B:Nat} {bs:List Nat} (h:∀ b∈bs,b < B):Yo B (λ w=>∀ b∈bs,ZR b w):=λ w w' hl hm b hb=>Yo.low (h b hb) _ w w' hl (hm b hb)
theorem Oh {T:TypeId} {cs:AVl}:∀ d,Obj.cells cs T (0,0) ≠ .deferred d:=λ _ h=>by cases h
def BC (sp:List (BAr×Int×Int)) (l:List Zl) (a:Int×Int) (f:Zl):Int×Int:=
 if f.kind=10 then (capF (upI a.1 f.bits),capF (upI a.2 f.bits)) else (capF (a.1+(Yg sp l f).1),capF (a.2+(Yg sp l f).2))
def YC (sp:List (BAr×Int×Int)) (l:List Zl) (k:Nat):Int×Int:=(l.take k).foldl (BC sp l) (0,0)
theorem qn {sp:List (BAr×Int×Int)} {l:List Zl} {k:Nat} {f:Zl} (h:l[k]?=some f):YC sp l (k+1)=BC sp l (YC sp l k) f:=by unfold YC;rw [Z4 h,List.foldl_append];rfl
structure OkM (sp:List (BAr×Int×Int)) (l:List Zl):Prop where
 ok:∀ f∈l,OkS sp l f
 pad:∀ f∈l,f.kind=10→1≤f.bits∧f.bits≤512
 span:∀ f∈l,f.kind≠10→(0≤(Yg sp l f).1∧(Yg sp l f).1≤1099511627776)∧0≤(Yg sp l f).2∧(Yg sp l f).2≤1099511627776
theorem BG {v n:Int} (hv:0≤v) (hn:1≤n):0≤upI v n:=by
 obtain ⟨q,hq,he,h1,h2⟩:=xn hv hn
 rw [he];omega
theorem xe {sp:List (BAr×Int×Int)} {l:List Zl} (ok:OkM sp l):∀ k,(0≤(YC sp l k).1∧(YC sp l k).1≤1099511627776)∧0≤(YC sp l k).2∧(YC sp l k).2≤1099511627776
 | 0=>by simp [YC]
 | k+1=>by
  by_cases hk:k < l.length
  · obtain ⟨f,hf⟩:=getElem?_lt hk
    have hm:=List.mem_of_getElem? hf
    obtain ⟨⟨a1,a2⟩,b1,b2⟩:=xe ok k
    rw [qn hf]
    unfold BC
    split
    · rename_i h10
      have hb:=ok.pad f hm h10
      exact ⟨U1 (BG a1 hb.1),U1 (BG b1 hb.1)⟩
    · rename_i h10
      have hb:=ok.span f hm h10
      exact ⟨U1 (by omega),U1 (by omega)⟩
  · have:YC sp l (k+1)=YC sp l k:=by unfold YC;rw [List.take_of_length_le (by omega),List.take_of_length_le (by omega)]
    rw [this];exact xe ok k
def ZcJ (pb:Nat) (m:ZC) (fl:Vl) (mr:Nat) (sp:List (BAr×Int×Int)) (w:Wd):Prop:=w.heap[pb]?=some (.cells (ZZ m fl mr).toArray 124 (0,0))∧Yq w fl m.fields∧Yr w mr (RP sp)
theorem BV (w0:Wd) (m:ZC) (fl:Vl) (mr:Nat) (sp:List (BAr×Int×Int)) (hM:Yr w0 mr (RP sp)) (hF:Yq w0 fl m.fields):Ret Pg 129 #[.agg (ZZ m fl mr).toArray] w0 λ r w'=>∃ pb,r = .func (.func 171) #[] #[.pointer (some ⟨pb,0,none⟩)]∧ZcJ pb m fl mr sp w'∧w0.heap.size≤pb∧pb < w'.heap.size∧Ext w0 w':=by
 have hf1:=Zd.oneCell hF
 refine Zfu (R:=ZO _) ?_;unfold Zft
 simp (disch:=try exact DI) only [↓PR,QR,simprocAttr]
 have e0:Ext w0 (w0.alloc (.cells (ZZ m fl mr).toArray 124)):=ee
 exact ⟨_,rfl,⟨ZG _ _ _,hF.ext e0,hM.ext e0⟩,Nat.le_refl _,by simp,e0⟩
theorem BW {wB:Wd} (pb:Nat) (m:ZC) (fl:Vl) (mr:Nat) (sp:List (BAr×Int×Int)) (ok:OkM sp m.fields) (hF:Yq wB fl m.fields) (hMp:Yr wB mr (RP sp)) :
 NM Pg 171 #[.pointer (some ⟨pb,0,none⟩)] (m.fields.length+1) (λ k => .int .i64 k) (λ k=>Zv (YC sp m.fields k).1 (YC sp m.fields k).2) (λ w=>w.heap[pb]?=some (.cells (ZZ m fl mr).toArray 124 (0,0))∧Ext wB w):=by
 intro yv J Jx Jp w hy hFP hJl hJx hJp QZ h0
 obtain ⟨A,c,rfl,hlc,hcm,hlm,Y3⟩:=Zd.open hF
 obtain ⟨ho,eB⟩:=hFP 0 w h0
 have sB:=eB.size
 refine Zfv (t0:=yv) (t1 := .pointer (some ⟨pb,0,none⟩)) ?_
 unfold Zb3
 have lpb:=(Array.getElem?_eq_some_iff.1 ho).1
 simp (disch:=try exact DI) only [↓PR,QR,simprocAttr,(Za ho).1]
 have eX:Ext w (w.alloc (.cells #[.int .i64 0,.int .i64 0] 74)):=ee
 have oX:=ZG w #[.int .i64 0,.int .i64 0] 74
 have hJ0:=(hJl 0).ext h0 eX
 generalize (w.alloc (.cells #[.int .i64 0,.int .i64 0] 74))=X at eX oX hJ0 ⊢
 generalize hpx:w.heap.size=px at oX ⊢
 refine ZF (λ i w'=>∃ k:Nat,i = .int .i64 k∧k≤m.fields.length∧J k w'∧w'.heap[px]?=some (.cells #[.int .i64 (YC sp m.fields k).1,.int .i64 (YC sp m.fields k).2] 74 (0,0))) (λ i _=>m.fields.length - (intOf i).toNat) ⟨0,rfl,by omega,hJ0,oX⟩ ?_
 rintro _ w' ⟨k,rfl,hk,hJ,xX⟩
 obtain ⟨ho',e'⟩:=hFP k w' hJ
 have lX:=(Array.getElem?_eq_some_iff.1 xX).1
 have hin:=xe ok k
 rcases ZD hk with ⟨x,hx,hd,Yv,ZJ⟩ | ⟨hk,hd,ZJ⟩
 · obtain ⟨b,o,cs,rfl,hl,hA,hE⟩:=Y3 k x hx
   obtain ⟨tv,cv,rfl,hT,hC,ht1,hc1⟩:=hE.op
   have hm:=List.mem_of_getElem? hx
   have okx:=ok.ok x hm
   have hstp:=qn (sp:=sp) hx
   simp (disch:=try exact DI) only [↓PR,QR,simprocAttr,ZJ]
   unfold PC
   try unfold X0
   try unfold L0
   rw [YN underlying22 V2 _ _ _ _ _ k Yv,Wi ((hA.ext e').loads V2 rfl)]
   simp (disch:=try exact DI) only [↓PR,QR,simprocAttr,(Za xX).1]
   have eW:Ext w' (w'.alloc (.cells (Zm x tv cv).toArray 48)):=ee
   have oW:=ZG w' (Zm x tv cv).toArray 48
   have xW:=eW.obj xX
   generalize (w'.alloc (.cells (Zm x tv cv).toArray 48))=W at eW oW xW ⊢
   generalize hpf:w'.heap.size=pf at oW lX ⊢
   have hs:=QZ k (by omega) (λ u=>u.heap[pf]?=some (.cells (Zm x tv cv).toArray 48 (0,0))∧u.heap[px]?=some (.cells #[.int .i64 (YC sp m.fields k).1,.int .i64 (YC sp m.fields k).2] 74 (0,0))) ((Jv.has (by omega) (by simp)).and (Jv.has (by omega) (by simp))) W ((hJl k).ext hJ eW) ⟨oW,xW⟩
   refine UI hs (λ ch w h=>h.2) ?_
   rintro v w2 ⟨⟨o2,x2⟩,⟨rfl,h2⟩ | ⟨rfl,h2⟩⟩
   · obtain ⟨ho2,e2⟩:=hFP (k+1) w2 h2
     have l2:=(Array.getElem?_eq_some_iff.1 x2).1
     simp (disch:=try exact DI) only [↓PR,QR,simprocAttr]
     unfold PA
     have fin:∀ (w3:Wd) (a b:Int),Ext w2 w3→(a,b)=YC sp m.fields (k+1)→opU Pg (storeAt 74 (.pointer (some ⟨px,0,none⟩)) (Zv a b)) (Zh λ e w'=>match e with | .returned _=>J (m.fields.length+1) w'∨Jx w' | .panicked ch=>Jp ch w' | .outgrown=>False) w3 λ w=>Xt w λ _ w=>opV Pg (ZI .add 3 true (.int .i64 (k:Int)) (.int .i64 1)) (Zh λ e w'=>match e with | .returned _=>J (m.fields.length+1) w'∨Jx w' | .panicked ch=>Jp ch w' | .outgrown=>False) w λ t33 w=>(∃ k:Nat,t33 = .int .i64 k∧k≤m.fields.length∧J k w∧w.heap[px]?=some (.cells #[.int .i64 (YC sp m.fields k).1,.int .i64 (YC sp m.fields k).2] 74 (0,0)))∧m.fields.length - (intOf t33).toNat < m.fields.length - (intOf (Value.int .i64 (k:Int))).toNat:=by
      intro w3 a b e3 hab
      have x3:=e3.obj x2
      have l3:=(Array.getElem?_eq_some_iff.1 x3).1
      simp (disch:=try exact DI) only [↓PR,QR,simprocAttr,(Za x3).1,(Za x3).2]
      refine Yb ?_
      simp (disch:=try exact DI) only [↓PR,QR,simprocAttr]
      refine ⟨⟨k+1,rfl,by omega,?_,?_⟩,ZM (kd := .i64) Yv⟩
      · exact (hJl (k+1)).cell ((hJl (k+1)).cell ((hJl (k+1)).ext h2 e3) (by omega) 0 (.int .i64 a)) (by omega) 1 (.int .i64 b)
      · rw [← hab]
        simpa using ZE (o:=1) (ZE (o:=0) x3 (.int .i64 a)) (.int .i64 b)
     by_cases h10:x.kind=10
     · have d:(x.kind == 10)=true:=by simp [h10]
       have hp:=ok.pad x hm h10
       simp (disch:=try exact DI) only [↓PR,QR,simprocAttr,(Za o2).1,d]
       refine Zy ?_
       have eD:Ext w2 w2.drew:=(Ext.refl _).wdrew
       unfold Px
       simp (disch:=try exact DI) only [↓PR,QR,simprocAttr,(Za o2).1,(Za x2).1]
       refine zcr (Ul _ x.bits) λ w3 e3=>?_
       unfold Pw
       refine ⟨e3,?_⟩
       refine zcr (Kn w3 _ _ _ _ _ _ _ Zha (λ w _=>Ml w _ _ hin.1 hp) (λ w _=>Ml w _ _ hin.2 hp)) λ w4 e4=>?_
       refine ⟨e3.trans e4,?_⟩
       refine fin w4 _ _ (eD.trans (e3.trans e4)) ?_
       rw [hstp];unfold BC;rw [if_pos h10]
     · have d:(x.kind == 10)=false:=by simp [h10]
       have hp:=ok.span x hm h10
       simp (disch:=try exact DI) only [↓PR,QR,simprocAttr,(Za o2).1,d]
       refine Zy ?_
       have eD:Ext w2 w2.drew:=(Ext.refl _).wdrew
       unfold Pz
       simp (disch:=try exact DI) only [↓PR,QR,simprocAttr,(Za o2).1,(Za x2).1,(Za ho2).1]
       have E:=e2.trans eD
       refine zcr (RM _ m _ tv cv mr x sp (hMp.ext E) (hF.ext E) (hT.ext E) (hC.ext E) okx) λ w3 e3=>?_
       unfold Py
       refine ⟨e3,?_⟩
       refine zcr (Kn w3 _ _ _ _ _ _ _ Zhb (λ w _=>FL w _ _ hin.1 hp.1) (λ w _=>FL w _ _ hin.2 hp.2)) λ w4 e4=>?_
       refine ⟨e3.trans e4,?_⟩
       refine fin w4 _ _ (eD.trans (e3.trans e4)) ?_
       rw [hstp];unfold BC;rw [if_neg h10]
   · simp (disch:=try exact DI) only [↓PR,QR,simprocAttr]
     exact .inr h2
 · subst hk
   simp (disch:=try exact DI) only [↓PR,QR,simprocAttr,ZJ]
   unfold PB
   simp (disch:=try exact DI) only [↓PR,QR,simprocAttr,(Za ho').1,(Za xX).1]
   have hs:=QZ m.fields.length (by omega) _ Jv.true _ hJ trivial
   refine UI hs (λ ch w h=>h.2) ?_
   rintro v w2 ⟨_,⟨rfl,h2⟩ | ⟨rfl,h2⟩⟩
   · simp (disch:=try exact DI) only [↓PR,QR,simprocAttr]
     exact .inl h2
   · simp (disch:=try exact DI) only [↓PR,QR,simprocAttr]
     exact .inr h2
theorem Lc (w0:Wd) (m:ZC) (fl:Vl) (mr:Nat) (sp:List (BAr×Int×Int)) (hM:Yr w0 mr (RP sp)) (hF:Yq w0 fl m.fields) (ok:OkM sp m.fields) (i:Nat) (hi:i≤m.fields.length) (hl:m.fields.length≤1048576):Ret Pg 106 #[.agg (ZZ m fl mr).toArray,.int .i64 (i:Int)] w0 λ r w'=>r=Zv (YC sp m.fields i).1 (YC sp m.fields i).2∧Ext w0 w':=by
 have hf1:=Zd.oneCell hF
 refine Ze4 (R:=ZO _) ?_;unfold Zb1
 dsimp only
 simp (disch:=try exact DI) only [↓PR,QR,simprocAttr]
 generalize hW:World.alloc (World.alloc (World.alloc w0 _) _) _=W
 have e0:Ext w0 W:=by rw [← hW];exact ee
 have o3:W.heap[w0.heap.size+1]?=some (.cells #[.int .i64 (i:Int)] 3 (0,0)):=by rw [← hW];simp (disch:=try exact DI) only [↓PR,QR,simprocAttr]
 have o4:W.heap[w0.heap.size+1+1]?=some (.cells #[.int .i64 0,.int .i64 0] 74 (0,0)):=by rw [← hW];simp (disch:=try exact DI) only [↓PR,QR,simprocAttr]
 clear hW
 generalize hp4:w0.heap.size+1+1=p4 at o4 ⊢
 generalize hp3:w0.heap.size+1=p3 at o3 hp4 ⊢
 refine Zs (BV W m fl mr sp (hM.ext e0) (hF.ext e0)) ?_
 rintro _ w1 ⟨pb,rfl,⟨hob,_,_⟩,hb1,hb2,e1⟩
 have x3:=e1.obj o3
 have x4:=e1.obj o4
 have l4:=(Array.getElem?_eq_some_iff.1 o4).1
 have s1:=e1.size
 have E1:=e0.trans e1
 unfold Pb
 repeat rw [World.size_alloc]
 rw [hp3,hp4]
 have s0:=e0.size
 let I:Nat→Wd→Prop:=λ k w'=>k≤i∧Ext w0 w'∧w'.heap[pb]?=some (.cells (ZZ m fl mr).toArray 124 (0,0))∧w'.heap[p3]?=some (.cells #[.int .i64 (i:Int)] 3 (0,0))∧∃ a b:Int,w'.heap[p4]?=some (.cells #[.int .i64 a,.int .i64 b] 74 (0,0))
 let Ix:Nat→Wd→Prop:=λ c w'=>c=0∧Ext w0 w'∧w'.heap[p4]?=some (.cells #[.int .i64 (YC sp m.fields i).1,.int .i64 (YC sp m.fields i).2] 74 (0,0))
 have hLI:∀ k,Yx w1.heap.size (I k):=λ k=>(Yx.const _ _).and ((Yx.from E1.size).and ((Yx.low hb2 _).and ((Yx.low (by omega) _).and (.ex λ a => .ex λ b=>Yx.low (by omega) _))))
 have hLX:∀ c,Yx w1.heap.size (Ix c):=λ c=>(Yx.const _ _).and ((Yx.from E1.size).and (Yx.low (by omega) _))
 refine ⟨_,_,m.fields.length+1,(λ k => .int .i64 k),(λ k=>Zv (YC sp m.fields k).1 (YC sp m.fields k).2),_,I,Ix,λ _ _=>False,rfl,Zg9,BW pb m fl mr sp ok hF hM,⟨Nat.zero_le _,E1,hob,x3,0,0,x4⟩,λ k w h=>⟨h.2.2.1,h.2.1⟩,hLI,hLX,λ _=>Yx.const _ _,?_,?_,?_,?_⟩
 · intro Rk hRk j w2 hj hI2 hR2 Yv hready
   unfold Pa
   have eA:Ext w2 (w2.alloc (.cells #[.int .i64 (YC sp m.fields j).1,.int .i64 (YC sp m.fields j).2] 74)):=ee
   have oA:=ZG w2 #[.int .i64 (YC sp m.fields j).1,.int .i64 (YC sp m.fields j).2] 74
   have hR3:=hRk _ _ (KR.of eA) hR2
   have hI3:=(hLI j).ext hI2 eA
   have hrd:zT (w1.heap.size+1) (w2.alloc (.cells #[.int .i64 (YC sp m.fields j).1,.int .i64 (YC sp m.fields j).2] 74)):=by obtain ⟨r,h1,h2⟩:=hready;exact ⟨r,eA.obj h1,h2⟩
   simp (disch:=try exact DI) only [↓PR,QR,simprocAttr]
   generalize (w2.alloc (.cells #[.int .i64 (YC sp m.fields j).1,.int .i64 (YC sp m.fields j).2] 74))=X at oA hR3 hI3 hrd ⊢
   generalize w2.heap.size=q at oA ⊢
   refine ⟨hrd,λ w4 hbz=>?_⟩
   have hR4:=hRk _ _ (KR.busied hbz) hR3
   obtain ⟨hji,e4,y5,y3,a,b,y4⟩:=(hLI j).busied hbz (Nat.le_succ _) hI3
   have oq:w4.heap[q]?=some (.cells #[.int .i64 (YC sp m.fields j).1,.int .i64 (YC sp m.fields j).2] 74 (0,0)):=by
    obtain ⟨r,hr,rfl⟩:=hbz
    rw [World.putObj_heap_other (by rintro rfl;rw [oA] at hr;cases hr)]
    exact oA
   have l4':=(Array.getElem?_eq_some_iff.1 y4).1
   have n34:p3≠p4:=by omega
   unfold O9
   have hb4:p4 < w1.heap.size+1+1:=by omega
   have z4:((w4.setCell ⟨p4,0,none⟩ (.int .i64 (YC sp m.fields j).1)).setCell ⟨p4,1,none⟩ (.int .i64 (YC sp m.fields j).2)).heap[p4]?=some (.cells #[.int .i64 (YC sp m.fields j).1,.int .i64 (YC sp m.fields j).2] 74 (0,0)):=by simpa using ZE (o:=1) (ZE (o:=0) y4 (.int .i64 (YC sp m.fields j).1)) (.int .i64 (YC sp m.fields j).2)
   have only:∀ g,g≠p4→((w4.setCell ⟨p4,0,none⟩ (.int .i64 (YC sp m.fields j).1)).setCell ⟨p4,1,none⟩ (.int .i64 (YC sp m.fields j).2)).heap[g]?=w4.heap[g]?:=λ g hg=>(YY.setCell _ p4 1 _ g hg).trans (YY.setCell w4 p4 0 _ g hg)
   have hR5:=hRk _ _ ((KR.setCell (KR.refl _ w4) p4 0 (.int .i64 (YC sp m.fields j).1) (.inl hb4)).setCell p4 1 (.int .i64 (YC sp m.fields j).2) (.inl hb4)) hR4
   have e5:Ext w0 ((w4.setCell ⟨p4,0,none⟩ (.int .i64 (YC sp m.fields j).1)).setCell ⟨p4,1,none⟩ (.int .i64 (YC sp m.fields j).2)):=(e4.setCell (p:=⟨p4,0,none⟩) (by show w0.heap.size≤p4;omega) _).setCell (p:=⟨p4,1,none⟩) (by show w0.heap.size≤p4;omega) _
   by_cases hji':j=i
   · subst hji'
     have d:((j:Int) == (j:Int))=true:=by simp
     simp (disch:=try exact DI) only [↓PR,QR,simprocAttr,(Za oq).1,(Za y4).1,(Za y4).2,(Za y3).1,d]
     exact ⟨hR5,rfl,e5,z4⟩
   · have d:((j:Int) == (i:Int))=false:=by simp;omega
     simp (disch:=try exact DI) only [↓PR,QR,simprocAttr,(Za oq).1,(Za y4).1,(Za y4).2,(Za y3).1,d]
     exact ⟨hR5,by omega,e5,(only pb (by omega)).trans y5,(only p3 n34).trans y3,_,_,z4⟩
 · rintro w3 ⟨h,_⟩ hmk
   exact absurd h (by omega)
 · rintro c w3 ⟨rfl,e3,y4⟩ hmk
   have l4':=(Array.getElem?_eq_some_iff.1 y4).1
   show HZ _ _ _ _
   unfold HZ
   have z4:((w3.setCell ⟨p4,0,none⟩ (.int .i64 (YC sp m.fields i).1)).setCell ⟨p4,1,none⟩ (.int .i64 (YC sp m.fields i).2)).heap[p4]?=some (.cells #[.int .i64 (YC sp m.fields i).1,.int .i64 (YC sp m.fields i).2] 74 (0,0)):=by simpa using ZE (o:=1) (ZE (o:=0) y4 (.int .i64 (YC sp m.fields i).1)) (.int .i64 (YC sp m.fields i).2)
   have e5:Ext w0 ((w3.setCell ⟨p4,0,none⟩ (.int .i64 (YC sp m.fields i).1)).setCell ⟨p4,1,none⟩ (.int .i64 (YC sp m.fields i).2)):=(e3.setCell (p:=⟨p4,0,none⟩) (by show w0.heap.size≤p4;omega) _).setCell (p:=⟨p4,1,none⟩) (by show w0.heap.size≤p4;omega) _
   have hmk':=(hmk.setCell ⟨p4,0,none⟩ (.int .i64 (YC sp m.fields i).1)).setCell ⟨p4,1,none⟩ (.int .i64 (YC sp m.fields i).2)
   simp (disch:=try exact DI) only [↓PR,QR,simprocAttr,(Za y4).1,(Za y4).2]
   refine Bk (bs:=[w1.heap.size]) (w0:=w0) (by simp) (λ b hb=>?_) e5 (λ w' e' hh=>?_)
   · obtain rfl:=List.mem_singleton.1 hb
     exact ⟨hmk',E1.size⟩
   · have z8:=hh _ _ Oh z4
     simp (disch:=try exact DI) only [↓PR,QR,simprocAttr,WW,qp,Qo,(Za z8).1]
     exact ⟨by trivial,e'⟩
 · rintro ch w3 h
   exact h.elim
def CW (sp:List (BAr×Int×Int)) (m:ZC):List (BAr×Int×Int):=sp++[(m.name,YC sp m.fields m.fields.length)]
def ZK (l:List ZC):List (BAr×Int×Int):=l.foldl CW []
theorem Vd {l:List ZC} {k:Nat} {m:ZC} (h:l[k]?=some m):ZK (l.take (k+1))=CW (ZK (l.take k)) m:=by unfold ZK;rw [Z4 h,List.foldl_append];rfl
def OkD (l:List ZC):Prop:=∀ k m,l[k]?=some m→OkM (ZK (l.take k)) m.fields∧m.fields.length≤40
theorem Yk.others {α:Type} {w w':Wd} {lo n:Nat} {T:TypeId} {enc:α→List Vl} {v:Vl} {l:List α} (h:Yk w lo T n enc v l) (hh:∀ (g:Nat) (cur:AVl) (T:TypeId) (fr:Nat×Nat),w.heap[g]?=some (.cells cur T fr)→w'.heap[g]?=w.heap[g]?):Yk w' lo T n enc v l:=by
 refine ⟨h.1,?_⟩
 rcases h.2 with h2 | ⟨g,cap,cur,h1,h2,h3,h4⟩
 · exact .inl h2
 · exact .inr ⟨g,cap,cur,h1,h2,(hh _ _ _ _ h3).trans h3,h4⟩
theorem SK (sp:List (BAr×Int×Int)) (p:BAr×Int×Int):RP (sp++[p])=RP sp++[(p.1,Zv p.2.1 p.2.2)]:=by unfold RP;simp
abbrev plE (mr:Nat) (x:Cs 2):List Vl:=x.1++[.map (some mr)]
theorem D4 (mr:Nat) (x:Cs 2):(plE mr x).length=3:=by simp [plE,x.2]
theorem CM (w0:Wd) (v:Vl) (d:YQ) (mv:Vl) (css:List (Cs 2)) (hv:v = .agg (Zz d mv).toArray) (hraw:Zd w0 2 (λ _ cs (x:Cs 2)=>cs=x.1) mv css) (hmates:Kk 2 (GW w0) css d.msgs) (ok:OkD d.msgs) (hl:d.msgs.length≤1048576):Ret Pg 78 #[v] w0 λ r w'=>∃ mr,Yk w' w0.heap.size 124 3 (plE mr) r css∧w0.heap.size≤mr∧Yr w' mr (RP (ZK d.msgs))∧Ext w0 w':=by
 subst hv
 have Xl:css.length=d.msgs.length:=hmates.1
 have hm1:=Zd.oneCell hraw
 obtain ⟨A,c,rfl,hlc,hcm,hlm,Y3⟩:=Zd.open hraw
 refine ZfB (R:=ZO _) ?_;unfold ZfA
 simp (disch:=try exact DI) only [↓PR,QR,simprocAttr]
 have e0:Ext w0 ((w0.alloc (.cells (Zz d (.slice A css.length c)).toArray 28)).alloc (.map #[] 0)):=ee
 have hM0:Yr ((w0.alloc (.cells (Zz d (.slice A css.length c)).toArray 28)).alloc (.map #[] 0)) (w0.heap.size+1) []:=by have:=Yr.new (w0.alloc (.cells (Zz d (.slice A css.length c)).toArray 28));rwa [World.size_alloc] at this
 generalize ((w0.alloc (.cells (Zz d (.slice A css.length c)).toArray 28)).alloc (.map #[] 0))=W at e0 hM0 ⊢
 generalize hmr:w0.heap.size+1=mr at hM0 ⊢
 refine Yn (λ o i w=>∃ k:Nat,i = .int .i64 k∧k≤css.length∧Yk w w0.heap.size 124 3 (plE mr) o (css.take k)∧Yr w mr (RP (ZK (d.msgs.take k)))∧Ext w0 w) (λ _ i _=>css.length - (intOf i).toNat) ⟨0,rfl,by omega,Yk.nil _ _ _ _ _,hM0,e0⟩ ?_
 rintro o _ w ⟨k,rfl,hk,hO,hM,e⟩
 rcases ZD hk with ⟨x,hx,hd,Yv,ZJ⟩ | ⟨hk,hd,ZJ⟩
 · obtain ⟨b,ob,cs,rfl,hl2,hA,rfl⟩:=Y3 k x hx
   obtain ⟨m,hm⟩:=getElem?_lt (l:=d.msgs) (k:=k) (by omega)
   obtain ⟨fl,hxe,hF⟩:=hmates.2 k m x hm hx
   obtain ⟨okm,h40⟩:=ok k m hm
   have hf1:=Zd.oneCell hF
   obtain ⟨A2,c2,rfl,_,_,_,_⟩:=Zd.open hF
   rw [hxe] at hA
   simp (disch:=try exact DI) only [↓PR,QR,simprocAttr,ZJ]
   unfold PM
   try unfold X0
   try unfold L0
   rw [YN underlying26 Ki _ _ _ _ _ k Yv,Wi ((hA.ext e).loads Ki rfl)]
   simp (disch:=try exact DI) only [↓PR,QR,simprocAttr]
   repeat rw [World.size_setCell]
   repeat rw [World.size_alloc]
   rw [hmr]
   have eX:Ext w ((w.alloc (.cells #[.string m.name,.slice A2 m.fields.length c2] 24)).alloc (.cells #[.string m.name,.slice A2 m.fields.length c2,.map (some mr)] 124)):=ee
   have o6:((w.alloc (.cells #[.string m.name,.slice A2 m.fields.length c2] 24)).alloc (.cells #[.string m.name,.slice A2 m.fields.length c2,.map (some mr)] 124)).heap[w.heap.size]?=some (.cells #[.string m.name,.slice A2 m.fields.length c2] 24 (0,0)):=by simp (disch:=try exact DI) only [↓PR,QR,simprocAttr]
   have o7:((w.alloc (.cells #[.string m.name,.slice A2 m.fields.length c2] 24)).alloc (.cells #[.string m.name,.slice A2 m.fields.length c2,.map (some mr)] 124)).heap[w.heap.size+1]?=some (.cells (ZZ m (.slice A2 m.fields.length c2) mr).toArray 124 (0,0)):=by simp (disch:=try exact DI) only [↓PR,QR,simprocAttr]
   generalize ((w.alloc (.cells #[.string m.name,.slice A2 m.fields.length c2] 24)).alloc (.cells #[.string m.name,.slice A2 m.fields.length c2,.map (some mr)] 124))=X at eX o6 o7 ⊢
   have hlm':=hM.lt
   generalize hp7:w.heap.size+1=p7 at o7 ⊢
   refine Zy ?_
   have eD:Ext X X.drew:=(Ext.refl _).wdrew
   have E:=e.trans (eX.trans eD)
   unfold PL
   simp (disch:=try exact DI) only [↓PR,QR,simprocAttr,(Za o6).1,(Za o7).1]
   refine zcr (Lc _ m _ mr _ (hM.ext (eX.trans eD)) (hF.ext E) okm m.fields.length (Nat.le_refl _) (by omega)) λ w2 e2=>?_
   refine ⟨e2,?_⟩
   have E2:=eX.trans (eD.trans e2)
   have hM2:=hM.ext E2
   rw [Bj underlying122 underlying9 hM2]
   refine Yb ?_
   have hM3:=hM2.put m.name (Zv (YC (ZK (d.msgs.take k)) m.fields m.fields.length).1 (YC (ZK (d.msgs.take k)) m.fields m.fields.length).2)
   rw [← SK _ (m.name,YC (ZK (d.msgs.take k)) m.fields m.fields.length)] at hM3
   have hst:=Vd hm
   have x7:=(CN (r:=mr) (ps:=RP (ZK (d.msgs.take k))) (k:=m.name) (v:=Zv (YC (ZK (d.msgs.take k)) m.fields m.fields.length).1 (YC (ZK (d.msgs.take k)) m.fields m.fields.length).2) (w:=w2) (b:=p7) (by omega)).trans (e2.obj (eD.obj o7))
   have E3:Ext w0 (putW w2 mr (RP (ZK (d.msgs.take k))) m.name (Zv (YC (ZK (d.msgs.take k)) m.fields m.fields.length).1 (YC (ZK (d.msgs.take k)) m.fields m.fields.length).2)):=Ext.putW (e.trans E2) (by omega) _ _
   have hO3:Yk (putW w2 mr (RP (ZK (d.msgs.take k))) m.name (Zv (YC (ZK (d.msgs.take k)) m.fields m.fields.length).1 (YC (ZK (d.msgs.take k)) m.fields m.fields.length).2)) w0.heap.size 124 3 (plE mr) o (css.take k):=Yk.others (hO.ext E2) λ g cur T fr hg=>CN (by rintro rfl;rw [hM2.obj] at hg;cases hg)
   unfold PK
   simp (disch:=try exact DI) only [↓PR,QR,simprocAttr,(Za x7).1]
   have sY:(putW w2 mr (RP (ZK (d.msgs.take k))) m.name (Zv (YC (ZK (d.msgs.take k)) m.fields m.fields.length).1 (YC (ZK (d.msgs.take k)) m.fields m.fields.length).2)).heap.size=w2.heap.size:=putW_size
   generalize (putW w2 mr (RP (ZK (d.msgs.take k))) m.name (Zv (YC (ZK (d.msgs.take k)) m.fields m.fields.length).1 (YC (ZK (d.msgs.take k)) m.fields m.fields.length).2))=Y at hM3 x7 E3 hO3 sY ⊢
   have eY:Ext Y (Y.alloc (.cells #[.string m.name,.slice A2 m.fields.length c2,.map (some mr)] 124)):=ee
   have oY:=ZG Y #[.string m.name,.slice A2 m.fields.length c2,.map (some mr)] 124
   rw [sY] at oY
   have hM4:=hM3.ext eY
   have hO4:=hO3.ext eY
   have E4:=E3.trans eY
   have hxc:plE mr x=[.string m.name,.slice A2 m.fields.length c2,.map (some mr)]:=by unfold plE;rw [hxe];rfl
   generalize (Y.alloc (.cells #[.string m.name,.slice A2 m.fields.length c2,.map (some mr)] 124))=Z at oY hM4 hO4 E4 ⊢
   refine QT (l':=[x]) underlying119 Kz rfl (by decide) (D4 mr) (λ y hy u hu=>?_) hO4 (λ j y hy=>?_) E4.size (Nat.le_trans (Nat.mul_le_mul (show (css.take k).length+1≤1048577 by rw [List.length_take];omega) ZcM) (by decide)) (by rw [List.length_take];simp;omega) ?_
   · simp only [List.mem_singleton] at hy
     subst hy
     rw [hxc] at hu
     simp only [List.mem_cons,List.not_mem_nil,or_false] at hu
     rcases hu with rfl | rfl | rfl<;>rfl
   · cases j with
     | succ j=>simp at hy
     | zero=>
      simp at hy;subst hy
      rw [hxc]
      exact Z6.of_heap oY
   · rintro v' w4 hO5 hg5
     have E5:Ext w0 w4:=E4.grown hg5 λ g hg=>(World.ownsRow.lt hO4 g hg).1
     have hM5:Yr w4 mr (RP (ZK (d.msgs.take k)++[(m.name,YC (ZK (d.msgs.take k)) m.fields m.fields.length)])):=by
      have hb:=hg5.block mr hM4.lt (λ hh=>by
       rcases hO4.2 with ⟨hx,_⟩ | ⟨g,cap,cur,h1,_,h3,_⟩
       · rw [hx] at hh;cases hh
       · rw [h1] at hh
         injection hh with hh
         subst hh
         rw [hM4.obj] at h3;cases h3)
      exact Xn.of_obj hM4 hb
     have hw:IntKind.i64.wrap ((k:Int)+1)=((k+1:Nat):Int):=by rw [Z0 (by omega) (by omega)];omega
     simp (disch:=try exact DI) only [↓PR,QR,simprocAttr,hw]
     refine ⟨⟨k+1,rfl,by omega,by rw [Z4 hx];exact hO5,by rw [hst];exact hM5,E5⟩,ZM (kd := .i64) Yv⟩
 · subst hk
   simp (disch:=try exact DI) only [↓PR,QR,simprocAttr,ZJ]
   rw [List.take_length] at hO
   rw [Xl,List.take_length] at hM
   exact ⟨mr,hO,by omega,hM,e⟩
def UC (d:YQ) (i:Int):Int:=if (YA d).2.2≠0 then 2 else if i < 0∨d.msgs.length≤i then 3 else 0
def OA (d:YQ) (i:Int):List Zl:=if UC d i=0 then (match d.msgs[i.toNat]? with
 | some m=>m.fields
 | none=>[]) else []
theorem M3 {d:YQ} {i:Int} (h:UC d i=0):(YA d).2.2=0∧∃ (k:Nat) (m:ZC),i=k∧k < d.msgs.length∧d.msgs[k]?=some m∧OA d i=m.fields:=by
 have h':=h
 unfold UC at h
 split at h
 · exact absurd h (by decide)
 · rename_i h0
   split at h
   · exact absurd h (by decide)
   · rename_i h1
     obtain ⟨k,rfl⟩:∃ k:Nat,i=k:=⟨i.toNat,by omega⟩
     have hk:k < d.msgs.length:=by omega
     obtain ⟨m,hm⟩:=getElem?_lt hk
     refine ⟨Decidable.not_not.1 h0,k,m,rfl,hk,hm,?_⟩
     unfold OA
     rw [if_pos h',Int.toNat_natCast,hm]
section
variable {w0:Wd}
def ZbB (n p:Int):Prop:=(n=2∨n=4∨(8≤n∧n≤512∧n.tmod 8=0))∧0≤p∧p≤335544320
instance (n p:Int):Decidable (ZbB n p):=by unfold ZbB;infer_instance
end
structure qu (d:YQ):Prop where
 each:(YA d).2.2=0→OkD d.msgs
 full:(YA d).2.2=0→∀ m∈d.msgs,OkM (ZK d.msgs) m.fields
section
variable {w0:Wd} {d:YQ}
theorem FK (v:Vl) (i:Int) (hd:YT w0 v d) (ht:UJ d) (hs:qu d) (hl:d.msgs.length≤1048576):Ret Pg 125 #[v,.int .i64 i] w0 λ r w'=>
 (UC d i≠0∧r = .tuple #[.agg #[.string ByteArray.empty,.slice none 0 0,.map none],.int .i64 (UC d i)] ∨
  ∃ m fl mr,UC d i=0∧d.msgs[i.toNat]?=some m∧r = .tuple #[.agg (ZZ m fl mr).toArray,.int .i64 0]∧Yq w0 fl m.fields∧Yr w' mr (RP (ZK d.msgs)))∧Ext w0 w':=by
 obtain ⟨mv,rfl,hM⟩:=hd
 have hm1:=Zd.oneCell hM
 refine Zfz (R:=ZO _) ?_;unfold Zfy
 rw [Wh,YE Kz]
 generalize hΦ:(λ (r:Vl) (w':Wd)=>(UC d i≠0∧r = .tuple #[.agg #[.string ByteArray.empty,.slice none 0 0,.map none],.int .i64 (UC d i)]∨∃ m fl mr,UC d i=0∧d.msgs[i.toNat]?=some m∧r = .tuple #[.agg (ZZ m fl mr).toArray,.int .i64 0]∧Yq w0 fl m.fields∧Yr w' mr (RP (ZK d.msgs)))∧Ext w0 w')=Φ
 show opV _ _ _ ((w0.alloc (.cells (Zz d mv).toArray 28)).alloc (.cells #[.string ByteArray.empty,.slice none 0 0,.map none] 124)) _
 simp only [World.size_alloc]
 generalize hW:((w0.alloc (.cells (Zz d mv).toArray 28)).alloc (.cells #[.string ByteArray.empty,.slice none 0 0,.map none] 124))=W
 have e0:Ext w0 W:=by rw [← hW];exact ee
 have o2:W.heap[w0.heap.size]?=some (.cells (Zz d mv).toArray 28 (0,0)):=by rw [← hW];simp (disch:=try exact DI) only [↓PR,QR,simprocAttr]
 have o4:W.heap[w0.heap.size+1]?=some (.cells #[.string ByteArray.empty,.slice none 0 0,.map none] 124 (0,0)):=by rw [← hW];simp (disch:=try exact DI) only [↓PR,QR,simprocAttr]
 clear hW
 generalize hp4:w0.heap.size+1=p4 at o4 ⊢
 simp (disch:=try exact DI) only [↓PR,QR,simprocAttr,(Za o2).1]
 refine zcr (jY _ d ⟨_,rfl,hM.ext e0⟩ ht) λ w1 e1=>?_
 have E1:=e0.trans e1
 have x4:=e1.obj o4
 have x2:=e1.obj o2
 have l4:=(Array.getElem?_eq_some_iff.1 x4).1
 have bad:∀ (c:Int),UC d i=c→c≠0→∀ w,Ext w0 w→w.heap[p4]?=some (.cells #[.string ByteArray.empty,.slice none 0 0,.map none] 124 (0,0))→qW Pg 124 (.pointer (some ⟨p4,0,none⟩)) w λ r0=>ZO Φ (.returned (.tuple #[r0,.int .i64 c])) w:=by
  intro c hc hc0 w e x
  simp (disch:=try exact DI) only [↓PR,QR,simprocAttr,(Za x).1]
  rw [← hΦ]
  exact ⟨.inl ⟨by rw [hc];exact hc0,by rw [hc]⟩,e⟩
 have y4:∀ w:Wd,w.heap[p4]?=some (.cells #[.string ByteArray.empty,.slice none 0 0,.map none] 124 (0,0))→(((w.setCell ⟨p4,0,none⟩ (.string ByteArray.empty)).setCell ⟨p4,1,none⟩ (.slice none 0 0)).setCell ⟨p4,2,none⟩ (.map none)).heap[p4]?=some (.cells #[.string ByteArray.empty,.slice none 0 0,.map none] 124 (0,0)):=λ w x=>by
  simpa using ZE (o:=2) (ZE (o:=1) (ZE (o:=0) x (.string ByteArray.empty)) (.slice none 0 0)) (.map none)
 have e4:∀ (w:Wd) (u0 u1 u2:Vl),Ext w0 w→Ext w0 (((w.setCell ⟨p4,0,none⟩ u0).setCell ⟨p4,1,none⟩ u1).setCell ⟨p4,2,none⟩ u2):=λ w u0 u1 u2 e=>((e.setCell (p:=⟨p4,0,none⟩) (by show w0.heap.size≤p4;omega) _).setCell (p:=⟨p4,1,none⟩) (by show w0.heap.size≤p4;omega) _).setCell (p:=⟨p4,2,none⟩) (by show w0.heap.size≤p4;omega) _
 by_cases hf:(YA d).2.2=0
 case neg=>
  have hfb:Xy d=true:=by unfold Xy;simp [hf]
  have hE:UC d i=2:=by unfold UC;rw [if_pos hf]
  rw [hfb]
  simp (disch:=try exact DI) only [↓PR,QR,simprocAttr,↓PJ,(Za x4).1,(Za x4).2]
  first
  | exact bad 2 hE (by decide) _ (e4 _ _ _ _ E1) (y4 _ x4)
  | (rw [← hΦ];exact ⟨.inl ⟨by rw [hE];decide,by rw [hE]⟩,e4 _ _ _ _ E1⟩)
 have hfb:Xy d=false:=by unfold Xy;simp [hf]
 rw [hfb]
 obtain ⟨css,hraw,hmates⟩:=Zd.raw hM
 obtain ⟨A,c,rfl,hlc,hcm,hlm,Y3⟩:=Zd.open hM
 by_cases hi:i < 0
 · have d1:decide (i < 0)=true:=decide_eq_true hi
   have hE:UC d i=3:=by unfold UC;rw [if_neg (by simp [hf]),if_pos (.inl hi)]
   simp (disch:=try exact DI) only [↓PR,QR,simprocAttr,d1,↓DB,↓DA,↓H1,(Za x4).1,(Za x4).2]
   first
   | exact bad 3 hE (by decide) _ (e4 _ _ _ _ E1) (y4 _ x4)
   | (rw [← hΦ];exact ⟨.inl ⟨by rw [hE];decide,by rw [hE]⟩,e4 _ _ _ _ E1⟩)
 have d1:decide (i < 0)=false:=decide_eq_false hi
 by_cases hh:(d.msgs.length:Int)≤i
 · have d2:decide (i≥(d.msgs.length:Int))=true:=decide_eq_true hh
   have hE:UC d i=3:=by unfold UC;rw [if_neg (by simp [hf]),if_pos (.inr hh)]
   simp (disch:=try exact DI) only [↓PR,QR,simprocAttr,d1,d2,↓DB,↓DA,↓H1,(Za x2).1,(Za x4).1,(Za x4).2]
   first
   | exact bad 3 hE (by decide) _ (e4 _ _ _ _ E1) (y4 _ x4)
   | (rw [← hΦ];exact ⟨.inl ⟨by rw [hE];decide,by rw [hE]⟩,e4 _ _ _ _ E1⟩)
 have d2:decide (i≥(d.msgs.length:Int))=false:=decide_eq_false hh
 have hE:UC d i=0:=by unfold UC;rw [if_neg (by simp [hf]),if_neg (by omega)]
 obtain ⟨k,rfl⟩:∃ k:Nat,i=k:=⟨i.toNat,by omega⟩
 obtain ⟨m,hm⟩:=getElem?_lt (l:=d.msgs) (k:=k) (by omega)
 obtain ⟨x,hx⟩:=getElem?_lt (l:=css) (k:=k) (by rw [hmates.1];omega)
 obtain ⟨fl,hxe,hF⟩:=hmates.2 k m x hm hx
 have hf1:=Zd.oneCell hF
 simp (disch:=try exact DI) only [↓PR,QR,simprocAttr,d1,d2,↓DB,↓DA,(Za x2).1]
 have hms:Kk 2 (GW w1) css d.msgs:=hmates.imp λ cs x hx=>Ds _ _ _ _ E1 hx
 refine Zs (CM w1 _ d _ css rfl (hraw.ext KK E1) hms (hs.each hf) hl) ?_
 rintro v2 w2 ⟨mr,hO,hmr,hM2,e2⟩
 obtain ⟨g,cap,rfl,hg0,hgl,hT,hfz,ZbU⟩:=hO.row (D4 mr) (by rw [hmates.1];omega)
 have hEk:=ZbU k x hx
 rw [show plE mr x=ZZ m fl mr by unfold plE;rw [hxe];rfl] at hEk
 have z4:=e2.obj x4
 have l44:=(Array.getElem?_eq_some_iff.1 z4).1
 have E2:=E1.trans e2
 unfold PI
 try unfold X0
 try unfold L0
 rw [YN underlying119 Kz _ _ _ _ _ k (by rw [hmates.1];omega),Nat.zero_add,Wi (hEk.loads Kz rfl)]
 have nm:mr≠p4:=by omega
 have w4:(((w2.setCell ⟨p4,0,none⟩ (.string m.name)).setCell ⟨p4,1,none⟩ fl).setCell ⟨p4,2,none⟩ (.map (some mr))).heap[p4]?=some (.cells (ZZ m fl mr).toArray 124 (0,0)):=by simpa using ZE (o:=2) (ZE (o:=1) (ZE (o:=0) z4 (.string m.name)) fl) (.map (some mr))
 simp (disch:=try exact DI) only [↓PR,QR,simprocAttr,(Za z4).1,(Za z4).2]
 rw [← hΦ]
 exact ⟨.inr ⟨m,fl,mr,hE,by rw [Int.toNat_natCast];exact hm,rfl,hF,((hM2.setCell _ _).setCell _ _).setCell _ _⟩,e4 _ _ _ _ E2⟩
def XO (d:YQ) (i fld:Int):Int:=if UC d i≠0 then UC d i else if fld < 0∨(OA d i).length≤fld then 3 else 0
theorem Dp (v:Vl) (i fld:Int) (hd:YT w0 v d) (ht:UJ d) (hs:qu d) (hl:d.msgs.length≤1048576) (g:FuncId) (caps:AVl) (hg:Callable Pg g) (A B:Int)
 (hc:∀ m,d.msgs[i.toNat]?=some m→XO d i fld=0→∀ w fl mr,Ext w0 w→Yq w fl m.fields→Yr w mr (RP (ZK d.msgs))→Ret Pg g (#[] ++ #[.agg (ZZ m fl mr).toArray]++caps) w λ r w'=>r=Zv A B∧Ext w w') :
 Ret Pg 99 #[v,.int .i64 i,.int .i64 fld,.func (.func g) #[] caps] w0 λ r w'=>r=(if XO d i fld=0 then .tuple #[Zv A B,.int .i64 0] else .tuple #[Zv 0 0,.int .i64 (XO d i fld)])∧Ext w0 w':=by
 obtain ⟨mv,rfl,hM⟩:=hd
 have hm1:=Zd.oneCell hM
 refine Ze1 (R:=ZO _) ?_;unfold Ze0
 rw [Wh,YE UY]
 generalize hΦ:(λ (r:Vl) (w':Wd)=>r=(if XO d i fld=0 then .tuple #[Zv A B,.int .i64 0] else .tuple #[Zv 0 0,.int .i64 (XO d i fld)])∧Ext w0 w')=Φ
 show opV _ _ _ ((w0.alloc (.cells (Zz d mv).toArray 28)).alloc (.cells #[.int .i64 0,.int .i64 0] 74)) _
 simp only [World.size_alloc]
 generalize hW:((w0.alloc (.cells (Zz d mv).toArray 28)).alloc (.cells #[.int .i64 0,.int .i64 0] 74))=W
 have e0:Ext w0 W:=by rw [← hW];exact ee
 have o2:W.heap[w0.heap.size]?=some (.cells (Zz d mv).toArray 28 (0,0)):=by rw [← hW];simp (disch:=try exact DI) only [↓PR,QR,simprocAttr]
 have o8:W.heap[w0.heap.size+1]?=some (.cells #[.int .i64 0,.int .i64 0] 74 (0,0)):=by rw [← hW];simp (disch:=try exact DI) only [↓PR,QR,simprocAttr]
 clear hW
 generalize hp8:w0.heap.size+1=p8 at o8 ⊢
 simp (disch:=try exact DI) only [↓PR,QR,simprocAttr,(Za o2).1]
 refine Zs (FK _ i ⟨_,rfl,hM.ext e0⟩ ht hs hl) ?_
 rintro r1 w1 ⟨hr,e1⟩
 have E1:=e0.trans e1
 have x8:=e1.obj o8
 have s1:=E1.size
 unfold O7
 have e8:∀ (w:Wd) (u0 u1:Vl),Ext w0 w→Ext w0 ((w.setCell ⟨p8,0,none⟩ u0).setCell ⟨p8,1,none⟩ u1):=λ w u0 u1 e=>(e.setCell (p:=⟨p8,0,none⟩) (by show w0.heap.size≤p8;omega) _).setCell (p:=⟨p8,1,none⟩) (by show w0.heap.size≤p8;omega) _
 rcases hr with ⟨hE,rfl⟩ | ⟨m,fl,mr,hE,hm,rfl,hF,hMp⟩
 · have hG:XO d i fld=UC d i:=by unfold XO;rw [if_pos hE]
   have d1:(UC d i == 0)=false:=by simpa using hE
   have d2:(UC d i != 0)=true:=by simpa using hE
   have eX:Ext w1 (w1.alloc (.cells #[.string ByteArray.empty,.slice none 0 0,.map none] 124)):=ee
   have y8:=eX.obj x8
   have l8:=(Array.getElem?_eq_some_iff.1 y8).1
   simp (disch:=try exact DI) only [↓PR,QR,simprocAttr,d1,d2,↓AP,↓AO,↓AN,(Za y8).1,(Za y8).2,(Za x8).1,(Za x8).2]
   rw [← hΦ]
   exact ⟨by rw [hG,if_neg hE],ee⟩
 · have hF0:=hF
   obtain ⟨A',c',rfl,hlc',hcm',hlm',_⟩:=Zd.open hF
   have hL:OA d i=m.fields:=by unfold OA;rw [if_pos hE,hm]
   have eX:Ext w1 (w1.alloc (.cells (ZZ m (.slice A' m.fields.length c') mr).toArray 124)):=ee
   have oX:=ZG w1 (ZZ m (.slice A' m.fields.length c') mr).toArray 124
   have y8:=eX.obj x8
   have l8:=(Array.getElem?_eq_some_iff.1 y8).1
   have l88:=(Array.getElem?_eq_some_iff.1 x8).1
   by_cases hfl:fld < 0
   · have d1:decide (fld < 0)=true:=decide_eq_true hfl
     have hG:XO d i fld=3:=by unfold XO;rw [if_neg (by simp [hE]),if_pos (.inl hfl)]
     simp (disch:=try exact DI) only [↓PR,QR,simprocAttr,d1,↓AP,↓AO,↓AN,(Za y8).1,(Za y8).2,(Za x8).1,(Za x8).2]
     rw [← hΦ]
     exact ⟨by rw [hG];rfl,ee⟩
   have d1:decide (fld < 0)=false:=decide_eq_false hfl
   by_cases hfh:(m.fields.length:Int)≤fld
   · have d2:decide (fld≥(m.fields.length:Int))=true:=decide_eq_true hfh
     have hG:XO d i fld=3:=by unfold XO;rw [if_neg (by simp [hE]),hL,if_pos (.inr hfh)]
     simp (disch:=try exact DI) only [↓PR,QR,simprocAttr,d1,d2,↓AP,↓AO,↓AN,(Za y8).1,(Za y8).2,(Za x8).1,(Za x8).2]
     rw [← hΦ]
     exact ⟨by rw [hG];rfl,ee⟩
   have d2:decide (fld≥(m.fields.length:Int))=false:=decide_eq_false hfh
   have hG:XO d i fld=0:=by unfold XO;rw [if_neg (by simp [hE]),hL,if_neg (by omega)]
   have hcc:=hc m hm hG _ _ mr (E1.trans eX) (hF0.ext (e1.trans eX)) (hMp.ext eX)
   simp (disch:=try exact DI) only [↓PR,QR,simprocAttr,d1,d2,↓AP,↓AO,↓AN,↓O6]
   rw [YZ hg]
   refine Zs hcc ?_
   rintro _ w2 ⟨rfl,e2⟩
   have z8:=e2.obj y8
   have l9:=(Array.getElem?_eq_some_iff.1 z8).1
   have E2:=(E1.trans eX).trans e2
   simp (disch:=try exact DI) only [↓PR,QR,simprocAttr,(Za z8).1,(Za z8).2]
   rw [← hΦ]
   exact ⟨by rw [hG];rfl,ee⟩
end
def BSp (sp:List (BAr×Int×Int)):Prop:=∀ p∈sp,0≤p.2.1∧p.2.1≤1099511627776∧0≤p.2.2∧p.2.2≤1099511627776
theorem xN {sp:List (BAr×Int×Int)} {s:BAr} {q:Int×Int} (h:Ym sp s=some q):(s,q)∈sp:=VS h
theorem BSp.look {sp:List (BAr×Int×Int)} (h:BSp sp) (s:BAr):(0≤(Z5 sp s).1∧(Z5 sp s).1≤1099511627776)∧0≤(Z5 sp s).2∧(Z5 sp s).2≤1099511627776:=by
 unfold Z5
 cases hl:Ym sp s with
 | none=>decide
 | some q=>have:=h _ (xN hl);exact ⟨⟨this.1,this.2.1⟩,this.2.2⟩
theorem BSp.choice {sp:List (BAr×Int×Int)} (h:BSp sp) (l:List W6):(0≤(XN sp l).1∧(XN sp l).1≤1099511627776)∧0≤(XN sp l).2∧(XN sp l).2≤1099511627776:=by
 have key:∀ (l:List W6) (o:Int×Int),((0≤o.1∧o.1≤1099511627776)∧0≤o.2∧o.2≤1099511627776)→(0≤(l.foldl (Um sp) o).1∧(l.foldl (Um sp) o).1≤1099511627776)∧0≤(l.foldl (Um sp) o).2∧(l.foldl (Um sp) o).2≤1099511627776:=by
  intro l
  induction l with
  | nil=>exact λ o h=>h
  | cons c l ih=>
   intro o ho
   refine ih _ ?_
   have:=h.look c.of
   unfold Um M1 Qj
   dsimp only
   refine ⟨⟨?_,?_⟩,?_,?_⟩<;>split<;>omega
 cases l with
 | nil=>simp [XN]
 | cons c l=>exact key _ _ (h.look c.of)
structure OkV (deps:List (BAr×Int)) (l:List Zl) (f:Zl):Prop where
 kind:1≤f.kind∧f.kind≤12
 bits:f.kind=1∨f.kind=2→1≤f.bits∧f.bits≤32
 pad:f.kind=10→zE f=true
 num:f.kind=3→0≤f.low∧f.low≤f.high∧f.high≤34359738367
 high5:f.kind=5→0≤f.high∧f.high≤1048576
 high6:f.kind=6→2≤f.high∧f.high≤1048576
 iv:f.kind=4∨f.kind=12∨f.kind=7→0≤ivL l f∧ivL l f≤ivH l f∧ivH l f≤1048576
 terms:∀ t∈f.terms,(Ym (YD l) t.field).isSome=true
 refs:∀ s∈Xx f,(ZB deps s).isSome=true
 cases:f.kind=9→f.cases≠[]
theorem jK {hi lo n:Int} {l:List Int} (h:Z2 hi lo (n::l)=0):lo≤n∧n≤hi∧Z2 hi n l=0:=by
 rw [Z2,YP,Y0 (by decide)] at h
 simp only [Bool.and_eq_true,decide_eq_true_eq] at h
 exact ⟨h.1.1,h.1.2,h.2⟩
theorem Ik {rp:List (BAr×Int×Int)} {ts:List Z3} (h:Wn rp ts=0):∀ t∈ts,(Ym rp t.field).isSome=true:=by
 intro t ht
 cases hl:Ym rp t.field with
 | some q=>rfl
 | none=>have:=KU ht hl;omega
theorem FC {l bef:List Zl} (hd:BJ l) (hb:∀ g∈bef,g∈l) {s:BAr} (h:(Ym (YD bef) s).isSome=true):Ym (YD bef) s=Ym (YD l) s:=by
 cases h1:Ym (YD bef) s with
 | none=>rw [h1] at h;cases h
 | some q=>
  obtain ⟨g,hg,hn,hs,rfl⟩:=Ks.1 (xN h1)
  cases h2:Ym (YD l) s with
  | none=>exact absurd (Ks.2 ⟨g,hb g hg,hn,hs,rfl⟩) (KO.1 h2 _)
  | some q'=>
   obtain ⟨g',hg',hn',hs',rfl⟩:=Ks.1 (xN h2)
   rw [hd.eq (hb g hg) hg' (by rw [hs,hs'])]
theorem On {base:Int} {ts:List Z3} {rp:List (BAr×Int×Int)} (hs:WO base ts=true) (hin:∀ t∈ts,(Ym rp t.field).isSome=true) (h0:YR base ts rp=0):Y5 base ts rp≤Y4 base ts rp:=by
 have hw:∀ t∈ts,WX (XK rp t).1 (XK rp t).2=true:=by
  intro t ht
  cases hw:WX (XK rp t).1 (XK rp t).2 with
  | true=>rfl
  | false=>
   have:=Lj hs hin ht hw
   unfold Au at this
   rw [h0] at this
   injection this with this
   have:=congrArg Array.toList this
   simp at this
 obtain ⟨h4,he⟩:=Li hs hin hw
 unfold Au at he
 injection he with he
 have he:=congrArg Array.toList he
 simp only [List.cons.injEq,Value.int.injEq,true_and,and_true] at he
 obtain ⟨h1,⟨mix,_,h2⟩,_⟩:=Co (ts:=ts) (rp:=rp) λ t ht=>⟨hin t ht,h4 t ht⟩
 have:=h1 mix
 rw [h2] at this
 rw [he.1,he.2.1]
 omega
theorem N6 {bef:List Zl} {deps:List (BAr×Int)} {strs:List (BAr×Bool)} {f:Zl} (h:YL bef (vI deps) (vB strs) f=0):(1≤f.kind∧f.kind≤12)∧YB f=Jh f∧ZW bef (vI deps) (vB strs) f=0:=by
 unfold YL at h
 simp only [YP,Y0 (show (4:Int)≠0 by decide),Y0 (show (5:Int)≠0 by decide),decide_eq_true_eq] at h
 exact h.2.2
theorem Su {bef l:List Zl} (hd:BJ l) (hb:∀ g∈bef,g∈l) {f:Zl} (h:Qz (YD bef) f=0):(0≤ivL l f∧ivL l f≤ivH l f∧ivH l f≤1048576)∧∀ t∈f.terms,(Ym (YD l) t.field).isSome=true:=by
 unfold Qz at h
 simp only [YP,Y0 (show (9:Int)≠0 by decide)] at h
 obtain ⟨h1,h2,h3⟩:=h
 have hin:=Ik h2
 have hc:=Fa (base:=f.base) (λ t ht=>FC hd hb (hin t ht))
 unfold HO at h3
 simp only [Bool.and_eq_true,beq_iff_eq,decide_eq_true_eq] at h3
 have ho:=On h1 hin h3.1.1
 unfold ivL ivH
 rw [← hc.2.1,← hc.2.2]
 exact ⟨⟨h3.1.2,ho,h3.2⟩,λ t ht=>by rw [← FC hd hb (hin t ht)];exact hin t ht⟩
theorem Zce {bef l:List Zl} {deps:List (BAr×Int)} {strs:List (BAr×Bool)} (hds:∀ s,(ZB strs s).isSome=true→(ZB deps s).isSome=true) (hd:BJ l) (hb:∀ g∈bef,g∈l) {f:Zl} (h:YL bef (vI deps) (vB strs) f=0):OkV deps l f:=by
 obtain ⟨hk,hcl,hc⟩:=N6 h
 have hrefs:=yg hds h
 have hA:=Zcc h
 have none:(YB f).terms=f.terms→∀ t∈f.terms,(Ym (YD l) t.field).isSome=true:=by
  intro he t ht
  rw [← he,hcl] at ht
  cases ht
 have siz:Qz (YD bef) f=0→(0≤ivL l f∧ivL l f≤ivH l f∧ivH l f≤1048576)∧∀ t∈f.terms,(Ym (YD l) t.field).isSome=true:=Su hd hb
 have hk':f.kind=1∨f.kind=2∨f.kind=3∨f.kind=4∨f.kind=5∨f.kind=6∨f.kind=7∨f.kind=8∨f.kind=9∨f.kind=10∨f.kind=11∨f.kind=12:=by omega
 unfold ZW at hc
 rcases hk' with k | k | k | k | k | k | k | k | k | k | k | k
 · exact ⟨hk,hA.1,hA.2,by omega,by omega,by omega,by omega,none (by unfold YB;simp [k,xz]),hrefs,by omega⟩
 · exact ⟨hk,hA.1,hA.2,by omega,by omega,by omega,by omega,none (by unfold YB;simp [k,xC]),hrefs,by omega⟩
 · simp only [k] at hc
   obtain ⟨a1,a2,hc⟩:=jK hc
   obtain ⟨b1,b2,_⟩:=jK hc
   exact ⟨hk,hA.1,hA.2,λ _=>⟨a1,b1,b2⟩,by omega,by omega,by omega,none (by unfold YB;simp [k,xD]),hrefs,by omega⟩
 · simp only [k] at hc
   exact ⟨hk,hA.1,hA.2,by omega,by omega,by omega,λ _=>(siz hc).1,(siz hc).2,hrefs,by omega⟩
 · simp only [k] at hc
   have hc:=(YP.1 hc).2
   obtain ⟨a1,a2,hc⟩:=jK hc
   exact ⟨hk,hA.1,hA.2,by omega,λ _=>⟨a1,a2⟩,by omega,by omega,none (by unfold YB;simp [k,xE]),hrefs,by omega⟩
 · simp only [k] at hc
   obtain ⟨a1,a2,hc⟩:=jK hc
   exact ⟨hk,hA.1,hA.2,by omega,by omega,λ _=>⟨a1,a2⟩,by omega,none (by unfold YB;simp [k,xF]),hrefs,by omega⟩
 · simp only [k] at hc
   have hc:=(YP.1 hc).2
   exact ⟨hk,hA.1,hA.2,by omega,by omega,by omega,λ _=>(siz hc).1,(siz hc).2,hrefs,by omega⟩
 · exact ⟨hk,hA.1,hA.2,by omega,by omega,by omega,by omega,none (by unfold YB;simp [k,xG]),hrefs,by omega⟩
 · simp only [k] at hc
   have hc:=(YP.1 (show Vn bef (vI deps) f=0 from hc)).2
   have hc:=(Y0 (by decide)).1 (YP.1 hc).1
   simp only [Bool.and_eq_true,decide_eq_true_eq] at hc
   exact ⟨hk,hA.1,hA.2,by omega,by omega,by omega,by omega,none (by unfold YB;simp [k,xH]),hrefs,λ _ h=>by rw [h] at hc;simp at hc⟩
 · exact ⟨hk,hA.1,hA.2,by omega,by omega,by omega,by omega,none (by unfold YB;simp [k,Gm]),hrefs,by omega⟩
 · exact ⟨hk,hA.1,hA.2,by omega,by omega,by omega,by omega,none (by unfold YB;simp [k,Gn]),hrefs,by omega⟩
 · simp only [k] at hc
   have hc:=(YP.1 (YP.1 hc).2).2
   exact ⟨hk,hA.1,hA.2,by omega,by omega,by omega,λ _=>(siz hc).1,(siz hc).2,hrefs,by omega⟩
theorem OkV.okS {deps:List (BAr×Int)} {l:List Zl} {f:Zl} (h:OkV deps l f) (ht:f.terms.length≤1048576) {sp:List (BAr×Int×Int)} (hb:BSp sp):OkS sp l f:=by
 refine ⟨h.kind,λ k=>?_,λ k=>?_,λ k=>?_,λ _=>hb.look _,h.cases,λ k=>?_,ht⟩
 · have:=h.num k;omega
 · have:=h.iv k;omega
 · rcases k with k | k
   · exact h.high5 k
   · have:=h.high6 k;omega
 · have:=qk (h.pad k);omega
theorem Ce {v:Int} (h0:0≤v) (h:v≤34359738367):0≤((YG v.toNat:Nat):Int)*8∧((YG v.toNat:Nat):Int)*8≤1099511627776:=by
 have:=W3 6 v.toNat (by omega) (by decide)
 omega
theorem OkV.span {deps:List (BAr×Int)} {l:List Zl} {f:Zl} (h:OkV deps l f) {sp:List (BAr×Int×Int)} (hb:BSp sp) (h10:f.kind≠10):(0≤(Yg sp l f).1∧(Yg sp l f).1≤1099511627776)∧0≤(Yg sp l f).2∧(Yg sp l f).2≤1099511627776:=by
 unfold Yg
 split
 · rename_i k;have:=h.bits k;dsimp only;omega
 · split
   · rename_i k
     have:=h.num k
     refine ⟨Ce (by omega) (by omega),?_⟩
     dsimp only
     split
     · decide
     · exact Ce (by omega) (by omega)
   · split
     · rename_i k
       have:=h.iv (by omega)
       exact ⟨U1 (by omega),U1 (by omega)⟩
     · split
       · rename_i k;have:=h.high5 k;dsimp only;omega
       · split
         · rename_i k;have:=h.high6 k;dsimp only;omega
         · split
           · rename_i k
             have:=h.iv (by omega)
             have hl:=hb.look f.of
             exact ⟨U1 (Int.mul_nonneg (by omega) hl.1.1),U1 (Int.mul_nonneg (by omega) hl.2.1)⟩
           · split
             · exact hb.look _
             · split
               · exact hb.choice _
               · split<;>decide
theorem DX {deps:List (BAr×Int)} {l:List Zl} (h:∀ f∈l,OkV deps l f) (ht:∀ f∈l,f.terms.length≤1048576) {sp:List (BAr×Int×Int)} (hb:BSp sp):OkM sp l:=
 ⟨λ f hf=>(h f hf).okS (ht f hf) hb,λ f hf k=>by have:=qk ((h f hf).pad k);omega,λ f hf k=>(h f hf).span hb k⟩
def SI (l:List ZC):Prop:=∀ k m,l[k]?=some m→(∀ f∈m.fields,OkV (ZN (l.take k)) m.fields f)∧1≤m.fields.length∧m.fields.length≤40
theorem Q2.allV {l:List ZC} (h:Q2 l):SI l:=by
 intro k m hk
 obtain ⟨_,_,h3,h4,_⟩:=VZ (h.next hk)
 have hF:Ju (ZN (l.take k)) (Yl (l.take k)) m.fields:=λ j f hj=>by simpa using Ah _ _ h4 j f hj
 refine ⟨λ f hf=>?_,h3⟩
 obtain ⟨j,hj⟩:=List.getElem?_of_mem hf
 exact Zce (Lf _) hF.dist (λ g hg=>List.mem_of_mem_take hg) (hF j f hj)
theorem Ge {l:List ZC} (h:SI l) (ht:∀ m∈l,∀ f∈m.fields,f.terms.length≤1048576):∀ k,k≤l.length→BSp (ZK (l.take k))
 | 0,_=>λ p hp=>by simp [ZK] at hp
 | k+1,hk=>by
  obtain ⟨m,hm⟩:=getElem?_lt (l:=l) (k:=k) (by omega)
  rw [Vd hm]
  intro p hp
  rcases List.mem_append.1 hp with hp | hp
  · exact Ge h ht k (by omega) p hp
  · simp only [List.mem_singleton] at hp
    subst hp
    have:=xe (DX (h k m hm).1 (ht m (List.mem_of_getElem? hm)) (Ge h ht k (by omega))) m.fields.length
    exact ⟨this.1.1,this.1.2,this.2⟩
theorem Zcd {l:List ZC} (h:SI l) (ht:∀ m∈l,∀ f∈m.fields,f.terms.length≤1048576):OkD l:=λ k m hm=>
 ⟨DX (h k m hm).1 (ht m (List.mem_of_getElem? hm)) (Ge h ht k (Nat.le_of_lt (List.getElem?_eq_some_iff.1 hm).1)),(h k m hm).2.2⟩
theorem IZ {l:List ZC} (h:SI l) (ht:∀ m∈l,∀ f∈m.fields,f.terms.length≤1048576):BSp (ZK l):=by simpa using Ge h ht l.length (Nat.le_refl _)
theorem xg (d:YQ) (ht:UJ d):qu d:=
 have hc:∀ m∈d.msgs,∀ f∈m.fields,f.terms.length≤1048576:=λ m hm=>(ht m hm).2
 ⟨λ h=>Zcd (XI h).2.2.1.allV hc,λ h m hm=>by
  have hV:=(XI h).2.2.1.allV
  obtain ⟨k,hk⟩:=List.getElem?_of_mem hm
  exact DX (hV k m hk).1 (hc m hm) (IZ hV hc)⟩
theorem CF {l:List Zl} {k:Nat} {f:Zl} (h:l[k]?=some f):YD (l.take (k+1))=YD (l.take k)++if Y7 f then [(f.name,f.low,Xk f)] else []:=by
 unfold YD
 rw [Z4 h,List.filter_append,List.map_append]
 cases hn:Y7 f<;>simp [hn]
theorem F5 (w0:Wd) (v:Vl) (m:ZC) (hm:Qr w0 v m) (hlm:m.fields.length≤1048576):Ret Pg 131 #[v] w0 λ r w'=>GY w' r (YD m.fields)∧Ext w0 w':=by
 obtain ⟨fv,rfl,hF⟩:=hm
 have hf1:=Zd.oneCell hF
 obtain ⟨A,c,rfl,hlc,hcm,hlm',Y3⟩:=Zd.open hF
 refine Zit (R:=ZO _) ?_;unfold n48
 simp (disch:=try exact DI) only [↓PR,QR,simprocAttr]
 have Xz:=Z6.new (w:=w0) (Z8 m (.slice A m.fields.length c)) (24)
 have eW:Ext w0 (w0.alloc (Obj.cells (List.toArray (Z8 m (.slice A m.fields.length c))) (24))):=(Ext.refl _).alloc _
 generalize (w0.alloc (Obj.cells (List.toArray (Z8 m (.slice A m.fields.length c))) (24)))=W at Xz eW ⊢
 refine Yn (λ a b w'=>∃ (k:Nat) (sv:Vl),a=sv∧b = .int .i64 k∧k≤m.fields.length∧Ext W w'∧Yk w' W.heap.size 206 3 Ga sv (YD (m.fields.take k))) (λ _ b _=>m.fields.length - (intOf b).toNat) ⟨0,_,rfl,rfl,by omega,Ext.refl _,Yk.nil _ _ _ _ _⟩ ?_
 rintro sv _ w ⟨k,_,rfl,rfl,hk,e,hO⟩
 have hcW:=Xz.c2 e
 have E:=eW.trans e
 unfold Za7
 rcases ZD hk with ⟨f,hx,hdr,Yv,ZJ⟩ | ⟨hk,hdr,ZJ⟩
 · obtain ⟨b,o,cs,rfl,_,hA,hE⟩:=Y3 k f hx
   obtain ⟨tv,cv,rfl,hT,hC,ht1,hc1⟩:=hE.op
   have hcA:=hA.c15 E
   unfold Za6
   simp (disch:=try exact DI) only [↓PR,QR,simprocAttr,ZJ,hcW,hcA]
   refine zcr (J7 _ _ f ⟨tv,cv,rfl,hT.ext E,hC.ext E⟩) λ w1 e1=>?_
   have E1:=E.trans e1
   have hcW1:=Xz.c2 (e.trans e1)
   have hcA1:=hA.c15 E1
   unfold Za5
   cases hn:Y7 f with
   | false=>
    simp (disch:=try exact DI) only [↓PR,QR,simprocAttr]
    refine ⟨⟨k+1,sv,rfl,rfl,by omega,e.trans e1,?_⟩,ZM (kd := .i64) Yv⟩
    rw [CF hx,hn]
    simpa using hO.ext e1
   | true=>
    simp (disch:=try exact DI) only [↓PR,QR,simprocAttr]
    unfold Za4
    simp (disch:=try exact DI) only [↓PR,QR,simprocAttr,hcW1,hcA1]
    refine zcr (zG _ _ f ⟨tv,cv,rfl,hT.ext E1,hC.ext E1⟩) λ w2 e2=>?_
    have E2:=E1.trans e2
    have f2:=(e.trans e1).trans e2
    have hcW2:=Xz.c2 f2
    have hcA2:=hA.c15 E2
    unfold Za3
    simp (disch:=try exact DI) only [↓PR,QR,simprocAttr,hcW2,hcA2]
    have hO4:=hO.ext ((e1.trans e2).alloc (Obj.cells #[.string f.name,.int .i64 f.low,.int .i64 (Xk f)] 206))
    have hlk:(YD (m.fields.take k)).length≤k:=by
     unfold YD
     rw [List.length_map]
     exact Nat.le_trans (List.length_filter_le _ _) (by rw [List.length_take];omega)
    have sw:=f2.size
    refine VO underlying173 jt TS rfl (by decide) (λ _=>rfl) (f.name,f.low,Xk f) (by simp only [Ga,List.forall_mem_cons];exact ⟨rfl,rfl,rfl,by simp⟩) hO4 (Z6.new _ _) (by simp only [World.size_alloc];omega) (by omega) ?_
    intro v' w' hO' hext
    have eN:Ext W w':=hext W (f2.alloc _) (Nat.le_refl _)
    simp (disch:=try exact DI) only [↓PR,QR,simprocAttr]
    refine ⟨⟨k+1,v',rfl,rfl,by omega,eN,?_⟩,ZM (kd := .i64) Yv⟩
    rw [CF hx,hn]
    exact hO'
 · subst hk
   rw [List.take_length] at hO
   simp (disch:=try exact DI) only [↓PR,QR,simprocAttr,ZJ,hcW]
   exact ⟨hO.slice (E:=SJ) (λ _=>rfl) (λ _ _=>rfl),E⟩
abbrev VC (p:BAr×Int×Int):List Vl:=[.int .i64 p.2.1,.int .i64 p.2.2]
def ESp (_:Wd) (cs:List Vl) (p:BAr×Int×Int):Prop:=cs=VC p
theorem ZbW:BK ESp:=λ _ _ _ _ _ h=>h
def qv (w:Wd) (v:Vl) (l:List (BAr×Int×Int)):Prop:=Zd w 2 ESp v l
theorem qv.ext {w w':Wd} {v:Vl} {l:List (BAr×Int×Int)} (h:qv w v l) (e:Ext w w'):qv w' v l:=Zd.ext ZbW h e
theorem Fe (l:List ZC):(ZK l).map (·.1)=l.map (·.name):=by
 have key:∀ (l:List ZC) (a:List (BAr×Int×Int)),(l.foldl CW a).map (·.1)=a.map (·.1)++l.map (·.name):=by
  intro l
  induction l with
  | nil=>intro a;simp
  | cons m l ih=>intro a;rw [List.foldl_cons,ih,CW,List.map_append];simp
 unfold ZK
 rw [key]
 rfl
theorem Wr (l:List ZC):(ZK l).length=l.length:=by simpa using congrArg List.length (Fe l)
theorem Zcp {l:List ZC} (hN:Je l) {s:BAr} (h:(ZB (ZN l) s).isSome=true):∃ j:Nat,idx (λ m=>decide (m.name=s)) l=j∧j < l.length∧(ZK l)[j]?=some (s,Z5 (ZK l) s):=by
 rcases VQ (Fe l) hN s with ⟨_,h2⟩ | ⟨k,b,h1,h2,h3,h4⟩
 · obtain ⟨m,hm,hn⟩:=isD.1 h
   have xK:s∈(ZK l).map (·.1):=by rw [Fe,← hn];exact List.mem_map.2 ⟨m,hm,rfl⟩
   obtain ⟨p,hp,hps⟩:=List.mem_map.1 xK
   exact absurd hps (KN.1 h2 p hp)
 · refine ⟨k,h1,h2,?_⟩
   have:Z5 (ZK l) s=b:=by unfold Z5;rw [show Ym (ZK l) s=some b from h4];rfl
   rw [this]
   exact h3
theorem EB {sp:List (BAr×Int×Int)} {l:List W6} {k:Nat} {c:W6} (h:l[k]?=some c):XN sp (l.take (k+1))=Um sp (if k=0 then Z5 sp c.of else XN sp (l.take k)) c:=by
 cases l with
 | nil=>simp at h
 | cons x l=>
  cases k with
  | zero=>injection h with h;subst h;rfl
  | succ k=>
   rw [Z4 h,if_neg (by omega)]
   show ((x::l.take k)++[c]).foldl (Um sp) _=_
   rw [List.foldl_append]
   rfl
def SL (w0:Wd) (d:YQ) (dv:Vl) (f:Zl) (tv cv:Vl) (sp:List (BAr×Int×Int)) (p2 p8 p9 p14:Nat) (k:Nat) (w:Wd):Prop:=
 Ext w0 w∧w.heap[p2]?=some (.cells (Zz d dv).toArray 28 (0,0))∧w.heap[p9]?=some (.cells (Zm f tv cv).toArray 48 (0,0))∧(∃ y0 y1,w.heap[p8]?=some (.cells #[y0,y1] 76 (0,0)))∧w.heap[p14]?=some (.cells #[.int .i64 (XN sp (f.cases.take k)).1,.int .i64 (XN sp (f.cases.take k)).2] 76 (0,0))
section
variable {w0 W:Wd} {d:YQ} {dv tv cv bv:Vl} {f:Zl} {n p2 p8 p9 p14:Nat} {sp:List (BAr×Int×Int)}
theorem FT {w w':Wd} {k p16:Nat} {x:W6} {R:RT} {next:KV} (hx:f.cases[k]?=some x) (hI:SL w0 d dv f tv cv sp p2 p8 p9 p14 k w) (e:Ext w w') (x16:w'.heap[p16]?=some (.cells #[.int .i64 (Z5 sp x.of).1,.int .i64 (Z5 sp x.of).2] 76 (0,0))) (g16:w.heap.size≤p16)
 (hkb:k≤9223372036854775806) (g14:w0.heap.size≤p14) (h2:p2≠p14) (h9:p9≠p14) (h8:p8≠p14) (hn:∀ w',SL w0 d dv f tv cv sp p2 p8 p9 p14 (k+1) w'→next (.int .i64 ((k:Int)+1)) w') :
 Vc (.pointer (some ⟨p14,0,none⟩)) (.int .i64 (k:Int)) (.pointer (some ⟨p16,0,none⟩)) next R w':=by
 obtain ⟨E,x2,x9,⟨y0,y1,x8⟩,x14⟩:=hI
 have hst:=EB (sp:=sp) hx
 have l0:=(Array.getElem?_eq_some_iff.1 x14).1
 have z14:=e.obj x14
 have l14:=(Array.getElem?_eq_some_iff.1 z14).1
 have n16:p16≠p14:=by omega
 have E':=E.trans e
 have z2:=e.obj x2
 have z9:=e.obj x9
 have z8:=e.obj x8
 have fin:∀ (w'':Wd) (q:Int×Int),q=(if k=0 then Z5 sp x.of else XN sp (f.cases.take k))→Ext w0 w''→w''.heap[p2]?=some (.cells (Zz d dv).toArray 28 (0,0))→w''.heap[p9]?=some (.cells (Zm f tv cv).toArray 48 (0,0))→w''.heap[p8]?=some (.cells #[y0,y1] 76 (0,0))→w''.heap[p14]?=some (.cells #[.int .i64 q.1,.int .i64 q.2] 76 (0,0))→w''.heap[p16]?=some (.cells #[.int .i64 (Z5 sp x.of).1,.int .i64 (Z5 sp x.of).2] 76 (0,0)) →
  Vb (.pointer (some ⟨p14,0,none⟩)) (.int .i64 (k:Int)) (.pointer (some ⟨p16,0,none⟩)) next R w'':=by
  intro w'' q hq EE a2 a9 a8 a14 a16
  have l'':=(Array.getElem?_eq_some_iff.1 a14).1
  unfold Vb
  simp (disch:=try exact DI) only [↓PR,QR,simprocAttr,(Za a14).1,(Za a14).2,(Za a16).1]
  refine hn _ ⟨ee,?_,?_,⟨y0,y1,?_⟩,?_⟩
  · rw [YM h2,YM h2];exact a2
  · rw [YM h9,YM h9];exact a9
  · rw [YM h8,YM h8];exact a8
  · rw [hst,← hq]
    simpa [Um,M1,Qj] using ZE (o:=1) (ZE (o:=0) a14 (.int .i64 (M1 q.1 (Z5 sp x.of).1))) (.int .i64 (Qj q.2 (Z5 sp x.of).2))
 unfold Vc
 by_cases hk:k=0
 · have d1:decide ((k:Int)=0)=true:=by simp [hk]
   have d2:((k:Int) == 0)=true:=by simp [hk]
   simp (disch:=try exact DI) only [↓PR,QR,simprocAttr,d1,d2,(Za x16).1,(Za z14).1,(Za z14).2]
   refine fin _ (Z5 sp x.of) (by rw [if_pos hk]) ee ?_ ?_ ?_ ?_ ?_
   · rw [YM h2,YM h2];exact z2
   · rw [YM h9,YM h9];exact z9
   · rw [YM h8,YM h8];exact z8
   · simpa using ZE (o:=1) (ZE (o:=0) z14 (.int .i64 (Z5 sp x.of).1)) (.int .i64 (Z5 sp x.of).2)
   · rw [YM n16,YM n16];exact x16
 · have d1:decide ((k:Int)=0)=false:=by simp [hk]
   have d2:((k:Int) == 0)=false:=by simp [hk]
   simp (disch:=try exact DI) only [↓PR,QR,simprocAttr,d1,d2]
   exact fin _ _ (by rw [if_neg hk]) E' z2 z9 z8 z14 x16
theorem Sc (hD:Vi w0 dv d.msgs) (hC:Yc w0 cv f.cases) (hc1:cv.oneCell'=true) (ht1:tv.oneCell'=true) (hn:n≤d.msgs.length) (hsn:sp.length=n) (hB:qv w0 bv sp) (hfind:∀ c∈f.cases,∃ j:Nat,idx (λ m=>decide (m.name=c.of)) (d.msgs.take n)=j∧j < n∧sp[j]?=some (c.of,Z5 sp c.of))
 (h0:SL w0 d dv f tv cv sp p2 p8 p9 p14 0 W) (g8:w0.heap.size≤p8) (g14:w0.heap.size≤p14) (h2:p2≠p14) (h9:p9≠p14) (h8:p8≠p14) :
 YS (λ t15 w Ug=>Qt bv (.pointer (some ⟨p2,0,none⟩)) (.pointer (some ⟨p8,0,none⟩)) (.pointer (some ⟨p9,0,none⟩)) (.pointer (some ⟨p14,0,none⟩)) t15 Ug (ZO λ r w'=>r=Zv (XN sp f.cases).1 (XN sp f.cases).2∧Ext w0 w') w) (.int .i64 0) W:=by
 have hd1:=Zd.oneCell hD
 obtain ⟨A,c,rfl,hlc,hcm,hlm,Y3⟩:=Zd.open hC
 obtain ⟨A2,cB,rfl,hlc2,hcm2,hlm2,hel2⟩:=Zd.open hB
 rw [hsn] at hlc2 hlm2 ⊢
 refine ZF (λ i w=>∃ k:Nat,i = .int .i64 k∧k≤f.cases.length∧SL w0 d dv f tv (.slice A f.cases.length c) sp p2 p8 p9 p14 k w) (λ i _=>f.cases.length - (intOf i).toNat) ⟨0,rfl,by omega,h0⟩ ?_
 rintro _ w ⟨k,rfl,hk,hI⟩
 have hI0:=hI
 obtain ⟨E,x2,x9,⟨y0,y1,x8⟩,x14⟩:=hI
 have l14:=(Array.getElem?_eq_some_iff.1 x14).1
 unfold Qt
 rcases ZD hk with ⟨x,hx,hd,Yv,ZJ⟩ | ⟨hk,hd,ZJ⟩
 · obtain ⟨b,o,cs,rfl,_,hA,rfl⟩:=Y3 k x hx
   obtain ⟨j,hj,hjn,hjs⟩:=hfind x (List.mem_of_getElem? hx)
   obtain ⟨bB,oB,csB,rfl,_,hAB,rfl⟩:=hel2 j _ hjs
   simp (disch:=try exact DI) only [↓PR,QR,simprocAttr,ZJ,(Za x9).1]
   refine Zy ?_
   have eD:Ext w w.drew:=(Ext.refl _).wdrew
   have ED:=E.trans eD
   have sD:w.drew.heap.size=w.heap.size:=World.size_drew _
   have qi:∀ K:Vl→Prop,qV Pg (EC w.drew) (indexAt 46 (.slice (some ⟨b,o,none⟩) f.cases.length c) (.int .i64 (k:Int))) K=K (.pointer (some ⟨b,o+k*3,none⟩)):=λ K=>YO λ QP w' k'=>YN underlying46 jC b o f.cases.length c .i64 k Yv
   unfold QH
   simp (disch:=try exact DI) only [↓PR,QR,simprocAttr,(Za x9).1,(Za x2).1,(Za (eD.obj x9)).1,(Za (eD.obj x2)).1,qi,hA.c3 ED,hA.c3 E]
   have q2:∀ (w1:Wd) (K:Vl→Prop),Ext w.drew w1→qV Pg (EC w.drew) (indexAt 71 (.slice (some ⟨bB,oB,none⟩) n cB) (.int .i64 (j:Int))) K=K (.pointer (some ⟨bB,oB+j*2,none⟩)):=λ w1 K _=>YO λ QP w' k'=>YN underlying71 xk bB oB n cB .i64 j hjn
   have q3:∀ K:Vl→Prop,qV Pg (EC w.drew) (loadAt 76 (.pointer (some ⟨bB,oB+j*2,none⟩))) K=K (Zv (Z5 sp x.of).1 (Z5 sp x.of).2):=λ K=>VA λ w' e=>Xa λ QP k=>Wi ((hAB.ext (ED.trans e)).loads xk rfl)
   refine ⟨?_,?_⟩
   · refine zcr (XG _ _ d x.of n ⟨_,rfl,hD.ext ED⟩ hn) λ w1 e1=>?_
     rw [hj]
     refine Vv e1 ?_
     unfold Vu
     simp (disch:=try exact DI) only [↓PR,QR,simprocAttr,q2,q3,hAB.c2 E]
     refine ⟨ee,Yb ?_⟩
     simp (disch:=try exact DI) only [↓PR,QR,simprocAttr]
     have s1:=e1.size
     exact FT hx hI0 ee (ZG _ _ _) (by omega) (by omega) g14 h2 h9 h8 λ w' h=>⟨⟨k+1,rfl,by omega,h⟩,ZM (kd := .i64) Yv⟩
   · refine ⟨ee,Zs (XG _ _ d x.of n ⟨_,rfl,hD.ext ee⟩ hn) ?_⟩
     rintro _ w1 ⟨rfl,e1⟩
     rw [hj]
     have o16:(w.drew.alloc (.cells #[.int .i64 0,.int .i64 0] 76)).heap[w.heap.size]?=some (.cells #[.int .i64 0,.int .i64 0] 76 (0,0)):=by have:=ZG w.drew #[.int .i64 0,.int .i64 0] 76;rwa [sD] at this
     have x16:=e1.obj o16
     have l16:=(Array.getElem?_eq_some_iff.1 x16).1
     refine Vv ee ?_
     unfold QG
     simp (disch:=try exact DI) only [↓PR,QR,simprocAttr,q2,q3,hAB.c2 E,(Za x16).1,(Za x16).2]
     refine Yb ?_
     simp (disch:=try exact DI) only [↓PR,QR,simprocAttr]
     exact FT hx hI0 ee (by simpa using ZE (o:=1) (ZE (o:=0) x16 (.int .i64 (Z5 sp x.of).1)) (.int .i64 (Z5 sp x.of).2)) (by omega) (by omega) g14 h2 h9 h8 λ w' h=>⟨⟨k+1,rfl,by omega,h⟩,ZM (kd := .i64) Yv⟩
 · subst hk
   rw [List.take_length] at x14
   simp (disch:=try exact DI) only [↓PR,QR,simprocAttr,ZJ,(Za x9).1,(Za x14).1,(Za x8).1,(Za x8).2]
   exact ⟨by first | trivial | rfl,ee⟩
end
theorem Nc (w0:Wd) (v mv bv:Vl) (d:YQ) (n i:Nat) (m:ZC) (f:Zl) (hd:YT w0 v d) (hm:Qr w0 mv m) (hi:m.fields[i]?=some f) (hlm:m.fields.length≤1048576) (hn:n≤d.msgs.length) (hN:Je (d.msgs.take n)) (hB:qv w0 bv (ZK (d.msgs.take n))) (hb:BSp (ZK (d.msgs.take n))) (hv:OkV (ZN (d.msgs.take n)) m.fields f):Ret Pg 107 #[v,mv,.int .i64 (i:Int),bv] w0 λ r w'=>r=Zv (Yg (ZK (d.msgs.take n)) m.fields f).1 (Yg (ZK (d.msgs.take n)) m.fields f).2∧Ext w0 w':=by
 have htl:(d.msgs.take n).length=n:=by rw [List.length_take];omega
 have hsn:(ZK (d.msgs.take n)).length=n:=by rw [Wr,htl]
 have hfind:∀ s∈Xx f,∃ j:Nat,idx (λ m=>decide (m.name=s)) (d.msgs.take n)=j∧j < n∧(ZK (d.msgs.take n))[j]?=some (s,Z5 (ZK (d.msgs.take n)) s):=λ s hs=>by have:=Zcp hN (hv.refs s hs);rwa [htl] at this
 generalize ZK (d.msgs.take n)=sp at hB hb hsn hfind ⊢
 obtain ⟨dv,rfl,hD⟩:=hd
 have hd1:=Zd.oneCell hD
 obtain ⟨fv,rfl,hF⟩:=hm
 have hF0:=hF
 have hf1:=Zd.oneCell hF
 have hB1:=Zd.oneCell hB
 obtain ⟨b,o,c,rfl,hlc,hcm,hlm',hil,Y3⟩:=J4 hF hi
 obtain ⟨cs,_,hA,hE⟩:=Y3 i f hi
 obtain ⟨tv,cv,rfl,hT,hC,ht1,hc1⟩:=hE.op
 have hB0:=hB
 obtain ⟨AB,cB,rfl,hlcB,hcmB,hlmB,helB⟩:=Zd.open hB
 rw [hsn] at hlcB hlmB ⊢
 refine Zin (R:=ZO _) ?_;unfold n42
 simp (disch:=try exact DI) only [↓PR,QR,simprocAttr,hA.c15 ((((Ext.refl w0).alloc _).alloc _).alloc _)]
 simp only [World.size_alloc]
 generalize hW:World.alloc (World.alloc (World.alloc (World.alloc w0 _) _) _) _=W
 have e0:Ext w0 W:=by rw [← hW];exact ee
 have o2:W.heap[w0.heap.size]?=some (.cells (Zz d dv).toArray 28 (0,0)):=by rw [← hW];simp (disch:=try exact DI) only [↓PR,QR,simprocAttr]
 have o3:W.heap[w0.heap.size+1]?=some (.cells (Z8 m (.slice (some ⟨b,o,none⟩) m.fields.length c)).toArray 24 (0,0)):=by rw [← hW];simp (disch:=try exact DI) only [↓PR,QR,simprocAttr]
 have o8:W.heap[w0.heap.size+1+1]?=some (.cells #[.int .i64 0,.int .i64 0] 76 (0,0)):=by rw [← hW];simp (disch:=try exact DI) only [↓PR,QR,simprocAttr]
 have o9:W.heap[w0.heap.size+1+1+1]?=some (.cells (Zm f tv cv).toArray 48 (0,0)):=by rw [← hW];simp (disch:=try exact DI) only [↓PR,QR,simprocAttr]
 clear hW
 generalize hp9:w0.heap.size+1+1+1=p9 at o9 ⊢
 generalize hp8:w0.heap.size+1+1=p8 at o8 hp9 ⊢
 generalize hp3:w0.heap.size+1=p3 at o3 hp8 ⊢
 generalize hp2:w0.heap.size=p2 at o2 hp3 ⊢
 refine Zy ?_
 have eD:Ext W W.drew:=(Ext.refl _).wdrew
 have D:=e0.trans eD
 unfold QS
 simp (disch:=try exact DI) only [↓PR,QR,simprocAttr,(Za o3).1,(Za o9).1,(Za (eD.obj o3)).1,(Za (eD.obj o9)).1]
 refine Zs (F5 _ _ m ⟨_,rfl,hF0.ext D⟩ hlm) ?_
 rintro rv w1 ⟨hR,e1⟩
 refine ⟨e1,?_⟩
 refine zcr (GU _ _ rv f.base f.terms (YD m.fields) ⟨_,rfl,hT.ext (D.trans e1)⟩ hR hv.terms) λ w2 e2=>?_
 refine ⟨e1.trans e2,?_⟩
 have E2:=(D.trans e1).trans e2
 have f2:=eD.trans (e1.trans e2)
 unfold QQ Au
 simp (disch:=try exact DI) only [↓PR,QR,simprocAttr,(Za (f2.obj o2)).1,(Za (f2.obj o9)).1]
 refine zcr (XG _ _ d f.of n ⟨_,rfl,hD.ext E2⟩ hn) λ w e3=>?_
 have E:=E2.trans e3
 have f3:=f2.trans e3
 have x2:=f3.obj o2
 have x8:=f3.obj o8
 have x9:=f3.obj o9
 have l8:=(Array.getElem?_eq_some_iff.1 x8).1
 have l9:=(Array.getElem?_eq_some_iff.1 x9).1
 clear o2 o3 o8 o9
 unfold Qu
 have hk':f.kind=1∨f.kind=2∨f.kind=3∨f.kind=4∨f.kind=5∨f.kind=6∨f.kind=7∨f.kind=8∨f.kind=9∨f.kind=10∨f.kind=11∨f.kind=12:=by have:=hv.kind;omega
 rcases hk' with k | k | k | k | k | k | k | k | k | k | k | k
 · rw [show Yg sp m.fields f=(f.bits,f.bits) by unfold Yg;simp [k]]
   simp (disch:=try exact DI) only [↓PR,QR,simprocAttr,k,↓VI,↓VJ,↓VK,↓VL,↓VM,↓Vt,↓Vb,↓Vc,↓Vu,↓QG,↓QH,↓Qt,↓Q4,↓Q5,↓Q6,↓Q7,↓Q8,↓QI,↓Q9,↓QJ,↓Wa,↓Wb,↓QK,↓QL,↓QM,↓QN,↓QO,↓Qu,↓QQ,↓QS,(Za x9).1,(Za x8).1,(Za x8).2]
   exact ⟨by first | trivial | rfl,ee⟩
 · rw [show Yg sp m.fields f=(f.bits,f.bits) by unfold Yg;simp [k]]
   simp (disch:=try exact DI) only [↓PR,QR,simprocAttr,k,↓VI,↓VJ,↓VK,↓VL,↓VM,↓Vt,↓Vb,↓Vc,↓Vu,↓QG,↓QH,↓Qt,↓Q4,↓Q5,↓Q6,↓Q7,↓Q8,↓QI,↓Q9,↓QJ,↓Wa,↓Wb,↓QK,↓QL,↓QM,↓QN,↓QO,↓Qu,↓QQ,↓QS,(Za x9).1,(Za x8).1,(Za x8).2]
   exact ⟨by first | trivial | rfl,ee⟩
 · rw [show Yg sp m.fields f=(((YG f.low.toNat:Nat):Int)*8,if f.loose then 40 else ((YG f.high.toNat:Nat):Int)*8) by unfold Yg;simp [k]]
   obtain ⟨n1,n2,n3⟩:=hv.num k
   obtain ⟨a,ha⟩:=Int.eq_ofNat_of_zero_le n1
   obtain ⟨z,hz⟩:=Int.eq_ofNat_of_zero_le (show 0≤f.high by omega)
   have ga:=W3 6 a (by omega) (by decide)
   have gz:=W3 6 z (by omega) (by decide)
   have wa:IntKind.i64.wrap (8*((YG a:Nat):Int))=((YG a:Nat):Int)*8:=by rw [Z0 (by omega) (by omega),Int.mul_comm]
   have wz:IntKind.i64.wrap (8*((YG z:Nat):Int))=((YG z:Nat):Int)*8:=by rw [Z0 (by omega) (by omega),Int.mul_comm]
   rw [ha,hz,Int.toNat_natCast,Int.toNat_natCast]
   cases hlo:f.loose with
   | true=>
    simp (disch:=try exact DI) only [↓PR,QR,simprocAttr,k,ha,hz,hlo,↓VI,↓VJ,↓VK,↓VL,↓VM,↓Vt,↓Vb,↓Vc,↓Vu,↓QG,↓QH,↓Qt,↓Q4,↓Q5,↓Q6,↓Q7,↓Q8,↓QI,↓Q9,↓QJ,↓Wa,↓Wb,↓QK,↓QL,↓QM,↓QN,↓QO,↓Qu,↓QQ,↓QS,(Za x9).1,(Za x8).1,(Za x8).2]
    refine zcr (U6 (a+1) a _ (by omega) (by omega)) λ w4 e4=>?_
    have y8:=e4.obj x8
    simp (disch:=try exact DI) only [↓PR,QR,simprocAttr,(Za y8).1,(Za y8).2,↓VI,↓VJ,↓VK,↓VL,↓VM,↓Vt,↓Vb,↓Vc,↓Vu,↓QG,↓QH,↓Qt,↓Q4,↓Q5,↓Q6,↓Q7,↓Q8,↓QI,↓Q9,↓QJ,↓Wa,↓Wb,↓QK,↓QL,↓QM,↓QN,↓QO,↓Qu,↓QQ,↓QS,wa]
    exact ⟨by first | trivial | rfl,ee⟩
   | false=>
    simp (disch:=try exact DI) only [↓PR,QR,simprocAttr,k,ha,hz,hlo,↓VI,↓VJ,↓VK,↓VL,↓VM,↓Vt,↓Vb,↓Vc,↓Vu,↓QG,↓QH,↓Qt,↓Q4,↓Q5,↓Q6,↓Q7,↓Q8,↓QI,↓Q9,↓QJ,↓Wa,↓Wb,↓QK,↓QL,↓QM,↓QN,↓QO,↓Qu,↓QQ,↓QS,(Za x9).1,(Za x8).1,(Za x8).2]
    refine Zy ?_
    have eG:Ext w w.drew:=(Ext.refl _).wdrew
    simp (disch:=try exact DI) only [↓PR,QR,simprocAttr,k,ha,hz,hlo,↓VI,↓VJ,↓VK,↓VL,↓VM,↓Vt,↓Vb,↓Vc,↓Vu,↓QG,↓QH,↓Qt,↓Q4,↓Q5,↓Q6,↓Q7,↓Q8,↓QI,↓Q9,↓QJ,↓Wa,↓Wb,↓QK,↓QL,↓QM,↓QN,↓QO,↓Qu,↓QQ,↓QS,(Za (eG.obj x9)).1,(Za x9).1]
    refine zcr (U6 (a+1) a _ (by omega) (by omega)) λ w4 e4=>?_
    refine ⟨e4,?_⟩
    simp (disch:=try exact DI) only [↓PR,QR,simprocAttr,wa]
    refine zcr (U6 (z+1) z _ (by omega) (by omega)) λ w5 e5=>?_
    refine ⟨e4.trans e5,?_⟩
    have y8:=(eG.trans (e4.trans e5)).obj x8
    simp (disch:=try exact DI) only [↓PR,QR,simprocAttr,(Za y8).1,(Za y8).2,↓VI,↓VJ,↓VK,↓VL,↓VM,↓Vt,↓Vb,↓Vc,↓Vu,↓QG,↓QH,↓Qt,↓Q4,↓Q5,↓Q6,↓Q7,↓Q8,↓QI,↓Q9,↓QJ,↓Wa,↓Wb,↓QK,↓QL,↓QM,↓QN,↓QO,↓Qu,↓QQ,↓QS,wz,wa]
    refine Yb ?_
    simp (disch:=try exact DI) only [↓PR,QR,simprocAttr,(Za y8).1,(Za y8).2]
    exact ⟨by first | trivial | rfl,ee⟩
 · rw [show Yg sp m.fields f=(capF (ivL m.fields f*8),capF (ivH m.fields f*8)) by unfold Yg;simp [k]]
   obtain ⟨n1,n2,n3⟩:=hv.iv (by omega)
   simp only [ivL,ivH] at n1 n2 n3 ⊢
   rw [V9 (by omega),V9 (by omega)]
   have wl:IntKind.i64.wrap (8*Y5 f.base f.terms (YD m.fields))=Y5 f.base f.terms (YD m.fields)*8:=by rw [Z0 (by omega) (by omega),Int.mul_comm]
   have wh:IntKind.i64.wrap (8*Y4 f.base f.terms (YD m.fields))=Y4 f.base f.terms (YD m.fields)*8:=by rw [Z0 (by omega) (by omega),Int.mul_comm]
   simp (disch:=try exact DI) only [↓PR,QR,simprocAttr,k,wl,wh,↓VI,↓VJ,↓VK,↓VL,↓VM,↓Vt,↓Vb,↓Vc,↓Vu,↓QG,↓QH,↓Qt,↓Q4,↓Q5,↓Q6,↓Q7,↓Q8,↓QI,↓Q9,↓QJ,↓Wa,↓Wb,↓QK,↓QL,↓QM,↓QN,↓QO,↓Qu,↓QQ,↓QS,(Za x9).1,(Za x8).1,(Za x8).2]
   exact ⟨by first | trivial | rfl,ee⟩
 · rw [show Yg sp m.fields f=(8,8*(f.high+1)) by unfold Yg;simp [k]]
   have:=hv.high5 k
   have wl:IntKind.i64.wrap (IntKind.i64.wrap (8*f.high)+8)=8*(f.high+1):=by rw [Z0 (x:=8*f.high) (by omega) (by omega),Z0 (by omega) (by omega),Int.mul_add];rfl
   simp (disch:=try exact DI) only [↓PR,QR,simprocAttr,k,wl,↓VI,↓VJ,↓VK,↓VL,↓VM,↓Vt,↓Vb,↓Vc,↓Vu,↓QG,↓QH,↓Qt,↓Q4,↓Q5,↓Q6,↓Q7,↓Q8,↓QI,↓Q9,↓QJ,↓Wa,↓Wb,↓QK,↓QL,↓QM,↓QN,↓QO,↓Qu,↓QQ,↓QS,(Za x9).1,(Za x8).1,(Za x8).2]
   exact ⟨by first | trivial | rfl,ee⟩
 · rw [show Yg sp m.fields f=(16,8*f.high) by unfold Yg;simp [k]]
   have:=hv.high6 k
   have wl:IntKind.i64.wrap (8*f.high)=8*f.high:=Z0 (by omega) (by omega)
   simp (disch:=try exact DI) only [↓PR,QR,simprocAttr,k,wl,↓VI,↓VJ,↓VK,↓VL,↓VM,↓Vt,↓Vb,↓Vc,↓Vu,↓QG,↓QH,↓Qt,↓Q4,↓Q5,↓Q6,↓Q7,↓Q8,↓QI,↓Q9,↓QJ,↓Wa,↓Wb,↓QK,↓QL,↓QM,↓QN,↓QO,↓Qu,↓QQ,↓QS,(Za x9).1,(Za x8).1,(Za x8).2]
   exact ⟨by first | trivial | rfl,ee⟩
 · rw [show Yg sp m.fields f=(capF (ivL m.fields f*(Z5 sp f.of).1),capF (ivH m.fields f*(Z5 sp f.of).2)) by unfold Yg;simp [k]]
   obtain ⟨n1,n2,n3⟩:=hv.iv (by omega)
   simp only [ivL,ivH] at n1 n2 n3 ⊢
   obtain ⟨j,hj,hjn,hjs⟩:=hfind f.of (by unfold Xx;simp [k])
   obtain ⟨bB,oB,csB,rfl,_,hAB,rfl⟩:=helB j _ hjs
   have hlk:=hb.look f.of
   rw [hj]
   simp (disch:=try exact DI) only [↓PR,QR,simprocAttr,k,↓VI,↓VJ,↓VK,↓VL,↓VM,↓Vt,↓Vb,↓Vc,↓Vu,↓QG,↓QH,↓Qt,↓Q4,↓Q5,↓Q6,↓Q7,↓Q8,↓QI,↓Q9,↓QJ,↓Wa,↓Wb,↓QK,↓QL,↓QM,↓QN,↓QO,↓Qu,↓QQ,↓QS,(Za x9).1,(Za x8).1,(Za x8).2]
   refine Zy ?_
   have eG:Ext w w.drew:=(Ext.refl _).wdrew
   have q2:∀ K:Vl→Prop,qV Pg (EC w.drew) (indexAt 71 (.slice (some ⟨bB,oB,none⟩) n cB) (.int .i64 (j:Int))) K=K (.pointer (some ⟨bB,oB+j*2,none⟩)):=λ K=>YO λ QP w' k'=>YN underlying71 xk bB oB n cB .i64 j hjn
   unfold Vt
   simp (disch:=try exact DI) only [↓PR,QR,simprocAttr,q2,hAB.c2 (E.trans eG),hAB.c2 E]
   refine zcr (Bu _ _ _ ⟨n1,by omega⟩ hlk.1) λ w4 e4=>?_
   refine ⟨e4,?_⟩
   refine zcr (Bu _ _ _ ⟨by omega,by omega⟩ hlk.2) λ w5 e5=>?_
   refine ⟨e4.trans e5,?_⟩
   have y8:=(eG.trans (e4.trans e5)).obj x8
   simp (disch:=try exact DI) only [↓PR,QR,simprocAttr,(Za y8).1,(Za y8).2,↓VI,↓VJ,↓VK,↓VL,↓VM,↓Vt,↓Vb,↓Vc,↓Vu,↓QG,↓QH,↓Qt,↓Q4,↓Q5,↓Q6,↓Q7,↓Q8,↓QI,↓Q9,↓QJ,↓Wa,↓Wb,↓QK,↓QL,↓QM,↓QN,↓QO,↓Qu,↓QQ,↓QS]
   refine Yb ?_
   simp (disch:=try exact DI) only [↓PR,QR,simprocAttr,(Za y8).1,(Za y8).2]
   exact ⟨by first | trivial | rfl,ee⟩
 · rw [show Yg sp m.fields f=Z5 sp f.of by unfold Yg;simp [k]]
   obtain ⟨j,hj,hjn,hjs⟩:=hfind f.of (by unfold Xx;simp [k])
   obtain ⟨bB,oB,csB,rfl,_,hAB,rfl⟩:=helB j _ hjs
   rw [hj]
   simp (disch:=try exact DI) only [↓PR,QR,simprocAttr,k,hAB.c2 E,↓VI,↓VJ,↓VK,↓VL,↓VM,↓Vt,↓Vb,↓Vc,↓Vu,↓QG,↓QH,↓Qt,↓Q4,↓Q5,↓Q6,↓Q7,↓Q8,↓QI,↓Q9,↓QJ,↓Wa,↓Wb,↓QK,↓QL,↓QM,↓QN,↓QO,↓Qu,↓QQ,↓QS,(Za x9).1,(Za x8).1,(Za x8).2]
   exact ⟨by first | trivial | rfl,ee⟩
 · rw [show Yg sp m.fields f=XN sp f.cases by unfold Yg;simp [k]]
   simp (disch:=try exact DI) only [↓PR,QR,simprocAttr,k,↓Qu,↓QO,↓QN,↓QM,↓QL,↓QK,↓QJ,↓QI,(Za x9).1]
   have eN:Ext w (w.alloc (.cells #[.int .i64 0,.int .i64 0] 76)):=ee
   have s3:=E.size
   have l2:=(Array.getElem?_eq_some_iff.1 x2).1
   exact Sc hD hC hc1 ht1 hn hsn (hsn ▸ hB0) (λ c hc=>hfind c.of (by unfold Xx;simp only [k];simp;exact ⟨c,hc,rfl⟩)) ⟨E.trans eN,eN.obj x2,eN.obj x9,⟨_,_,eN.obj x8⟩,ZG _ _ _⟩ (by omega) (by omega) (by omega) (by omega) (by omega)
 · rw [show Yg sp m.fields f=(0,f.bits - 1) by unfold Yg;simp [k]]
   have:=qk (hv.pad k)
   have wl:IntKind.i64.wrap (f.bits - 1)=f.bits - 1:=Z0 (by omega) (by omega)
   simp (disch:=try exact DI) only [↓PR,QR,simprocAttr,k,wl,↓VI,↓VJ,↓VK,↓VL,↓VM,↓Vt,↓Vb,↓Vc,↓Vu,↓QG,↓QH,↓Qt,↓Q4,↓Q5,↓Q6,↓Q7,↓Q8,↓QI,↓Q9,↓QJ,↓Wa,↓Wb,↓QK,↓QL,↓QM,↓QN,↓QO,↓Qu,↓QQ,↓QS,(Za x9).1,(Za x8).1,(Za x8).2]
   exact ⟨by first | trivial | rfl,ee⟩
 · rw [show Yg sp m.fields f=if f.check=3 then (32,32) else (16,16) by unfold Yg;simp [k]]
   by_cases hc:f.check=3
   · rw [if_pos hc]
     simp (disch:=try exact DI) only [↓PR,QR,simprocAttr,k,hc,↓VI,↓VJ,↓VK,↓VL,↓VM,↓Vt,↓Vb,↓Vc,↓Vu,↓QG,↓QH,↓Qt,↓Q4,↓Q5,↓Q6,↓Q7,↓Q8,↓QI,↓Q9,↓QJ,↓Wa,↓Wb,↓QK,↓QL,↓QM,↓QN,↓QO,↓Qu,↓QQ,↓QS,(Za x9).1,(Za x8).1,(Za x8).2]
     exact ⟨by first | trivial | rfl,ee⟩
   · rw [if_neg hc]
     have h0:(f.check == 3)=false:=by simpa using hc
     simp (disch:=try exact DI) only [↓PR,QR,simprocAttr,k,h0,↓VI,↓VJ,↓VK,↓VL,↓VM,↓Vt,↓Vb,↓Vc,↓Vu,↓QG,↓QH,↓Qt,↓Q4,↓Q5,↓Q6,↓Q7,↓Q8,↓QI,↓Q9,↓QJ,↓Wa,↓Wb,↓QK,↓QL,↓QM,↓QN,↓QO,↓Qu,↓QQ,↓QS,(Za x9).1,(Za x8).1,(Za x8).2]
     exact ⟨by first | trivial | rfl,ee⟩
 · rw [show Yg sp m.fields f=(capF (ivL m.fields f*8),capF (ivH m.fields f*8)) by unfold Yg;simp [k]]
   obtain ⟨n1,n2,n3⟩:=hv.iv (by omega)
   simp only [ivL,ivH] at n1 n2 n3 ⊢
   rw [V9 (by omega),V9 (by omega)]
   have wl:IntKind.i64.wrap (8*Y5 f.base f.terms (YD m.fields))=Y5 f.base f.terms (YD m.fields)*8:=by rw [Z0 (by omega) (by omega),Int.mul_comm]
   have wh:IntKind.i64.wrap (8*Y4 f.base f.terms (YD m.fields))=Y4 f.base f.terms (YD m.fields)*8:=by rw [Z0 (by omega) (by omega),Int.mul_comm]
   simp (disch:=try exact DI) only [↓PR,QR,simprocAttr,k,wl,wh,↓VI,↓VJ,↓VK,↓VL,↓VM,↓Vt,↓Vb,↓Vc,↓Vu,↓QG,↓QH,↓Qt,↓Q4,↓Q5,↓Q6,↓Q7,↓Q8,↓QI,↓Q9,↓QJ,↓Wa,↓Wb,↓QK,↓QL,↓QM,↓QN,↓QO,↓Qu,↓QQ,↓QS,(Za x9).1,(Za x8).1,(Za x8).2]
   exact ⟨by first | trivial | rfl,ee⟩
theorem Yk.below {α:Type} {w w':Wd} {lo n:Nat} {T:TypeId} {enc:α→List Vl} {v:Vl} {l:List α} (h:Yk w lo T n enc v l) (hh:∀ g:Nat,lo≤g→w'.heap[g]?=w.heap[g]?):Yk w' lo T n enc v l:=by
 refine ⟨h.1,?_⟩
 rcases h.2 with h2 | ⟨g,cap,cur,h1,h2,h3,h4⟩
 · exact .inl h2
 · exact .inr ⟨g,cap,cur,h1,h2,(hh _ h2).trans h3,h4⟩
theorem Yk.under {α:Type} {w:Wd} {lo n:Nat} {T:TypeId} {enc:α→List Vl} {v x y:Vl} {p o o':Nat} {l:List α} (h:Yk w lo T n enc v l) (hp:p < lo):Yk ((w.setCell ⟨p,o,none⟩ x).setCell ⟨p,o',none⟩ y) lo T n enc v l:=
 Yk.below h λ g hg=>by rw [YM (by omega),YM (by omega)]
theorem Ext.cut (w:Wd) (n:Nat) (h:n≤w.heap.size):∃ a,Ext a w∧a.heap.size=n∧∀ g,g < n→a.heap[g]?=w.heap[g]?:=by
 have hb:∀ g,g < n→(w.heap.extract 0 n)[g]?=w.heap[g]?:=λ g hg=>by
  rw [Array.getElem?_extract]
  simp only [Nat.zero_add]
  rw [if_pos (by omega)]
 have hs:(w.heap.extract 0 n).size=n:=by rw [Array.size_extract];omega
 exact ⟨{ w with heap:=w.heap.extract 0 n },⟨rfl,rfl,rfl,by show (w.heap.extract 0 n).size≤_;omega,λ k hk=>(hb k (by rw [← hs];exact hk)).symm⟩,hs,hb⟩
def FM (sp:List (BAr×Int×Int)) (l:List Zl) (n:Nat):List (BAr×Int×Int):=(List.range n).map λ k=>(ByteArray.empty,YC sp l k)
theorem IE (sp:List (BAr×Int×Int)) (l:List Zl) (n:Nat):FM sp l (n+1)=FM sp l n++[(ByteArray.empty,YC sp l n)]:=by unfold FM;rw [List.range_succ,List.map_append];rfl
theorem R9 (sp:List (BAr×Int×Int)) (l:List Zl) (n:Nat):(FM sp l n).length=n:=by simp [FM]
theorem Bs (w0:Wd) (v mv bv:Vl) (d:YQ) (n:Nat) (m:ZC) (hd:YT w0 v d) (hm:Qr w0 mv m) (hlm:m.fields.length≤1048576) (hn:n≤d.msgs.length) (hN:Je (d.msgs.take n)) (hB:qv w0 bv (ZK (d.msgs.take n))) (hb:BSp (ZK (d.msgs.take n))) (hv:∀ f∈m.fields,OkV (ZN (d.msgs.take n)) m.fields f) (ok:OkM (ZK (d.msgs.take n)) m.fields) :
 Ret Pg 80 #[v,mv,bv] w0 λ r w'=>∃ sv,r = .tuple #[sv,Zv (YC (ZK (d.msgs.take n)) m.fields m.fields.length).1 (YC (ZK (d.msgs.take n)) m.fields m.fields.length).2]∧Yk w' w0.heap.size 76 2 VC sv (FM (ZK (d.msgs.take n)) m.fields m.fields.length)∧Ext w0 w':=by
 obtain ⟨dv,rfl,hD⟩:=hd
 have hd1:=Zd.oneCell hD
 obtain ⟨fv,rfl,hF⟩:=hm
 have hF0:=hF
 have hf1:=Zd.oneCell hF
 have hB1:=Zd.oneCell hB
 obtain ⟨A,c,rfl,hlc,hcm,hlm',Y3⟩:=Zd.open hF
 refine Ziq (R:=ZO _) ?_;unfold n44
 simp (disch:=try exact DI) only [↓PR,QR,simprocAttr]
 simp only [World.size_alloc]
 generalize hX:World.alloc (World.alloc w0 _) _=X
 have eX:Ext w0 X:=by rw [← hX];exact ee
 have o3:X.heap[w0.heap.size]?=some (.cells (Zz d dv).toArray 28 (0,0)):=by rw [← hX];simp (disch:=try exact DI) only [↓PR,QR,simprocAttr]
 have o4:X.heap[w0.heap.size+1]?=some (.cells (Z8 m (.slice A m.fields.length c)).toArray 24 (0,0)):=by rw [← hX];simp (disch:=try exact DI) only [↓PR,QR,simprocAttr]
 have sX:X.heap.size=w0.heap.size+1+1:=by rw [← hX];simp
 clear hX
 rw [← sX]
 generalize hp4:w0.heap.size+1=p4 at o4 sX ⊢
 generalize hp3:w0.heap.size=p3 at o3 hp4 ⊢
 generalize hW:World.alloc (World.alloc X _) _=W
 have eW:Ext X W:=by rw [← hW];exact ee
 have o7:W.heap[X.heap.size]?=some (.cells #[.int .i64 0,.int .i64 0] 76 (0,0)):=by rw [← hW];simp (disch:=try exact DI) only [↓PR,QR,simprocAttr]
 have o9:W.heap[X.heap.size+1]?=some (.cells #[.int .i64 0,.int .i64 0] 76 (0,0)):=by rw [← hW];simp (disch:=try exact DI) only [↓PR,QR,simprocAttr]
 have sW:W.heap.size=X.heap.size+2:=by rw [← hW];simp
 clear hW
 generalize hp9:X.heap.size+1=p9 at o9 ⊢
 generalize hp7:X.heap.size=p7 at o7 ⊢
 have h79:p7≠p9:=by omega
 have hrs:=λ (w:Wd) (mv:Vl) (hm:Qr w mv m) (e:Ext w0 w) (i:Nat) (f:Zl) (hi:m.fields[i]?=some f)=>Nc w (.agg (Zz d dv).toArray) mv bv d n i m f ⟨_,rfl,hD.ext e⟩ hm hi hlm hn hN (hB.ext e) hb (hv f (List.mem_of_getElem? hi))
 generalize ZK (d.msgs.take n)=sp at hB hb ok hrs ⊢
 refine Yn (λ a b w=>∃ (k:Nat) (sv:Vl),a=sv∧b = .int .i64 k∧k≤m.fields.length∧Ext X w∧(∃ z0 z1,w.heap[p7]?=some (.cells #[z0,z1] 76 (0,0)))∧w.heap[p9]?=some (.cells #[.int .i64 (YC sp m.fields k).1,.int .i64 (YC sp m.fields k).2] 76 (0,0))∧Yk w (p7+2) 76 2 VC sv (FM sp m.fields k)) (λ _ b _=>m.fields.length - (intOf b).toNat) ⟨0,_,rfl,rfl,by omega,eW,⟨_,_,o7⟩,o9,Yk.nil _ _ _ _ _⟩ ?_
 rintro sv _ w ⟨k,_,rfl,rfl,hk,e,⟨z0,z1,x7⟩,x9,hO⟩
 have E:=eX.trans e
 have x3:=e.obj o3
 have x4:=e.obj o4
 have l7:=(Array.getElem?_eq_some_iff.1 x7).1
 have l9:=(Array.getElem?_eq_some_iff.1 x9).1
 have hin:=xe ok k
 unfold Za1
 rcases ZD hk with ⟨f,hx,hdr,Yv,ZJ⟩ | ⟨hk,hdr,ZJ⟩
 · obtain ⟨b,o,cs,rfl,_,hA,hE⟩:=Y3 k f hx
   obtain ⟨tv,cv,rfl,hT,hC,ht1,hc1⟩:=hE.op
   have hfm:=List.mem_of_getElem? hx
   have hstp:=qn (sp:=sp) hx
   simp (disch:=try exact DI) only [↓PR,QR,simprocAttr,(Za x4).1,ZJ,↓Za0,(Za x9).1]
   generalize hQ:YC sp m.fields k=q at x9 hin hstp ⊢
   have hO1:=hO.ext ((Ext.refl w).alloc (Obj.cells #[.int .i64 q.1,.int .i64 q.2] 76))
   refine VO underlying71 xk ZbL rfl (by decide) (λ _=>rfl) (ByteArray.empty,q) (by simp only [VC,List.forall_mem_cons];exact ⟨rfl,rfl,by simp⟩) hO1 (Z6.new _ _) (by simp only [World.size_alloc];omega) (by rw [R9];omega) ?_
   intro sv2 w1 hO2 hext
   obtain ⟨a,ea,sa,ha⟩:=Ext.cut w (p7+2) (by omega)
   have e1:=hext a (ea.alloc _) (by omega)
   have E1:=eX.trans (hext X (e.alloc _) (by omega))
   have e2:=hext X (e.alloc _) (by omega)
   have y7:=e1.obj ((ha p7 (by omega)).trans x7)
   have y9:=e1.obj ((ha p9 (by omega)).trans x9)
   have x9:=y9
   have x7:=y7
   have hO2':Yk w1 (p7+2) 76 2 VC sv2 (FM sp m.fields (k+1)):=by rw [IE,hQ];exact hO2
   clear hO2 hO1 hO
   have y3:=e2.obj o3
   have y4:=e2.obj o4
   simp (disch:=try exact DI) only [↓PR,QR,simprocAttr,(Za y3).1,(Za y4).1,hA.c15 E1]
   have o11:=ZG w1 (Zm f tv cv).toArray 48
   have eV:Ext w1 (w1.alloc (.cells (Zm f tv cv).toArray 48)):=ee
   generalize hV:w1.alloc (.cells (Zm f tv cv).toArray 48)=V at o11 eV ⊢
   clear hV
   generalize hp11:w1.heap.size=p11 at o11 ⊢
   have z3:=eV.obj y3
   have z4:=eV.obj y4
   simp (disch:=try exact DI) only [↓PR,QR,simprocAttr,(Za z3).1,(Za z4).1]
   refine zcr (hrs _ _ ⟨_,rfl,hF0.ext (E1.trans eV)⟩ (E1.trans eV) k f hx) λ w2 e3=>?_
   have x11:=e3.obj o11
   have u7:=e3.obj (eV.obj y7)
   have u9:=e3.obj (eV.obj y9)
   have hO3:=hO2'.ext (eV.trans e3)
   have E3:=(e2.trans eV).trans e3
   clear x7 x9 y7 y9 y3 y4 z3 z4 o11 hO2'
   generalize hS:Yg sp m.fields f=sf at hstp ⊢
   unfold ZaY
   have eN:Ext w2 (w2.alloc (.cells #[.int .i64 sf.1,.int .i64 sf.2] 76)):=ee
   have o12:=ZG w2 #[.int .i64 sf.1,.int .i64 sf.2] 76
   by_cases hk10:f.kind=10
   · have d1:(f.kind == 10)=true:=by simp [hk10]
     have hpad:=ok.pad f hfm hk10
     simp (disch:=try exact DI) only [↓PR,QR,simprocAttr,(Za (eN.obj x11)).1,d1]
     generalize hZ:w2.alloc (.cells #[.int .i64 sf.1,.int .i64 sf.2] 76)=Z at eN o12 ⊢
     clear hZ
     generalize hp12:w2.heap.size=p12 at o12 ⊢
     have b7:=eN.obj u7
     have b9:=eN.obj u9
     have b11:=eN.obj x11
     have hO4:=hO3.ext eN
     have E4:=E3.trans eN
     refine Zy ?_
     have eG:Ext Z Z.drew:=(Ext.refl _).wdrew
     unfold ZaW
     simp (disch:=try exact DI) only [↓PR,QR,simprocAttr,(Za b9).1,(Za b11).1,(Za o12).1]
     refine zcr (Mf _ q.1 f.bits hin.1 hpad) λ w4 e4=>?_
     refine ⟨e4,?_⟩
     simp (disch:=try exact DI) only [↓PR,QR,simprocAttr,↓Rb,↓Rc]
     refine zcr (Mf _ q.2 f.bits hin.2 hpad) λ w5 e5=>?_
     refine ⟨e4.trans e5,?_⟩
     have eF:=eG.trans (e4.trans e5)
     have y9:=eF.obj b9
     have y7:=eF.obj b7
     have l9':=(Array.getElem?_eq_some_iff.1 y9).1
     simp (disch:=try exact DI) only [↓PR,QR,simprocAttr,(Za y9).1,(Za y9).2]
     refine Yb ?_
     simp (disch:=try exact DI) only [↓PR,QR,simprocAttr]
     refine ⟨⟨k+1,sv2,rfl,rfl,by omega,ee,⟨z0,z1,by first | exact y7 | (rw [YM h79,YM h79];exact y7)⟩,?_,?_⟩,ZM (kd := .i64) Yv⟩
     · rw [hstp]
       simpa [BC,hk10,hS] using ZE (o:=1) (ZE (o:=0) y9 (.int .i64 (capF (upI q.1 f.bits)))) (.int .i64 (capF (upI q.2 f.bits)))
     · exact Yk.under (hO4.ext eF) (by omega)
   · have d1:(f.kind == 10)=false:=by simp [hk10]
     have hsp:=ok.span f hfm hk10
     rw [hS] at hsp
     simp (disch:=try exact DI) only [↓PR,QR,simprocAttr,(Za (eN.obj x11)).1,d1]
     generalize hZ:w2.alloc (.cells #[.int .i64 sf.1,.int .i64 sf.2] 76)=Z at eN o12 ⊢
     clear hZ
     generalize hp12:w2.heap.size=p12 at o12 ⊢
     have b7:=eN.obj u7
     have b9:=eN.obj u9
     have b11:=eN.obj x11
     have hO4:=hO3.ext eN
     have E4:=E3.trans eN
     refine Zy ?_
     have eG:Ext Z Z.drew:=(Ext.refl _).wdrew
     unfold ZaX
     simp (disch:=try exact DI) only [↓PR,QR,simprocAttr,(Za b9).1,(Za b11).1,(Za o12).1]
     refine zcr (CO _ q.1 sf.1 hin.1 hsp.1) λ w4 e4=>?_
     refine ⟨e4,?_⟩
     simp (disch:=try exact DI) only [↓PR,QR,simprocAttr,↓Rb,↓Rc]
     refine zcr (CO _ q.2 sf.2 hin.2 hsp.2) λ w5 e5=>?_
     refine ⟨e4.trans e5,?_⟩
     have eF:=eG.trans (e4.trans e5)
     have y9:=eF.obj b9
     have y7:=eF.obj b7
     have l9':=(Array.getElem?_eq_some_iff.1 y9).1
     simp (disch:=try exact DI) only [↓PR,QR,simprocAttr,(Za y9).1,(Za y9).2]
     refine Yb ?_
     simp (disch:=try exact DI) only [↓PR,QR,simprocAttr]
     refine ⟨⟨k+1,sv2,rfl,rfl,by omega,ee,⟨z0,z1,by first | exact y7 | (rw [YM h79,YM h79];exact y7)⟩,?_,?_⟩,ZM (kd := .i64) Yv⟩
     · rw [hstp]
       simpa [BC,hk10,hS] using ZE (o:=1) (ZE (o:=0) y9 (.int .i64 (capF (q.1+sf.1)))) (.int .i64 (capF (q.2+sf.2)))
     · exact Yk.under (hO4.ext eF) (by omega)
 · subst hk
   simp (disch:=try exact DI) only [↓PR,QR,simprocAttr,(Za x4).1,ZJ]
   refine Zy ?_
   unfold ZaZ
   simp (disch:=try exact DI) only [↓PR,QR,simprocAttr,(Za x9).1,(Za x7).1,(Za x7).2]
   refine Yb ?_
   simp (disch:=try exact DI) only [↓PR,QR,simprocAttr,(Za x7).1,(Za x7).2]
   exact ⟨_,rfl,(Yk.under (hO.ext ((Ext.refl w).wdrew)) (by omega)).base (by omega),ee⟩
theorem EH {w:Wd} {p:Nat} (hp:p=w.heap.size) (cs:List Vl) (T:TypeId):Z6 (w.alloc (.cells cs.toArray T)) p 0 cs:=by subst hp;exact Z6.new cs T
theorem B1 (w0:Wd) (v:Vl) (d:YQ) (hd:YT w0 v d) (hf:Q2 d.msgs) (ht:∀ m∈d.msgs,∀ f∈m.fields,f.terms.length≤1048576) (hl:d.msgs.length≤1048576):Ret Pg 36 #[v] w0 λ r w'=>qv w' r (ZK d.msgs)∧Ext w0 w':=by
 have hV:=hf.allV
 obtain ⟨dv,rfl,hD⟩:=hd
 have hD0:=hD
 have hd1:=Zd.oneCell hD
 obtain ⟨A,c,rfl,hlc,hcm,hlm,Y3⟩:=Zd.open hD
 refine Zio (R:=ZO _) ?_;unfold n43
 simp (disch:=try exact DI) only [↓PR,QR,simprocAttr]
 have Xz:=Z6.new (w:=w0) (Zz d (.slice A d.msgs.length c)) (28)
 have eW:Ext w0 (w0.alloc (Obj.cells (List.toArray (Zz d (.slice A d.msgs.length c))) (28))):=(Ext.refl _).alloc _
 generalize (w0.alloc (Obj.cells (List.toArray (Zz d (.slice A d.msgs.length c))) (28)))=W at Xz eW ⊢
 refine Yn (λ a b w'=>∃ (k:Nat) (sv:Vl),a=sv∧b = .int .i64 k∧k≤d.msgs.length∧Ext W w'∧Yk w' W.heap.size 76 2 VC sv (ZK (d.msgs.take k))) (λ _ b _=>d.msgs.length - (intOf b).toNat) ⟨0,_,rfl,rfl,by omega,Ext.refl _,Yk.nil _ _ _ _ _⟩ ?_
 rintro sv _ w ⟨k,_,rfl,rfl,hk,e,hO⟩
 have E:=eW.trans e
 have sw:=e.size
 unfold ZaV
 rcases ZD hk with ⟨m,hx,hdr,Yv,ZJ⟩ | ⟨hk,hdr,ZJ⟩
 · obtain ⟨b,o,cs,rfl,_,hA,fv,rfl,hF⟩:=Y3 k m hx
   have hf1:=Zd.oneCell hF
   simp (disch:=try exact DI) only [↓PR,QR,simprocAttr,Xz.c3 e,ZJ]
   refine Zy ?_
   have eD:Ext w w.drew:=(Ext.refl _).wdrew
   have ED:=E.trans eD
   have sD:w.drew.heap.size=w.heap.size:=World.size_drew _
   have qi:∀ K:Vl→Prop,qV Pg (EC w.drew) (indexAt 26 (.slice (some ⟨b,o,none⟩) d.msgs.length c) (.int .i64 (k:Int))) K=K (.pointer (some ⟨b,o+k*2,none⟩)):=λ K=>YO λ QP w' k'=>YN underlying26 Ki b o d.msgs.length c .i64 k Yv
   have ql:∀ K:Vl→Prop,qV Pg (EC w.drew) (loadAt 24 (.pointer (some ⟨b,o+k*2,none⟩))) K=K (.agg (Z8 m fv).toArray):=λ K=>VA λ w' e=>Xa λ QP k=>Wi ((hA.ext (ED.trans e)).loads Ki rfl)
   unfold ZaU
   simp (disch:=try exact DI) only [↓PR,QR,simprocAttr,Xz.c3 e,hA.c2 E,qi]
   have hx':=hV k m hx
   have htm:=ht m (List.mem_of_getElem? hx)
   have hsp:=Ge hV ht k (by omega)
   have hpos:∀ w1:Wd,Ext w0 w1→Ext w w1→_:=λ w1 e1 e2=>Bs w1 (.agg (Zz d (.slice (some ⟨b,o,none⟩) d.msgs.length c)).toArray) (.agg (Z8 m fv).toArray) sv d k m ⟨_,rfl,hD0.ext e1⟩ ⟨_,rfl,hF.ext e1⟩ (by omega) (by omega) (hf.take k).dist ((hO.ext e2).slice (E:=ESp) (λ _=>rfl) (λ _ _=>rfl)) hsp hx'.1 (DX hx'.1 htm hsp)
   refine ⟨?_,?_⟩
   · refine Zs (hpos _ ee ee) ?_
     rintro _ w1 ⟨sv1,rfl,_,e1⟩
     refine ⟨e1,?_⟩
     have E1:=(e.trans eD).trans e1
     unfold ZaS
     simp (disch:=try exact DI) only [↓PR,QR,simprocAttr]
     refine ⟨ee,Yb ?_⟩
     simp (disch:=try exact DI) only [↓PR,QR,simprocAttr,↓Ra]
     have s1:=e1.size
     refine VO underlying71 xk ZbL rfl (by decide) (λ _=>rfl) (m.name,YC (ZK (d.msgs.take k)) m.fields m.fields.length) (by simp only [VC,List.forall_mem_cons];exact ⟨rfl,rfl,by simp⟩) (hO.ext (((eD.trans e1).alloc _).alloc _)) (EH (by simp) _ _) (by simp only [World.size_alloc,World.size_setCell];omega) (by rw [Wr,List.length_take];omega) ?_
     intro v' w' hO' hext
     have eN:Ext W w':=hext W (e.trans (((eD.trans e1).alloc _).alloc _)) (Nat.le_refl _)
     simp (disch:=try exact DI) only [↓PR,QR,simprocAttr]
     refine ⟨⟨k+1,v',rfl,rfl,by omega,eN,?_⟩,ZM (kd := .i64) Yv⟩
     rw [Vd hx]
     exact hO'
   · refine ⟨ee,?_⟩
     refine Zs (hpos _ ee ee) ?_
     rintro _ w1 ⟨sv1,rfl,_,e1⟩
     have E1:=(e.trans eD).trans (((Ext.refl w.drew).alloc _).trans e1)
     have o6:(w.drew.alloc (.cells #[.int .i64 0,.int .i64 0] 76)).heap[w.heap.size]?=some (.cells #[.int .i64 0,.int .i64 0] 76 (0,0)):=by have:=ZG w.drew #[.int .i64 0,.int .i64 0] 76;rwa [sD] at this
     have x6:=e1.obj o6
     have l6:=(Array.getElem?_eq_some_iff.1 x6).1
     unfold ZaT
     refine ⟨((Ext.refl w.drew).alloc _).trans e1,?_⟩
     simp (disch:=try exact DI) only [↓PR,QR,simprocAttr,(Za x6).1,(Za x6).2]
     refine Yb ?_
     simp (disch:=try exact DI) only [↓PR,QR,simprocAttr,↓Ra,(Za x6).1]
     have s1:=e1.size
     have sA:=World.size_alloc w.drew (.cells #[.int .i64 0,.int .i64 0] 76)
     refine VO underlying71 xk ZbL rfl (by decide) (λ _=>rfl) (m.name,YC (ZK (d.msgs.take k)) m.fields m.fields.length) (by simp only [VC,List.forall_mem_cons];exact ⟨rfl,rfl,by simp⟩) (hO.ext (((((eD.trans (((Ext.refl w.drew).alloc _).trans e1)).setCell (p:=⟨w.heap.size,0,none⟩) (Nat.le_refl _) _).setCell (p:=⟨w.heap.size,1,none⟩) (Nat.le_refl _) _).alloc _))) (EH (by simp) _ _) (by simp only [World.size_alloc,World.size_setCell];omega) (by rw [Wr,List.length_take];omega) ?_
     intro v' w' hO' hext
     have eN:Ext W w':=hext W (e.trans (((((eD.trans (((Ext.refl w.drew).alloc _).trans e1)).setCell (p:=⟨w.heap.size,0,none⟩) (Nat.le_refl _) _).setCell (p:=⟨w.heap.size,1,none⟩) (Nat.le_refl _) _).alloc _))) (Nat.le_refl _)
     simp (disch:=try exact DI) only [↓PR,QR,simprocAttr]
     refine ⟨⟨k+1,v',rfl,rfl,by omega,eN,?_⟩,ZM (kd := .i64) Yv⟩
     rw [Vd hx]
     exact hO'
 · subst hk
   simp (disch:=try exact DI) only [↓PR,QR,simprocAttr,Xz.c3 e,ZJ]
   rw [List.take_length] at hO
   exact ⟨hO.slice (E:=ESp) (λ _=>rfl) (λ _ _=>rfl),E⟩
def KH (d:YQ) (i fld:Int):Int×Int:=match d.msgs[i.toNat]? with
 | none=>(0,0)
 | some m=>match m.fields[fld.toNat]? with
  | none=>(0,0)
  | some f=>Yg (ZK d.msgs) m.fields f
def FN (d:YQ) (i fld:Int):Int×Int:=match d.msgs[i.toNat]? with
 | none=>(0,0)
 | some m=>YC (ZK d.msgs) m.fields fld.toNat
def Ue (d:YQ) (i:Int):Int×Int:=match d.msgs[i.toNat]? with
 | none=>(0,0)
 | some m=>Z5 (ZK d.msgs) m.name
def yy (e:Int) (r:Int×Int):Vl:=if e=0 then .tuple #[Zv r.1 r.2,.int .i64 0] else .tuple #[Zv 0 0,.int .i64 e]
theorem Cd {d:YQ} {i fld:Int} (h:XO d i fld=0):(YA d).2.2=0∧∃ (k j:Nat) (m:ZC) (f:Zl),i=k∧fld=j∧d.msgs[k]?=some m∧m.fields[j]?=some f:=by
 unfold XO at h
 by_cases hE:UC d i=0
 · rw [if_neg (by simp [hE])] at h
   obtain ⟨hc,k,m,rfl,hk,hm,hL⟩:=M3 hE
   rw [hL] at h
   by_cases hf:fld < 0∨(m.fields.length:Int)≤fld
   · rw [if_pos hf] at h;exact absurd h (by decide)
   · obtain ⟨f,hfj⟩:=getElem?_lt (l:=m.fields) (k:=fld.toNat) (by omega)
     exact ⟨hc,k,fld.toNat,m,f,rfl,by omega,hm,hfj⟩
 · rw [if_pos hE] at h;exact absurd h hE
section
variable {w0:Wd} {d:YQ}
theorem HI (w0:Wd) (m:ZC) (fl:Vl) (mr:Nat) (sp:List (BAr×Int×Int)) (p5 j:Nat) (f:Zl) (hM:Yr w0 mr (RP sp)) (hF:Yq w0 fl m.fields) (hj:m.fields[j]?=some f) (ok:OkS sp m.fields f) (h5:w0.heap[p5]?=some (.cells #[.int .i64 (j:Int)] 3 (0,0))):Ret Pg 126 #[.agg (ZZ m fl mr).toArray,.pointer (some ⟨p5,0,none⟩)] w0 λ r w'=>r=Zv (Yg sp m.fields f).1 (Yg sp m.fields f).2∧Ext w0 w':=by
 have hf1:=Zd.oneCell hF
 obtain ⟨A,c,rfl,hlc,hcm,hlm,Y3⟩:=Zd.open hF
 obtain ⟨b,o,cs,rfl,hl,hA,hE⟩:=Y3 j f hj
 obtain ⟨tv,cv,rfl,hT,hC,ht1,hc1⟩:=hE.op
 have MV:=(List.getElem?_eq_some_iff.1 hj).1
 have l5:=(Array.getElem?_eq_some_iff.1 h5).1
 refine ZeF (R:=ZO _) ?_;unfold ZeE
 simp (disch:=try exact DI) only [↓PR,QR,simprocAttr]
 generalize hW:World.alloc (World.alloc w0 _) _=W
 have e0:Ext w0 W:=by rw [← hW];exact ee
 have o2:W.heap[w0.heap.size]?=some (.cells (ZZ m (.slice (some ⟨b,o,none⟩) m.fields.length c) mr).toArray 124 (0,0)):=by rw [← hW];simp (disch:=try exact DI) only [↓PR,QR,simprocAttr]
 have o3:W.heap[w0.heap.size+1]?=some (.cells #[.int .i64 0,.int .i64 0] 74 (0,0)):=by rw [← hW];simp (disch:=try exact DI) only [↓PR,QR,simprocAttr]
 clear hW
 refine Zy ?_
 have eD:Ext W W.drew:=(Ext.refl _).wdrew
 have E:=e0.trans eD
 have x5:=e0.obj h5
 have qi:∀ K:Vl→Prop,qV Pg (EC W.drew) (indexAt 22 (.slice (some ⟨b,o,none⟩) m.fields.length c) (.int .i64 (j:Int))) K=K (.pointer (some ⟨b,o+j*15,none⟩)):=λ K=>YO λ QP w' k=>YN underlying22 V2 b o m.fields.length c .i64 j MV
 have ql:∀ K:Vl→Prop,qV Pg (EC W.drew) (loadAt 48 (.pointer (some ⟨b,o+j*15,none⟩))) K=K (.agg (Zm f tv cv).toArray):=λ K=>VA λ w' e=>Xa λ QP k=>Wi ((hA.ext (E.trans e)).loads V2 rfl)
 unfold OU
 simp (disch:=try exact DI) only [↓PR,QR,simprocAttr,(Za o2).1,(Za x5).1,(Za h5).1,qi,hA.c15 e0]
 refine zcr (RM _ m _ tv cv mr f sp (hM.ext E) (hF.ext E) (hT.ext E) (hC.ext E) ok) λ w1 e1=>?_
 refine ⟨e1,?_⟩
 have E1:=E.trans e1
 have x3:=e1.obj (eD.obj o3)
 have l3:=(Array.getElem?_eq_some_iff.1 x3).1
 simp (disch:=try exact DI) only [↓PR,QR,simprocAttr,(Za x3).1,(Za x3).2]
 refine Yb ?_
 simp (disch:=try exact DI) only [↓PR,QR,simprocAttr,(Za x3).1]
 exact ⟨by first | trivial | rfl,ee⟩
theorem Hp (v:Vl) (i fld:Int) (hd:YT w0 v d) (ht:UJ d) (hs:qu d) (hl:d.msgs.length≤1048576):Ret Pg 104 #[v,.int .i64 i,.int .i64 fld] w0 λ r w'=>r=yy (XO d i fld) (KH d i fld)∧Ext w0 w':=by
 obtain ⟨mv,rfl,hM⟩:=hd
 have hm1:=Zd.oneCell hM
 refine ZeD (R:=ZO _) ?_;unfold ZeC
 simp (disch:=try exact DI) only [↓PR,QR,simprocAttr]
 generalize hW:World.alloc (World.alloc (World.alloc w0 _) _) _=W
 have e0:Ext w0 W:=by rw [← hW];exact ee
 have o5:W.heap[w0.heap.size+1]?=some (.cells #[.int .i64 fld] 3 (0,0)):=by rw [← hW];simp (disch:=try exact DI) only [↓PR,QR,simprocAttr]
 have o6:W.heap[w0.heap.size+1+1]?=some (.cells #[.int .i64 0,.int .i64 0] 74 (0,0)):=by rw [← hW];simp (disch:=try exact DI) only [↓PR,QR,simprocAttr]
 clear hW
 repeat rw [World.size_alloc]
 refine Zs (Dp _ i fld ⟨_,rfl,hM.ext e0⟩ ht hs hl _ _ ZgN (KH d i fld).1 (KH d i fld).2 ?_) ?_
 · intro m hm hG w fl mr e hF hMp
   obtain ⟨hck,k,j,m',f,rfl,rfl,hm',hf⟩:=Cd hG
   rw [Int.toNat_natCast] at hm
   rw [hm] at hm'
   injection hm' with hm'
   subst hm'
   have hV:KH d k j=Yg (ZK d.msgs) m.fields f:=by unfold KH;rw [Int.toNat_natCast,hm];simp only [Int.toNat_natCast,hf]
   rw [hV]
   exact HI w m fl mr _ _ j f hMp hF hf ((hs.full hck m (List.mem_of_getElem? hm)).ok f (List.mem_of_getElem? hf)) (e.obj o5)
 rintro _ w1 ⟨rfl,e1⟩
 have x6:=e1.obj o6
 have E1:=e0.trans e1
 have l6:=(Array.getElem?_eq_some_iff.1 x6).1
 unfold OT
 unfold yy
 by_cases hG:XO d i fld=0
 · rw [if_pos hG]
   simp (disch:=try exact DI) only [↓PR,QR,simprocAttr,(Za x6).1,(Za x6).2]
   exact ⟨by first | trivial | rfl,ee⟩
 · rw [if_neg hG]
   simp (disch:=try exact DI) only [↓PR,QR,simprocAttr,(Za x6).1,(Za x6).2]
   exact ⟨by first | trivial | rfl,ee⟩
end
def pkR (e:Int) (r:Int×Int):Int×Int:=if e=0 then r else (0,0)
theorem Do (e:Int) (r:Int×Int):yy e r = .tuple #[Zv (pkR e r).1 (pkR e r).2,.int .i64 e]:=by
 unfold yy pkR
 by_cases h:e=0
 · rw [if_pos h,if_pos h,h]
 · rw [if_neg h,if_neg h]
section
variable {w0:Wd} {d:YQ}
theorem R8 (w0:Wd) (m:ZC) (fl:Vl) (mr:Nat) (sp:List (BAr×Int×Int)) (p5 j:Nat) (hM:Yr w0 mr (RP sp)) (hF:Yq w0 fl m.fields) (hj:j≤m.fields.length) (hl:m.fields.length≤1048576) (ok:OkM sp m.fields) (h5:w0.heap[p5]?=some (.cells #[.int .i64 (j:Int)] 3 (0,0))):Ret Pg 128 #[.agg (ZZ m fl mr).toArray,.pointer (some ⟨p5,0,none⟩)] w0 λ r w'=>r=Zv (YC sp m.fields j).1 (YC sp m.fields j).2∧Ext w0 w':=by
 have hf1:=Zd.oneCell hF
 have l5:=(Array.getElem?_eq_some_iff.1 h5).1
 refine ZeT (R:=ZO _) ?_;unfold ZeS
 simp (disch:=try exact DI) only [↓PR,QR,simprocAttr]
 generalize hW:World.alloc (World.alloc w0 _) _=W
 have e0:Ext w0 W:=by rw [← hW];exact ee
 have o3:W.heap[w0.heap.size+1]?=some (.cells #[.int .i64 0,.int .i64 0] 74 (0,0)):=by rw [← hW];simp (disch:=try exact DI) only [↓PR,QR,simprocAttr]
 clear hW
 have x5:=e0.obj h5
 simp (disch:=try exact DI) only [↓PR,QR,simprocAttr,(Za x5).1,(Za h5).1]
 refine zcr (Lc _ m fl mr sp (hM.ext e0) (hF.ext e0) ok j hj hl) λ w1 e1=>?_
 have E1:=e0.trans e1
 have x3:=e1.obj o3
 have l3:=(Array.getElem?_eq_some_iff.1 x3).1
 simp (disch:=try exact DI) only [↓PR,QR,simprocAttr,(Za x3).1,(Za x3).2]
 exact ⟨by first | trivial | rfl,ee⟩
theorem BL (v:Vl) (i fld:Int) (hd:YT w0 v d) (ht:UJ d) (hs:qu d) (hl:d.msgs.length≤1048576) (hlf:∀ m∈d.msgs,m.fields.length≤1048576):Ret Pg 105 #[v,.int .i64 i,.int .i64 fld] w0 λ r w'=>r=yy (XO d i fld) (FN d i fld)∧Ext w0 w':=by
 obtain ⟨mv,rfl,hM⟩:=hd
 have hm1:=Zd.oneCell hM
 refine ZeR (R:=ZO _) ?_;unfold ZeQ
 simp (disch:=try exact DI) only [↓PR,QR,simprocAttr]
 generalize hW:World.alloc (World.alloc (World.alloc w0 _) _) _=W
 have e0:Ext w0 W:=by rw [← hW];exact ee
 have o5:W.heap[w0.heap.size+1]?=some (.cells #[.int .i64 fld] 3 (0,0)):=by rw [← hW];simp (disch:=try exact DI) only [↓PR,QR,simprocAttr]
 have o6:W.heap[w0.heap.size+1+1]?=some (.cells #[.int .i64 0,.int .i64 0] 74 (0,0)):=by rw [← hW];simp (disch:=try exact DI) only [↓PR,QR,simprocAttr]
 clear hW
 repeat rw [World.size_alloc]
 refine Zs (Dp _ i fld ⟨_,rfl,hM.ext e0⟩ ht hs hl _ _ ZgO (FN d i fld).1 (FN d i fld).2 ?_) ?_
 · intro m hm hG w fl mr e hF hMp
   obtain ⟨hck,k,j,m',f,rfl,rfl,hm',hf⟩:=Cd hG
   rw [Int.toNat_natCast] at hm
   rw [hm] at hm'
   injection hm' with hm'
   subst hm'
   have hV:FN d k j=YC (ZK d.msgs) m.fields j:=by unfold FN;rw [Int.toNat_natCast,hm];simp only [Int.toNat_natCast]
   rw [hV]
   have hj:=(List.getElem?_eq_some_iff.1 hf).1
   exact R8 w m fl mr _ _ j hMp hF (by omega) (hlf m (List.mem_of_getElem? hm)) (hs.full hck m (List.mem_of_getElem? hm)) (e.obj o5)
 rintro _ w1 ⟨rfl,e1⟩
 have x6:=e1.obj o6
 have E1:=e0.trans e1
 have l6:=(Array.getElem?_eq_some_iff.1 x6).1
 unfold O0
 unfold yy
 by_cases hG:XO d i fld=0
 · rw [if_pos hG]
   simp (disch:=try exact DI) only [↓PR,QR,simprocAttr,(Za x6).1,(Za x6).2]
   exact ⟨by first | trivial | rfl,ee⟩
 · rw [if_neg hG]
   simp (disch:=try exact DI) only [↓PR,QR,simprocAttr,(Za x6).1,(Za x6).2]
   exact ⟨by first | trivial | rfl,ee⟩
theorem Oz (w0:Wd) (m:ZC) (fl:Vl) (mr:Nat) (sp:List (BAr×Int×Int)) (hM:Yr w0 mr (RP sp)) (hF:Yq w0 fl m.fields):Ret Pg 100 #[.agg (ZZ m fl mr).toArray] w0 λ r w'=>r=Zv (Z5 sp m.name).1 (Z5 sp m.name).2∧Ext w0 w':=by
 have hf1:=Zd.oneCell hF
 refine ZeP (R:=ZO _) ?_;unfold ZeO
 simp (disch:=try exact DI) only [↓PR,QR,simprocAttr]
 generalize hW:World.alloc (World.alloc w0 _) _=W
 have e0:Ext w0 W:=by rw [← hW];exact ee
 have o3:W.heap[w0.heap.size+1]?=some (.cells #[.int .i64 0,.int .i64 0] 74 (0,0)):=by rw [← hW];simp (disch:=try exact DI) only [↓PR,QR,simprocAttr]
 clear hW
 rw [xf (hM.ext e0)]
 have l3:=(Array.getElem?_eq_some_iff.1 o3).1
 simp (disch:=try exact DI) only [↓PR,QR,simprocAttr,(Za o3).1,(Za o3).2]
 exact ⟨by first | trivial | rfl,ee⟩
theorem Uy (v:Vl) (i:Int) (hd:YT w0 v d) (ht:UJ d) (hs:qu d) (hl:d.msgs.length≤1048576):Ret Pg 71 #[v,.int .i64 i] w0 λ r w'=>r=yy (XO d i 0) (Ue d i)∧Ext w0 w':=by
 obtain ⟨mv,rfl,hM⟩:=hd
 have hm1:=Zd.oneCell hM
 refine ZeN (R:=ZO _) ?_;unfold ZeM
 simp (disch:=try exact DI) only [↓PR,QR,simprocAttr]
 generalize hW:World.alloc (World.alloc w0 _) _=W
 have e0:Ext w0 W:=by rw [← hW];exact ee
 have o6:W.heap[w0.heap.size+1]?=some (.cells #[.int .i64 0,.int .i64 0] 74 (0,0)):=by rw [← hW];simp (disch:=try exact DI) only [↓PR,QR,simprocAttr]
 clear hW
 repeat rw [World.size_alloc]
 refine Zs (Dp _ i 0 ⟨_,rfl,hM.ext e0⟩ ht hs hl _ _ ZgB (Ue d i).1 (Ue d i).2 ?_) ?_
 · intro m hm hG w fl mr e hF hMp
   have hV:Ue d i=Z5 (ZK d.msgs) m.name:=by unfold Ue;rw [hm]
   rw [hV]
   exact Oz w m fl mr _ hMp hF
 rintro _ w1 ⟨rfl,e1⟩
 have x6:=e1.obj o6
 have E1:=e0.trans e1
 have l6:=(Array.getElem?_eq_some_iff.1 x6).1
 unfold OY
 unfold yy
 by_cases hG:XO d i 0=0
 · rw [if_pos hG]
   simp (disch:=try exact DI) only [↓PR,QR,simprocAttr,(Za x6).1,(Za x6).2]
   exact ⟨by first | trivial | rfl,ee⟩
 · rw [if_neg hG]
   simp (disch:=try exact DI) only [↓PR,QR,simprocAttr,(Za x6).1,(Za x6).2]
   exact ⟨by first | trivial | rfl,ee⟩
theorem Hr (v:Vl) (i:Int) (hd:YT w0 v d) (ht:UJ d) (hs:qu d) (hl:d.msgs.length≤1048576):Ret Pg 74 #[v,.int .i64 i] w0 λ r w'=>r = .tuple #[.bool (XO d i 0 == 0&&(Ue d i).1 == (Ue d i).2),.int .i64 (XO d i 0)]∧Ext w0 w':=by
 obtain ⟨mv,rfl,hM⟩:=hd
 have hm1:=Zd.oneCell hM
 refine ZeH (R:=ZO _) ?_;unfold ZeG
 simp (disch:=try exact DI) only [↓PR,QR,simprocAttr]
 generalize hW:World.alloc w0 _=W
 have e0:Ext w0 W:=by rw [← hW];exact ee
 clear hW
 refine zcr (Uy _ i ⟨_,rfl,hM.ext e0⟩ ht hs hl) λ w1 e1=>?_
 have E1:=e0.trans e1
 rw [Do]
 unfold OV
 by_cases hG:XO d i 0=0
 · have d1:(XO d i 0 == 0)=true:=by simpa using hG
   rw [show pkR (XO d i 0) (Ue d i)=Ue d i by unfold pkR;rw [if_pos hG]]
   simp (disch:=try exact DI) only [↓PR,QR,simprocAttr,d1]
   exact ⟨by first | trivial | rfl,ee⟩
 · have d1:(XO d i 0 == 0)=false:=by simpa using hG
   simp (disch:=try exact DI) only [↓PR,QR,simprocAttr,d1]
   exact ⟨by first | trivial | rfl,ee⟩
theorem Er (v:Vl) (i:Int) (hd:YT w0 v d) (ht:UJ d) (hs:qu d) (hl:d.msgs.length≤1048576) (hb:XO d i 0=0→(0≤(Ue d i).1∧(Ue d i).1≤1099511627776)∧0≤(Ue d i).2∧(Ue d i).2≤1099511627776):Ret Pg 73 #[v,.int .i64 i] w0 λ r w'=>r=yy (XO d i 0) (((Ue d i).1+7).tdiv 8,((Ue d i).2+7).tdiv 8)∧Ext w0 w':=by
 obtain ⟨mv,rfl,hM⟩:=hd
 have hm1:=Zd.oneCell hM
 have hp:(0≤(pkR (XO d i 0) (Ue d i)).1∧(pkR (XO d i 0) (Ue d i)).1≤1099511627776)∧0≤(pkR (XO d i 0) (Ue d i)).2∧(pkR (XO d i 0) (Ue d i)).2≤1099511627776:=by
  unfold pkR
  split
  · rename_i h;exact hb h
  · decide
 have hq:pkR (XO d i 0) (((Ue d i).1+7).tdiv 8,((Ue d i).2+7).tdiv 8)=(((pkR (XO d i 0) (Ue d i)).1+7).tdiv 8,((pkR (XO d i 0) (Ue d i)).2+7).tdiv 8):=by unfold pkR;split<;>rfl
 refine ZeJ (R:=ZO _) ?_;unfold ZeI
 simp (disch:=try exact DI) only [↓PR,QR,simprocAttr]
 generalize hW:World.alloc (World.alloc w0 _) _=W
 have e0:Ext w0 W:=by rw [← hW];exact ee
 have o4:W.heap[w0.heap.size+1]?=some (.cells #[.int .i64 0,.int .i64 0] 74 (0,0)):=by rw [← hW];simp (disch:=try exact DI) only [↓PR,QR,simprocAttr]
 clear hW
 refine zcr (Uy _ i ⟨_,rfl,hM.ext e0⟩ ht hs hl) λ w1 e1=>?_
 have E1:=e0.trans e1
 rw [Do,Do,hq]
 generalize pkR (XO d i 0) (Ue d i)=q at hp ⊢
 generalize XO d i 0=e
 obtain ⟨a,b⟩:=q
 dsimp only at hp ⊢
 have x4:=e1.obj o4
 unfold OX
 simp (disch:=try exact DI) only [↓PR,QR,simprocAttr]
 generalize hV:World.alloc w1 _=V
 have eV:Ext w1 V:=by rw [← hV];exact ee
 have oV:V.heap[w1.heap.size]?=some (.cells #[.int .i64 a,.int .i64 b] 74 (0,0)):=by rw [← hV];exact ZG _ _ _
 clear hV
 have z4:=eV.obj x4
 have l4:=(Array.getElem?_eq_some_iff.1 z4).1
 have E2:=E1.trans eV
 refine Zy ?_
 have eD:Ext V V.drew:=(Ext.refl _).wdrew
 simp (disch:=try exact DI) only [↓PR,QR,simprocAttr,(Za oV).1]
 refine zcr (Ul _ 8) λ w2 e2=>?_
 refine ⟨e2,?_⟩
 unfold OW
 refine zcr (Kn _ a b 8 8 _ _ _ ZgC (λ w _=>Fh w a hp.1) (λ w _=>Fh w b hp.2)) λ w3 e3=>?_
 refine ⟨e2.trans e3,?_⟩
 have E3:=((E2.trans eD).trans e2).trans e3
 have y4:=e3.obj (e2.obj (eD.obj z4))
 have l44:=(Array.getElem?_eq_some_iff.1 y4).1
 simp (disch:=try exact DI) only [↓PR,QR,simprocAttr,(Za y4).1,(Za y4).2]
 refine Yb ?_
 simp (disch:=try exact DI) only [↓PR,QR,simprocAttr,(Za y4).1,(Za y4).2]
 exact ⟨by first | trivial | rfl,ee⟩
end
theorem I1 (l:List ZC) {k:Nat} (hk:k≤l.length):(ZK l).take k=ZK (l.take k):=by
 have key:∀ n,k+n≤l.length→(ZK (l.take (k+n))).take k=ZK (l.take k):=by
  intro n
  induction n with
  | zero=>
   intro _
   rw [Nat.add_zero,List.take_of_length_le]
   rw [Wr,List.length_take];omega
  | succ n ih=>
   intro h
   obtain ⟨m,hm⟩:=getElem?_lt (l:=l) (k:=k+n) (by omega)
   rw [← Nat.add_assoc,Vd hm,CW,List.take_append_of_le_length (by rw [Wr,List.length_take];omega)]
   exact ih (by omega)
 have:=key (l.length - k) (by omega)
 rwa [show k+(l.length - k)=l.length by omega,List.take_length] at this
theorem Tk {l:List ZC} (hN:Je l) {k:Nat} {s:BAr} {q:Int×Int} (h:(ZK l)[k]?=some (s,q)):Z5 (ZK l) s=q:=by
 have Xl:=Wr l
 have hk:=(List.getElem?_eq_some_iff.1 h).1
 have nm:∀ (j:Nat) (q:Int×Int),(ZK l)[j]?=some (s,q)→∃ m,l[j]?=some m∧m.name=s:=by
  intro j q hj
  have:=congrArg (λ x=>x[j]?) (Fe l)
  simp only [List.getElem?_map,hj,Option.map_some] at this
  cases hm:l[j]? with
  | none=>rw [hm] at this;simp at this
  | some m=>rw [hm] at this;simp at this;exact ⟨m,rfl,this.symm⟩
 obtain ⟨m,hm,hn⟩:=nm k q h
 rcases VQ (Fe l) hN s with ⟨_,h2⟩ | ⟨j,b,h1,h2,h3,h4⟩
 · exact absurd rfl (KN.1 h2 _ (List.mem_of_getElem? h))
 · obtain ⟨m',hm',hn'⟩:=nm j b h3
   have hjk:j=k:=by
    rcases Nat.lt_trichotomy j k with hl | hl | hl
    · obtain ⟨h5,h6⟩:=List.getElem?_eq_some_iff.1 hm
      obtain ⟨h7,h8⟩:=List.getElem?_eq_some_iff.1 hm'
      exact absurd (by rw [h8,h6,hn,hn']) (List.pairwise_iff_getElem.1 hN j k h7 h5 hl)
    · exact hl
    · obtain ⟨h5,h6⟩:=List.getElem?_eq_some_iff.1 hm
      obtain ⟨h7,h8⟩:=List.getElem?_eq_some_iff.1 hm'
      exact absurd (by rw [h8,h6,hn,hn']) (List.pairwise_iff_getElem.1 hN k j h5 h7 hl)
   subst hjk
   rw [h] at h3
   injection h3 with h3
   injection h3 with _ h3
   unfold Z5
   rw [show Ym (ZK l) s=some b from h4,h3]
   rfl
theorem Mj {l:List ZC} {k:Nat} {m:ZC} (hm:l[k]?=some m):(ZK l)[k]?=some (m.name,YC (ZK (l.take k)) m.fields m.fields.length):=by
 have hk:=(List.getElem?_eq_some_iff.1 hm).1
 have h1:(ZK (l.take (k+1)))[k]?=some (m.name,YC (ZK (l.take k)) m.fields m.fields.length):=by
  rw [Vd hm,CW,List.getElem?_append_right (by rw [Wr,List.length_take];omega),Wr,List.length_take,Nat.min_eq_left (by omega),Nat.sub_self]
  rfl
 rw [← I1 l (by omega),List.getElem?_take,if_pos (by omega)] at h1
 exact h1
def WQ (lo hi:Nat) (W w:Wd):Prop:=W.heap.size≤w.heap.size∧∀ b,lo≤b→b < hi→w.heap[b]?=W.heap[b]?
theorem WQ.ext {lo hi:Nat} {W w w':Wd} (h:WQ lo hi W w) (hh:hi≤W.heap.size) (e:Ext w w'):WQ lo hi W w':=⟨Nat.le_trans h.1 e.size,λ b h1 h2=>(e.block b (by have:=h.1;omega)).trans (h.2 b h1 h2)⟩
theorem WQ.cell {lo hi:Nat} {W w:Wd} (h:WQ lo hi W w) {b o:Nat} {v:Vl} (h1:lo≤b) (h2:b < hi) (hc:W.cell? ⟨b,o,none⟩=some v):w.cell? ⟨b,o,none⟩=some v:=(World.cell?_of_block (h.2 b h1 h2)).trans hc
theorem D5 {lo hi:Nat} {W:Wd} [Xg (WQ lo hi W)] {T n m:Nat} {z v:Vl} (ht:ZH Pg T false n m z) {b o:Nat} (h1:lo≤b) (h2:b < hi) (hc:W.cell? ⟨b,o,none⟩=some v) (K:Vl→Prop):qV Pg (WQ lo hi W) (loadAt T (.pointer (some ⟨b,o,none⟩))) K=K v:=
 VA λ w' hw=>Xa λ QP k=>Wi (Z6.load1 (w:=w') (b:=b) (o:=o) (v:=v) (λ j u hu=>by
  cases j with
  | zero=>injection hu with hu;subst hu;exact hw.cell h1 h2 hc
  | succ j=>cases hu) ht)
structure ZbJ (W:Wd) (lo p3 p5:Nat) (d:YQ) (L:List Int):Prop where
 list:∃ lv,W.cell? ⟨p3,0,none⟩=some lv∧Vj W lo lv L
 h3:lo≤p3∧p3 < W.heap.size
 h5:lo≤p5∧p5 < W.heap.size
 plan:L≠[]→∃ (mr gp cap:Nat),lo≤mr∧Yr W mr (RP (ZK d.msgs))∧W.cell? ⟨p5,0,none⟩=some (.slice (some ⟨gp,0,none⟩) d.msgs.length cap)∧lo≤gp∧gp < W.heap.size∧∀ (k:Nat) (m:ZC),d.msgs[k]?=some m→∃ fv,Z6 W gp (k*3) [.string m.name,fv,.map (some mr)]
 low:∀ x∈L,∃ i:Nat,x=i∧i < d.msgs.length
def WT (d:YQ) (x:Int):Int×Int:=match d.msgs[x.toNat]? with
 | some m=>Z5 (ZK d.msgs) m.name
 | none=>(0,0)
def CV (d:YQ) (L:List Int) (k:Nat):Vl:=match L[k]? with
 | some x=>Zv (WT d x).1 (WT d x).2
 | none=>undef
def Ck (L:List Int) (k:Nat):Vl:=match L[k]? with
 | some n => .int .i64 n
 | none=>undef
theorem Yr.same {W w:Wd} {mr:Nat} {ps:List (BAr×Vl)} (h:Yr W mr ps) (hs:w.heap[mr]?=W.heap[mr]?):Yr w mr ps:=Xn.of_obj h hs
theorem Mu {W:Wd} {lo p3 p5:Nat} {d:YQ} {L:List Int} (hI:ZbJ W lo p3 p5 d L) (hl:L.length≤1000):NN Pg 79 #[.pointer (some ⟨p3,0,none⟩),.pointer (some ⟨p5,0,none⟩)] L.length (Ck L) (CV d L) (WQ lo W.heap.size W):=by
 intro yv J Jx Jp w hy hFP hFX hJl hJx hJp QZ h0
 obtain ⟨lv,hlv,hR⟩:=hI.list
 have hlo:=hI.h3
 have hRl:∀ b,lv.ownBlock=some b→lo≤b∧b < W.heap.size:=λ b h=>hR.lt b h
 obtain ⟨A,c,rfl,hlc,hcm,hlm,Y3⟩:=Zd.open hR.ints
 have f0:=hFP 0 w h0
 have a3:=f0.cell hI.h3.1 hI.h3.2 hlv
 refine ZeX (t0:=yv) (t1 := .pointer (some ⟨p3,0,none⟩)) (t2 := .pointer (some ⟨p5,0,none⟩)) ?_
 unfold ZeW
 simp (disch:=try exact DI) only [↓PR,QR,simprocAttr,a3]
 refine ZF (λ i w'=>∃ k:Nat,i = .int .i64 k∧k≤L.length∧J k w') (λ i _=>L.length - (intOf i).toNat) ⟨0,rfl,by omega,h0⟩ ?_
 rintro _ w1 ⟨k,rfl,hk,hJ⟩
 have hwk:IntKind.i64.wrap ((k:Int)+1)=(k:Int)+1:=Z0 (by omega) (by omega)
 unfold O3
 rcases ZD hk with ⟨x,hx,_,Yv,ZJ⟩ | ⟨hke,_,ZJ⟩
 · have f1:=hFP k w1 hJ
   obtain ⟨i,rfl,hil⟩:=hI.low x (List.mem_of_getElem? hx)
   obtain ⟨mr,gp,cap,hmr,hMap,hc5,hgp,hgpl,hpe⟩:=hI.plan (by rintro rfl;simp at Yv)
   obtain ⟨b,o,cs,rfl,_,hA,rfl⟩:=Y3 k _ hx
   have hb:=hRl b rfl
   have ax:w1.cell? ⟨b,o+k,none⟩=some (.int .i64 (i:Int)):=by
    have:=f1.cell hb.1 hb.2 (hA 0 _ rfl)
    simpa using this
   obtain ⟨m,hm⟩:=getElem?_lt hil
   obtain ⟨fv,hE⟩:=hpe i m hm
   have hmrl:=hMap.lt
   have a5:=f1.cell hI.h5.1 hI.h5.2 hc5
   have e0:w1.cell? ⟨gp,i*3,none⟩=some (.string m.name):=f1.cell hgp hgpl (hE 0 _ rfl)
   have e2:w1.cell? ⟨gp,i*3+2,none⟩=some (.map (some mr)):=f1.cell hgp hgpl (hE 2 _ rfl)
   have eD:Ext w1 w1.drew:=(Ext.refl w1).wdrew
   haveI:Xg (WQ lo W.heap.size W):=⟨⟨w1,f1⟩⟩
   have q5:=λ K=>D5 (lo:=lo) (hi:=W.heap.size) Sy hI.h5.1 hI.h5.2 hc5 K
   have qm:=λ K=>D5 (lo:=lo) (hi:=W.heap.size) (T:=122) jr hgp hgpl (hE 2 _ rfl) K
   have qs:=λ K=>D5 (lo:=lo) (hi:=W.heap.size) (o:=i*3) ty9 hgp hgpl (show W.cell? ⟨gp,i*3,none⟩=some (.string m.name) from hE 0 _ rfl) K
   have ql:=λ K:Vl→Prop=>VA (P:=Pg) (C:=WQ lo W.heap.size W) (k:=K) λ w' hw=>Xa λ QP k=>QC underlying122 underlying9 UY (Yr.same hMap (hw.2 mr hmr hmrl)) m.name
   simp (disch:=try exact DI) only [↓PR,QR,simprocAttr,ZJ,ax,Nat.mul_one]
   refine ⟨WQ lo W.heap.size W,f1.ext (Nat.le_refl _) eD,?_⟩
   unfold O2
   simp (disch:=try exact DI) only [↓PR,QR,simprocAttr,↓q5,↓qm,↓qs,↓ql]
   have hsp:(Yz (RP (ZK d.msgs)) m.name).getD (Value.agg #[Value.int IntKind.i64 0,Value.int IntKind.i64 0])=CV d L k:=by
    unfold CV WT Z5
    rw [hx,Qg]
    simp only [Int.toNat_natCast,hm]
    cases Ym (ZK d.msgs) m.name with
    | none=>rfl
    | some q=>rfl
   have hxx:Ck L k = .int .i64 (i:Int):=by unfold Ck;rw [hx]
   rw [hsp,← hxx]
   refine UI (QZ k Yv (λ _=>True) Jv.true _ ((hJl k).ext hJ eD) trivial) (λ ch w h=>h.2) ?_
   rintro v w3 ⟨_,⟨rfl,h2⟩ | ⟨rfl,h2⟩⟩
   · unfold HY
     refine ⟨hFP _ _ h2,?_⟩
     simp (disch:=try exact DI) only [↓PR,QR,simprocAttr,hwk]
     exact ⟨⟨k+1,rfl,by omega,h2⟩,ZM (kd := .i64) Yv⟩
   · unfold HY
     refine ⟨hFX _ h2,?_⟩
     simp (disch:=try exact DI) only [↓PR,QR,simprocAttr]
     exact .inr h2
 · subst hke
   simp (disch:=try exact DI) only [↓PR,QR,simprocAttr,ZJ]
   exact .inl hJ
theorem Mt (w0:Wd) (v:Vl) (d:YQ) (hd:YT w0 v d) (ht:UJ d) (hl:d.msgs.length≤1000):Ret Pg 35 #[v] w0 λ r w'=>(∃ p3 p5,r = .func (.func 79) #[] #[.pointer (some ⟨p3,0,none⟩),.pointer (some ⟨p5,0,none⟩)]∧ZbJ w' w0.heap.size p3 p5 d (Wu d true))∧Ext w0 w':=by
 obtain ⟨mv,rfl,hM⟩:=hd
 have hm1:=Zd.oneCell hM
 refine ZeV (R:=ZO _) ?_;unfold ZeU
 rw [Wh]
 have o1:=ZG w0 (Zz d mv).toArray 28
 have eW:Ext w0 (w0.alloc (.cells (Zz d mv).toArray 28)):=ee
 generalize (w0.alloc (.cells (Zz d mv).toArray 28))=W at o1 eW ⊢
 generalize hp1:w0.heap.size=p1 at o1 ⊢
 simp (disch:=try exact DI) only [↓PR,QR,simprocAttr,(Za o1).1]
 refine Zs (Ms _ _ d ⟨_,rfl,hM.ext eW⟩ ht) ?_
 rintro _ w1 ⟨⟨u1,rfl,hU1⟩,e1⟩
 have hu1:=Zd.oneCell hU1.ints
 have E1:=eW.trans e1
 have sW:=eW.size
 have s1:=e1.size
 unfold O1
 by_cases hc:(YA d).2.2=0
 case neg=>
  rw [show MM d=2 from if_neg hc]
  rw [show Wu d true=[] from if_neg hc] at hU1 ⊢
  simp (disch:=try exact DI) only [↓PR,QR,simprocAttr]
  have eX:Ext w1 ((w1.alloc (.cells #[u1] 30)).alloc (.cells #[.slice none 0 0] 119)):=ee
  have oX:((w1.alloc (.cells #[u1] 30)).alloc (.cells #[.slice none 0 0] 119)).heap[w1.heap.size]?=some (.cells #[u1] 30 (0,0)):=by simp (disch:=try exact DI) only [↓PR,QR,simprocAttr]
  have sX:((w1.alloc (.cells #[u1] 30)).alloc (.cells #[.slice none 0 0] 119)).heap.size=w1.heap.size+1+1:=by simp only [World.size_alloc]
  generalize ((w1.alloc (.cells #[u1] 30)).alloc (.cells #[.slice none 0 0] 119))=X at eX oX sX ⊢
  exact ⟨⟨_,_,rfl,⟨⟨u1,by rw [(Za oX).1];rfl,(hU1.ext eX).base (by omega)⟩,by omega,by omega,λ h=>absurd rfl h,λ x hx=>by cases hx⟩⟩,E1.trans eX⟩
 rw [show MM d=0 from if_pos hc]
 have hca:∀ O o,(w1.alloc O).cell? ⟨p1,o,none⟩=(Zz d mv).toArray[o]?:=λ O o=>(Za ((Ext.alloc (Ext.refl w1) O).obj (e1.obj o1))).1 o
 have hcb:∀ O O' o,((w1.alloc O).alloc O').cell? ⟨p1,o,none⟩=(Zz d mv).toArray[o]?:=λ O O' o=>(Za ((Ext.alloc (Ext.alloc (Ext.refl w1) O) O').obj (e1.obj o1))).1 o
 obtain ⟨css,hraw,hmates⟩:=Zd.raw hM
 simp (disch:=try exact DI) only [↓PR,QR,simprocAttr,(Za (e1.obj o1)).1,hca,hcb,Zt hu1]
 have eX:Ext w1 ((w1.alloc (.cells #[u1] 30)).alloc (.cells #[.slice none 0 0] 119)):=ee
 have oX:((w1.alloc (.cells #[u1] 30)).alloc (.cells #[.slice none 0 0] 119)).heap[w1.heap.size]?=some (.cells #[u1] 30 (0,0)):=by simp (disch:=try exact DI) only [↓PR,QR,simprocAttr]
 have oP:((w1.alloc (.cells #[u1] 30)).alloc (.cells #[.slice none 0 0] 119)).heap[w1.heap.size+1]?=some (.cells #[.slice none 0 0] 119 (0,0)):=by simp (disch:=try exact DI) only [↓PR,QR,simprocAttr]
 have sX:((w1.alloc (.cells #[u1] 30)).alloc (.cells #[.slice none 0 0] 119)).heap.size=w1.heap.size+1+1:=by simp only [World.size_alloc]
 generalize ((w1.alloc (.cells #[u1] 30)).alloc (.cells #[.slice none 0 0] 119))=X at eX oX oP sX ⊢
 simp only [World.size_alloc,World.size_setCell]
 have EX:=E1.trans eX
 have hcl:css.length=d.msgs.length:=hmates.1
 refine Zs (CM _ _ d mv css rfl (Zd.ext KK hraw EX) (hmates.imp λ cs m h=>Ds _ _ _ _ EX h) ((xg d ht).each hc) (by omega)) ?_
 rintro pv w2 ⟨mr,hO,hmr,hMap,e2⟩
 have hlen1:1≤d.msgs.length:=(XI hc).2.1.1
 have xP:=e2.obj oP
 have s2:=e2.size
 obtain ⟨gp,cap,rfl,hgp,hgpl,hTP,hfP,hElP⟩:=hO.row (D4 mr) (by omega)
 rw [hcl]
 rw [hcl] at hO
 obtain ⟨p3,hp3⟩:∃ p,p=w1.heap.size:=⟨_,rfl⟩
 have oX:=e2.obj oX
 rw [← hp3] at oX xP sX ⊢
 have ho:=YY.setCell w2 (p3+1) 0 (.slice (some ⟨gp,0,none⟩) d.msgs.length cap)
 have eF:Ext w0 (w2.setCell ⟨p3+1,0,none⟩ (.slice (some ⟨gp,0,none⟩) d.msgs.length cap)):=(EX.trans e2).setCell (p:=⟨p3+1,0,none⟩) (by show w0.heap.size≤p3+1;omega) _
 have hUF:Vj (w2.setCell ⟨p3+1,0,none⟩ (.slice (some ⟨gp,0,none⟩) d.msgs.length cap)) W.heap.size u1 (Wu d true):=(UH.only (hi:=p3) ⟨hU1.ext (eX.trans e2),λ b hb=>by have:=(hU1.lt b hb).2;omega⟩ ho (.inl (by omega))).1
 have zP:(w2.setCell ⟨p3+1,0,none⟩ (.slice (some ⟨gp,0,none⟩) d.msgs.length cap)).heap[p3+1]?=some (.cells #[.slice (some ⟨gp,0,none⟩) d.msgs.length cap] 119 (0,0)):=by simpa using ZE (o:=0) xP (.slice (some ⟨gp,0,none⟩) d.msgs.length cap)
 have z3:=(ho p3 (by omega)).trans oX
 have sF:(w2.setCell ⟨p3+1,0,none⟩ (.slice (some ⟨gp,0,none⟩) d.msgs.length cap)).heap.size=w2.heap.size:=World.size_setCell _ _ _
 have hMF:Yr (w2.setCell ⟨p3+1,0,none⟩ (.slice (some ⟨gp,0,none⟩) d.msgs.length cap)) mr (RP (ZK d.msgs)):=hMap.setCell _ _
 simp (disch:=try exact DI) only [↓PR,QR,simprocAttr,(Za xP).1,(Za xP).2]
 generalize (w2.setCell ⟨p3+1,0,none⟩ (.slice (some ⟨gp,0,none⟩) d.msgs.length cap))=F at *
 refine ⟨⟨p3,p3+1,rfl,⟨⟨u1,by rw [(Za z3).1];rfl,hUF.base (by omega)⟩,by omega,by omega,λ _=>⟨mr,gp,cap,by omega,hMF,by rw [(Za zP).1];rfl,by omega,by omega,λ k m hm=>?_⟩,λ x hx=>?_⟩⟩,eF⟩
 · obtain ⟨ck,hck⟩:=getElem?_lt (l:=css) (k:=k) (by rw [hcl];exact (List.getElem?_eq_some_iff.1 hm).1)
   obtain ⟨fv,he,_⟩:=hmates.2 k m ck hm hck
   refine ⟨fv,λ j u hu=>?_⟩
   have hj:=hElP k ck hck j u (by show (ck.1++[Value.map (some mr)])[j]?=some u;rw [he];exact hu)
   exact (World.cell?_of_block (ho gp (by omega))).trans hj
 · rw [show Wu d true=_ from if_pos hc] at hx
   obtain ⟨i,h1,_,h3⟩:=jG.1 hx
   exact ⟨i,h3,h1⟩
end Go.Proofs.YtfjjgjjlebllmaaGreat
namespace Go.Sw
open Go.ChangeShapes Go.WideShapes Go.RowKit Go.ChangeAt Go.Deep
theorem Lm {α:Type} {p:Nat→α→Prop}:∀ (n:Nat),(∀ i,i < n→∃ x,p i x)→∃ l:List α,l.length=n∧∀ k x,l[k]?=some x→p k x
 | 0,_=>⟨[],rfl,λ k x h=>by simp at h⟩
 | n+1,h=>by
  obtain ⟨l,hl,hp⟩:=Lm n (λ i hi=>h i (by omega))
  obtain ⟨x,hx⟩:=h n (by omega)
  refine ⟨l++[x],by simp [hl],λ k y hy=>?_⟩
  rw [List.getElem?_append] at hy
  split at hy
  · exact hp k y hy
  · have hk:k=n:=by
     have:=(List.getElem?_eq_some_iff.1 hy).1
     simp at this
     omega
    subst hk
    simp [hl] at hy
    subst hy
    exact hx
section
variable {H:Type} {enc:TypeId×Vl→H} {P:Program} {w:Wd} {base:Nat} {spare:Nat→Bool} {held:Bool}
theorem Gj {e:TypeId} {m:Nat} {d:DataW H}:∀ {l:List (DataW H)},d∈l→m∈d.weights P e→m∈DataW.weightsAll P e l
 | [],h,_=>by cases h
 | a::l,h,hm=>by
  rw [DataW.weightsAll,List.mem_append]
  rcases List.mem_cons.1 h with rfl | h
  · exact .inl hm
  · exact .inr (Gj h hm)
def Ws (P:Program) (t:TypeId) (d:DataW H):Prop:=∀ m∈d.weights P t,m≤reachBytes
theorem IK {ts:List TypeId} {ds:List (DataW H)} (h:(DataW.weightsEach P ts ds).all (· ≤ reachBytes)=true) {j:Nat} {t:TypeId} {d:DataW H} (ht:ts[j]?=some t) (hd:ds[j]?=some d):Ws P t d:=λ m hm=>by
 have:=List.all_eq_true.1 h _ (DataW.weights_mem_each ht hd m hm)
 simpa using this
theorem V6 {α:Type} {E:Wd→List Vl→α→Prop} {Q:α→Prop} {t e:TypeId} {n fuel:Nat} {cs:List Vl} {x:DataW H×List MemPlace} (ht:P.underlying t=some (.slice e)) (hn:P.cellsOf e=n) (hb1:1≤P.bytesOf e) (h0:0 < n)
 (hE:∀ m cs' y,DataW.trod enc P w base spare held m e cs'=some y→Ws P e y.1→∃ x,E w cs' x∧Q x) (h:DataW.trod enc P w base spare held fuel t cs=some x) (hr:Ws P t x.1):∃ v l,cs=[v]∧Zd w n E v l∧(∀ x∈l,Q x)∧l.length≤140737488355328:=by
 rcases open_slice ht h with ⟨rfl,_⟩ | ⟨a,len,cap,m,k,D,Pl,rfl,hb,hl,hm,hmm,hx,Y3⟩
 · exact ⟨_,[],rfl,Zd.nil _ _ _,λ x hx=>by (cases hx),Nat.zero_le _⟩
 · have hlm:len≤m:=by rw [hmm];split<;>omega
   subst hx
   have hw0:=hr ((len+(m - len))*P.bytesOf e) (by simp only [DataW.weights,ht];simp)
   have Xl:len≤140737488355328:=by
    have:len*1≤(len+(m - len))*P.bytesOf e:=Nat.mul_le_mul (by omega) hb1
    simp only [reachBytes] at hw0
    omega
   have hD:∀ i,i < len→Ws P e (D i):=λ i hi q hq=>hr q (by
    simp only [DataW.weights,ht,List.mem_cons,List.mem_append]
    exact .inr (.inl (Gj (List.mem_map.2 ⟨i,List.mem_range.2 hi,rfl⟩) hq)))
   obtain ⟨l,hll,hp⟩:=Lm (p:=λ i (x:α)=>∃ cs',w.cells? base (a.add (i*n)) n=some cs'∧E w cs' x∧Q x) len (λ i hi=>by
    obtain ⟨cs',h1,h2⟩:=Y3 i (by omega)
    rw [hn] at h1
    obtain ⟨x,hx⟩:=hE _ _ _ h2 (hD i hi)
    exact ⟨x,cs',h1,hx⟩)
   refine ⟨_,l,rfl,⟨some a,cap,by rw [hll],by rw [hll];exact hl,by simp only [maxLen] at hm;omega,λ Xv=>?_⟩,λ x hx=>?_,by omega⟩
   · obtain ⟨b,o,spot⟩:=a
     have hspot:spot=none:=by
      have:0 < l.length:=List.length_pos_iff.2 Xv
      obtain ⟨y,hy⟩:=getElem?_lt this
      obtain ⟨cs',h1,_⟩:=hp 0 y hy
      obtain ⟨_,h2,h3⟩:=World.cells?_some h1
      have h4:=h3 0 h0
      rw [List.getElem?_eq_getElem (by omega)] at h4
      simpa [Addr.add] using World.cell?_spot h4
     subst hspot
     refine ⟨b,o,rfl,λ k x hx=>?_⟩
     obtain ⟨cs',h1,h2,_⟩:=hp k x hx
     obtain ⟨_,h3,h4⟩:=World.cells?_some h1
     refine ⟨cs',h3,λ j v hv=>?_,h2⟩
     have h5:=h4 j (by have:=(List.getElem?_eq_some_iff.1 hv).1;omega)
     rw [hv] at h5
     simpa [Addr.add_lit] using h5
   · obtain ⟨k,hk⟩:=List.getElem?_of_mem hx
     obtain ⟨_,_,_,hq⟩:=hp k x hk
     exact hq
theorem QA {fs:Array Field} {t:TypeId} {n fuel:Nat} {cs:List Vl} {x:DataW H×List MemPlace} (ht:P.underlying t=some (.struct fs)) (hn:P.cellsOf t=n) (h:DataW.trod enc P w base spare held fuel t cs=some x) (hr:Ws P t x.1) :
 cs.length=n∧∃ m,∀ (i:Nat) (ty off k:Nat),(fs[i]?).map (λ f=>(f.type,f.offset))=some (ty,off)→P.cellsOf ty=k→∃ y,DataW.trod enc P w base spare held m ty ((cs.drop off).take k)=some y∧Ws P ty y.1:=by
 obtain ⟨xs,m,_,rfl,hl,Xl,hf⟩:=DataW.trod_struct ht h
 refine ⟨hl.trans hn,m,λ i ty off k hi hk=>?_⟩
 obtain ⟨f,hfi,he⟩:=Option.map_eq_some_iff.1 hi
 injection he with h1 h2
 subst h1 h2 hk
 have hil:i < xs.length:=by rw [Xl];exact (Array.getElem?_eq_some_iff.1 hfi).1
 refine ⟨xs[i],(hf i f hfi).trans (List.getElem?_eq_getElem hil),λ q hq=>hr q ?_⟩
 simp only [DataW.weights,ht]
 refine DataW.weights_mem_each (j:=i) (t:=f.type) (d:=xs[i].1) ?_ ?_ q hq
 · rw [List.getElem?_map,Array.getElem?_toList,hfi];rfl
 · rw [List.getElem?_map,List.getElem?_eq_getElem hil];rfl
theorem GV (hl:laidOutB P=true) {W W':Wd} (he:Ext W W'):∀ {ts:List TypeId} {vs:List Vl} {ds:List (DataW H)} {ps:List MemPlace},(∀ t∈ts,P.readableRec t=true∧t < P.types.size)→(∀ x∈ps,x.block < W.heap.size) →
 DataW.TrodAll enc P W 0 (λ _=>true) true ts vs ds ps→DataW.TrodAll enc P W' 0 (λ b=>decide (b < W.heap.size)) true ts vs ds ps
 | [],_,_,_,_,_,h=>by obtain ⟨rfl,rfl,rfl⟩:=trodAll_nil h;exact trodAll_mk0
 | t::ts,_,_,_,hr,Yv,h=>by
  obtain ⟨v,vs1,d,ds1,a,b,rfl,rfl,rfl,h1,h2⟩:=trodAll_cons h
  refine ⟨a,b,?_,GV hl he (λ t ht=>hr t (List.mem_cons_of_mem _ ht)) (λ x hx=>Yv x (List.mem_append_right _ hx)) h2,rfl⟩
  exact Below.trod hl (hr t (List.mem_cons_self ..)).1 (hr t (List.mem_cons_self ..)).2 h1 ⟨he.os,he.tape,he.output,he.size,he.block⟩ (λ x hx=>Yv x (List.mem_append_left _ hx))
theorem Ot {f:Func} {s:ChangeSpec} {W W':Wd} {args:AVl} {ds gs:List (DataW H)} {before:List MemPlace} {tb:TypeId} (hl:laidOutB P=true) (hr:∀ t∈f.params.toList,P.readableRec t=true∧t < P.types.size) (hs:s.vars=[])
 (hW:DataW.Whole enc P f.params.toList s.vars false W args.toList ds gs before) (he:Ext W W') (hres:f.resultTypes = #[tb]) (htb:P.underlying tb=some .bool) (hfn:(s.fn H ds).results=[.lit (.bool true)]) (hargs:(s.fn H ds).args=ds) (hvars:(s.fn H ds).vars=[]) :
 s.post enc P f false true false false W args (.bool true) W':=by
 have hW':=hW
 obtain ⟨p,q,hA,hV,rfl,_,_⟩:=hW
 rw [hs] at hV
 obtain ⟨rfl,rfl⟩:=trodVars_none hV
 have Yv:∀ x∈p,x.block < W.heap.size:=λ x hx=>hW'.lt x (by simpa using hx)
 rw [List.append_nil] at hW'
 refine ⟨ds,[],p,[],p,[],hW',?_,?_,?_,Below.frame ⟨he.os,he.tape,he.output,he.size,he.block⟩ _,λ h=>by cases h⟩
 · rw [List.append_nil,hfn,hres]
   exact trodAll_mk1 (shut_bool htb _)
 · rw [List.append_nil,hargs]
   exact GV hl he hr Yv hA
 · rw [List.append_nil,hvars,hs]
   exact rfl
end
end Go.Sw
namespace Go.Proofs.YtfjjgjjlebllmaaGreat
open Sw
open Go.ChangeShapes Go.WideShapes Go.RowKit Go.ChangeAt Go.Deep
theorem Cc:Pg.cellsOf 62=2:=by kernel_rfl
theorem Ca:Pg.cellsOf 60=3:=by kernel_rfl
theorem Cb:Pg.cellsOf 45=2:=by kernel_rfl
theorem j5:Pg.cellsOf 48=15:=by kernel_rfl
theorem zZ:Pg.cellsOf 24=2:=by kernel_rfl
theorem jx:Pg.cellsOf 28=3:=by kernel_rfl
theorem Qh:Pg.cellsOf 9=1:=by kernel_rfl
theorem Vo:Pg.cellsOf 3=1:=by kernel_rfl
theorem B9:Pg.cellsOf 4=1:=by kernel_rfl
theorem MF:Pg.cellsOf 42=1:=by kernel_rfl
theorem HC:Pg.cellsOf 43=1:=by kernel_rfl
theorem HB:Pg.cellsOf 46=1:=by kernel_rfl
theorem Ez:Pg.cellsOf 22=1:=by kernel_rfl
theorem Mw:1≤Pg.bytesOf 62:=Nat.le_of_ble_eq_true (by kernel_rfl)
theorem Mv:1≤Pg.bytesOf 60:=Nat.le_of_ble_eq_true (by kernel_rfl)
theorem Hz:1≤Pg.bytesOf 48:=Nat.le_of_ble_eq_true (by kernel_rfl)
theorem Df:1≤Pg.bytesOf 24:=Nat.le_of_ble_eq_true (by kernel_rfl)
def CZ (f:Zl):Prop:=f.terms.length≤140737488355328∧f.cases.length≤140737488355328∧∀ c∈f.cases,c.of.size≤140737488355328
def NK (m:ZC):Prop:=m.fields.length≤140737488355328∧∀ f∈m.fields,CZ f
def La (d:YQ):Prop:=d.msgs.length≤140737488355328∧∀ m∈d.msgs,NK m
theorem BQ:Pg.cellsOf 26=1:=by kernel_rfl
section
variable {H:Type} {enc:TypeId×Vl→H} {w:Wd} {base:Nat} {spare:Nat→Bool} {held:Bool}
theorem TL {m:Nat} {cs:List Vl} {y:DataW H×List MemPlace} (h:DataW.trod enc Pg w base spare held m 62 cs=some y) (hr:Ws Pg 62 y.1):∃ x,zN w cs x:=by
 obtain ⟨hl,n,hf⟩:=QA underlying62 Cc h hr
 obtain ⟨y0,h0,r0⟩:=hf 0 9 0 1 rfl Qh
 obtain ⟨y1,h1,r1⟩:=hf 1 3 1 1 rfl Vo
 match cs,hl with
 | [c0,c1],_=>
  obtain ⟨s,e0,_⟩:=DataW.trod_string underlying9 h0
  obtain ⟨k,e1,_⟩:=DataW.trod_int underlying3 h1
  simp at e0 e1
  subst e0 e1
  exact ⟨⟨s,k⟩,rfl⟩
theorem SS {m:Nat} {cs:List Vl} {y:DataW H×List MemPlace} (h:DataW.trod enc Pg w base spare held m 60 cs=some y) (hr:Ws Pg 60 y.1):∃ x,jO w cs x∧x.of.size≤140737488355328:=by
 obtain ⟨hl,n,hf⟩:=QA underlying60 Ca h hr
 obtain ⟨y0,h0,r0⟩:=hf 0 3 0 1 rfl Vo
 obtain ⟨y1,h1,r1⟩:=hf 1 3 1 1 rfl Vo
 obtain ⟨y2,h2,r2⟩:=hf 2 9 2 1 rfl Qh
 match cs,hl with
 | [c0,c1,c2],_=>
  obtain ⟨a,e0,_⟩:=DataW.trod_int underlying3 h0
  obtain ⟨b,e1,_⟩:=DataW.trod_int underlying3 h1
  obtain ⟨s,e2,e3,_⟩:=DataW.trod_string underlying9 h2
  simp at e0 e1 e2
  subst e0 e1 e2
  refine ⟨⟨a,b,s⟩,rfl,?_⟩
  have:=r2 s.data.toList.length (by rw [e3];exact List.mem_singleton.2 rfl)
  simp only [reachBytes] at this
  have h4:s.size=s.data.toList.length:=Array.length_toList.symm
  show s.size≤_
  omega
theorem TK {m:Nat} {cs:List Vl} {y:DataW H×List MemPlace} (h:DataW.trod enc Pg w base spare held m 45 cs=some y) (hr:Ws Pg 45 y.1):∃ b tv ts,cs=[.int .i64 b,tv]∧ZV w tv ts∧ts.length≤140737488355328:=by
 obtain ⟨hl,n,hf⟩:=QA underlying45 Cb h hr
 obtain ⟨y0,h0,r0⟩:=hf 0 3 0 1 rfl Vo
 obtain ⟨y1,h1,r1⟩:=hf 1 43 1 1 rfl HC
 match cs,hl with
 | [c0,c1],_=>
  obtain ⟨a,e0,_⟩:=DataW.trod_int underlying3 h0
  obtain ⟨v,l,e1,hS,_,hL⟩:=V6 (E:=zN) (Q:=λ _=>True) underlying43 Cc Mw (by decide) (λ _ _ _ h hr=>let ⟨x,hx⟩:=TL h hr; ⟨x,hx,trivial⟩) h1 r1
  simp at e0 e1
  subst e0 e1
  exact ⟨a,_,l,rfl,hS,hL⟩
theorem N9 {m:Nat} {cs:List Vl} {y:DataW H×List MemPlace} (h:DataW.trod enc Pg w base spare held m 48 cs=some y) (hr:Ws Pg 48 y.1):∃ x,Up w cs x∧CZ x:=by
 obtain ⟨hl,n,hf⟩:=QA underlying48 j5 h hr
 obtain ⟨y0,h0,r0⟩:=hf 0 9 0 1 rfl Qh
 obtain ⟨y1,h1,r1⟩:=hf 1 42 1 1 rfl MF
 obtain ⟨y2,h2,r2⟩:=hf 2 3 2 1 rfl Vo
 obtain ⟨y3,h3,r3⟩:=hf 3 4 3 1 rfl B9
 obtain ⟨y4,h4,r4⟩:=hf 4 4 4 1 rfl B9
 obtain ⟨y5,h5,r5⟩:=hf 5 3 5 1 rfl Vo
 obtain ⟨y6,h6,r6⟩:=hf 6 3 6 1 rfl Vo
 obtain ⟨y7,h7,r7⟩:=hf 7 45 7 2 rfl Cb
 obtain ⟨y8,h8,r8⟩:=hf 8 9 9 1 rfl Qh
 obtain ⟨y9,h9,r9⟩:=hf 9 9 10 1 rfl Qh
 obtain ⟨y10,h10,r10⟩:=hf 10 9 11 1 rfl Qh
 obtain ⟨y11,h11,r11⟩:=hf 11 46 12 1 rfl HB
 obtain ⟨y12,h12,r12⟩:=hf 12 3 13 1 rfl Vo
 obtain ⟨y13,h13,r13⟩:=hf 13 3 14 1 rfl Vo
 match cs,hl with
 | [c0,c1,c2,c3,c4,c5,c6,c7,c8,c9,c10,c11,c12,c13,c14],_=>
  obtain ⟨x0,e0,_⟩:=DataW.trod_string underlying9 h0
  obtain ⟨x1,e1,_⟩:=DataW.trod_int underlying42 h1
  obtain ⟨x2,e2,_⟩:=DataW.trod_int underlying3 h2
  obtain ⟨x3,e3,_⟩:=DataW.trod_bool underlying4 h3
  obtain ⟨x4,e4,_⟩:=DataW.trod_bool underlying4 h4
  obtain ⟨x5,e5,_⟩:=DataW.trod_int underlying3 h5
  obtain ⟨x6,e6,_⟩:=DataW.trod_int underlying3 h6
  obtain ⟨x7,tv,ts,e7,hT,hTl⟩:=TK h7 r7
  obtain ⟨x9,e9,_⟩:=DataW.trod_string underlying9 h8
  obtain ⟨x10,e10,_⟩:=DataW.trod_string underlying9 h9
  obtain ⟨x11,e11,_⟩:=DataW.trod_string underlying9 h10
  obtain ⟨cv,l,e12,hC,hCq,hCl⟩:=V6 (E:=jO) (Q:=λ c=>c.of.size≤140737488355328) underlying46 Ca Mv (by decide) (λ _ _ _ h hr=>SS h hr) h11 r11
  obtain ⟨x13,e13,_⟩:=DataW.trod_int underlying3 h12
  obtain ⟨x14,e14,_⟩:=DataW.trod_int underlying3 h13
  simp at e0 e1 e2 e3 e4 e5 e6 e7 e9 e10 e11 e12 e13 e14
  obtain ⟨e7,e8⟩:=e7
  subst e0 e1 e2 e3 e4 e5 e6 e7 e8 e9 e10 e11 e12 e13 e14
  exact ⟨⟨x0,x1,x2,x3,x4,x5,x6,x7,ts,x9,x10,x11,l,x13,x14⟩,⟨_,_,rfl,hT,hC⟩,hTl,hCl,hCq⟩
theorem ZbY {m:Nat} {cs:List Vl} {y:DataW H×List MemPlace} (h:DataW.trod enc Pg w base spare held m 24 cs=some y) (hr:Ws Pg 24 y.1):∃ x,GW w cs x∧NK x:=by
 obtain ⟨hl,n,hf⟩:=QA underlying24 zZ h hr
 obtain ⟨y0,h0,r0⟩:=hf 0 9 0 1 rfl Qh
 obtain ⟨y1,h1,r1⟩:=hf 1 22 1 1 rfl Ez
 match cs,hl with
 | [c0,c1],_=>
  obtain ⟨a,e0,_⟩:=DataW.trod_string underlying9 h0
  obtain ⟨v,l,e1,hS,hQ,hL⟩:=V6 (E:=Up) (Q:=CZ) underlying22 j5 Hz (by decide) (λ _ _ _ h hr=>N9 h hr) h1 r1
  simp at e0 e1
  subst e0 e1
  exact ⟨⟨a,l⟩,⟨_,rfl,hS⟩,hL,hQ⟩
theorem ZbR {m:Nat} {cs:List Vl} {y:DataW H×List MemPlace} (h:DataW.trod enc Pg w base spare held m 28 cs=some y) (hr:Ws Pg 28 y.1):∃ d mv,cs=Zz d mv∧Vi w mv d.msgs∧La d:=by
 obtain ⟨hl,n,hf⟩:=QA underlying28 jx h hr
 obtain ⟨y0,h0,r0⟩:=hf 0 9 0 1 rfl Qh
 obtain ⟨y1,h1,r1⟩:=hf 1 26 1 1 rfl BQ
 obtain ⟨y2,h2,r2⟩:=hf 2 9 2 1 rfl Qh
 match cs,hl with
 | [c0,c1,c2],_=>
  obtain ⟨a,e0,_⟩:=DataW.trod_string underlying9 h0
  obtain ⟨v,l,e1,hS,hQ,hL⟩:=V6 (E:=GW) (Q:=NK) underlying26 zZ Df (by decide) (λ _ _ _ h hr=>ZbY h hr) h1 r1
  obtain ⟨b,e2,_⟩:=DataW.trod_string underlying9 h2
  simp at e0 e1 e2
  subst e0 e1 e2
  exact ⟨⟨a,l,b⟩,_,rfl,hS,hL,hQ⟩
theorem S5 {r:Reach} {b0:Nat} {v:Vl} {d:DataW H} {ps:List MemPlace} (hval:Value.okWide Pg w r b0 28 v) (h:DataW.Trod enc Pg w base spare held 28 v d ps) (hr:Ws Pg 28 d):∃ f,YT w v f∧La f:=by
 obtain ⟨cs,rfl,_⟩:=okWide_struct underlying28 hval
 obtain ⟨fuel,hf⟩:=h
 obtain ⟨f,tv,h1,h2,hs⟩:=ZbR hf hr
 exact ⟨f,⟨tv,congrArg Value.agg (by rw [← h1,ZL]),h2⟩,hs⟩
end
end Go.Proofs.YtfjjgjjlebllmaaGreat
namespace Go.Proofs.YtfjjgjjlebllmaaGreat
open Sw
open Go.RowKit (intOf Below)
def xh (l:List ZC):Nat:=(l.map λ m=>m.fields.length).sum
def okF (f:Zl):Prop:=f.cases.length≤50∧f.terms.length≤10
def Ob (d:YQ):Prop:=d.msgs.length≤70∧xh d.msgs≤400∧∀ m∈d.msgs,∀ f∈m.fields,okF f
theorem Nx {l:List ZC} {k:Nat} {x:ZC} (hx:l[k]?=some x):xh (l.take (k+1))=xh (l.take k)+x.fields.length:=by
 rw [Z4 hx];simp [xh]
theorem Du {l:List ZC} {m:ZC} (h:m∈l):m.fields.length≤xh l:=by
 unfold xh
 induction l with
 | nil=>cases h
 | cons a l ih=>
  rcases List.mem_cons.1 h with rfl | h
  · simp
  · have:=ih h;simp at this ⊢;omega
theorem qI {α:Type} {p:α→Prop} {l:List α} {k:Nat} {x:α} (h:∀ y∈l.take k,p y) (hx:l[k]?=some x) (hp:p x):∀ y∈l.take (k+1),p y:=by
 rw [Z4 hx]
 intro y hy
 rcases List.mem_append.1 hy with hy | hy
 · exact h y hy
 · simp only [List.mem_singleton] at hy;subst hy;exact hp
theorem Nb {f:Zl} (h:okF f):(Xx f).length≤50:=by
 unfold Xx
 split
 · simp
 · split
   · simpa using h.1
   · simp
theorem qw:∀ {l:List Zl},(∀ f∈l,okF f)→(Z9 l).length≤l.length*50
 | [],_=>by simp [Z9]
 | f::l,h=>by
  have h1:=Nb (h f (List.mem_cons_self ..))
  have h2:=qw (l:=l) (λ g hg=>h g (List.mem_cons_of_mem _ hg))
  unfold Z9 at *
  rw [List.flatMap_cons,List.length_append,List.length_cons]
  omega
theorem MO {d:YQ} (h:Ob d):UJ d:=λ m hm=>by
 have h1:=Du hm
 have h2:=h.2.1
 have h3:=qw (h.2.2 m hm)
 exact ⟨by omega,λ f hf=>by have:=(h.2.2 m hm f hf).2;omega⟩
theorem MP {d:YQ} (h:Ob d):Zcq d:=⟨by have:=h.1;omega,λ m hm=>⟨by have:=Du hm;have:=h.2.1;omega,λ f hf=>⟨by have:=(h.2.2 m hm f hf).2;omega,by have:=(h.2.2 m hm f hf).1;omega⟩⟩⟩
theorem HJ (w0:Wd) (v:Vl) (d:YQ) (hd:YT w0 v d) (hs:La d):Ret Pg 33 #[v] w0 λ r w'=>∃ b,r = .bool b∧(b=true→Ob d)∧Ext w0 w':=by
 obtain ⟨mv,rfl,hM⟩:=hd
 obtain ⟨A,c,rfl,hlc,hcm,hlm,Y3⟩:=Zd.open hM
 refine n8s (R:=ZO _) ?_;unfold n8
 simp (disch:=try exact DI) only [↓PR,QR,simprocAttr]
 have Xz:=Z6.new (w:=w0) (Zz d (.slice A d.msgs.length c)) (28)
 have eW:Ext w0 (w0.alloc (Obj.cells (List.toArray (Zz d (.slice A d.msgs.length c))) (28))):=(Ext.refl _).alloc _
 generalize (w0.alloc (Obj.cells (List.toArray (Zz d (.slice A d.msgs.length c))) (28)))=W at Xz eW ⊢
 refine Yn (λ a0 a1 w=>∃ (k:Nat) , a0 = .int .i64 (xh (d.msgs.take k):Nat)∧a1 = .int .i64 (k:Int)∧k≤d.msgs.length∧Ext W w∧xh (d.msgs.take k)≤400∧∀ m∈d.msgs.take k,∀ f∈m.fields,okF f) (λ a0 a1 _=>d.msgs.length - (intOf a1).toNat) ⟨0,rfl,rfl,Nat.zero_le _,ee,⟨by simp [xh],by simp⟩⟩ ?_
 rintro _ _ w ⟨k,rfl,rfl,hk,e,hI⟩
 have se:=e.size
 rcases ZD hk with ⟨x,hx,hd,Yv,ZJ⟩ | ⟨hk,hd,ZJ⟩
 · obtain ⟨h400,hok⟩:=hI
   obtain ⟨b,o,cs,rfl,hl,hA,fv,rfl,hF⟩:=Y3 k x hx
   obtain ⟨A2,c2,rfl,hlc2,hcm2,hlm2,hel2⟩:=Zd.open hF
   have hxm:=List.mem_of_getElem? hx
   have hsx:=hs.2 x hxm
   have hx1:=hsx.1
   have e':=eW.trans e
   unfold Zca
   by_cases hk70:k≤70
   · have d1:decide ((k:Int)≤70)=true:=by simp;omega
     simp (disch:=try exact DI) only [↓PR,QR,simprocAttr,Xz.c3,ZJ,d1]
     unfold ZfS
     have hwr:IntKind.i64.wrap ((xh (d.msgs.take k):Int)+(x.fields.length:Int))=((xh (d.msgs.take (k+1)):Nat):Int):=by
      rw [Nx hx,Z0 (by omega) (by omega)];omega
     by_cases hn:xh (d.msgs.take (k+1))≤400
     · have d2:decide (((xh (d.msgs.take (k+1)):Nat):Int) > 400)=false:=by simp;omega
       simp (disch:=try exact DI) only [↓PR,QR,simprocAttr,Xz.c3,(hA.c2 e').1,(hA.c2 e').2,hwr,d2]
       rw [hwr]
       refine ZF (λ a0 wb=>∃ (kb:Nat) , a0 = .int .i64 (kb:Int)∧kb≤x.fields.length∧Ext w wb∧∀ f∈x.fields.take kb,okF f) (λ a0 _=>x.fields.length - (intOf a0).toNat) ⟨0,rfl,Nat.zero_le _,ee,by simp⟩ ?_
       rintro _ wb ⟨kb,rfl,hkb,eb,hIb⟩
       have seb:=eb.size
       rcases ZD hkb with ⟨xb,hxb,hdb,hltb,Ap⟩ | ⟨hkb,hdb,Ap⟩
       · obtain ⟨b2,o2,cs2,rfl,hl2,hA2,hE2⟩:=hel2 kb xb hxb
         obtain ⟨tv,cv,rfl,hT,hC,ht1,hc1⟩:=hE2.op
         obtain ⟨A3,c3,rfl,hlc3,hcm3,hlm3,hel3⟩:=Zd.open hC
         obtain ⟨A4,c4,rfl,hlc4,hcm4,hlm4,hel4⟩:=Zd.open hT
         have eb':=e'.trans eb
         unfold Zb8
         simp (disch:=try exact DI) only [↓PR,QR,simprocAttr,Ap]
         unfold ZfR
         have Xr:=hA2.c15 eb'
         by_cases hc50:xb.cases.length≤50
         · have d3:decide ((xb.cases.length:Int) > 50)=false:=by simp;omega
           by_cases ht10:xb.terms.length≤10
           · have d4:decide ((xb.terms.length:Int) > 10)=false:=by simp;omega
             simp (disch:=try exact DI) only [↓PR,QR,simprocAttr,Xr,d3,d4]
             exact ⟨⟨kb+1,rfl,by omega,ee,qI hIb hxb ⟨hc50,ht10⟩⟩,ZM (kd := .i64) hltb⟩
           · have d4:decide ((xb.terms.length:Int) > 10)=true:=by simp;omega
             simp (disch:=try exact DI) only [↓PR,QR,simprocAttr,Xr,d3,d4]
             exact ⟨false,rfl,by simp,ee⟩
         · have d3:decide ((xb.cases.length:Int) > 50)=true:=by simp;omega
           simp (disch:=try exact DI) only [↓PR,QR,simprocAttr,Xr,d3]
           exact ⟨false,rfl,by simp,ee⟩
       · subst hkb
         rw [List.take_length] at hIb
         unfold Zb8
         simp (disch:=try exact DI) only [↓PR,QR,simprocAttr,Ap]
         exact ⟨⟨k+1,rfl,rfl,by omega,ee,⟨hn,qI hok hx hIb⟩⟩,ZM (kd := .i64) Yv⟩
     · have d2:decide (((xh (d.msgs.take (k+1)):Nat):Int) > 400)=true:=by simp;omega
       simp (disch:=try exact DI) only [↓PR,QR,simprocAttr,Xz.c3,(hA.c2 e').1,(hA.c2 e').2,hwr,d2]
       exact ⟨false,rfl,by simp,ee⟩
   · have d1:decide ((k:Int)≤70)=false:=by simp;omega
     have d2:decide ((d.msgs.length:Int)≤70)=false:=by simp;omega
     simp (disch:=try exact DI) only [↓PR,QR,simprocAttr,Xz.c3,ZJ,d1,Zb9,d2]
     exact ⟨false,rfl,by simp,ee⟩
 · subst hk
   obtain ⟨h400,hok⟩:=hI
   rw [List.take_length] at h400 hok
   unfold Zca
   simp (disch:=try exact DI) only [↓PR,QR,simprocAttr,Xz.c3,ZJ,Zb9]
   exact ⟨_,rfl,λ hb=>⟨by have:=of_decide_eq_true hb;omega,h400,hok⟩,ee⟩
def BI:Zl:={ name:=ByteArray.empty,kind:=0,bits:=0,little:=false,loose:=false,low:=0,high:=0,base:=0,terms:=[],of:=ByteArray.empty,tag:=ByteArray.empty,fr:=ByteArray.empty,cases:=[],check:=0,key:=0 }
def sA:List Zl:=[{ BI with name:=⟨#[110]⟩,kind:=1,bits:=8,high:=3 },{ BI with name:=⟨#[98]⟩,kind:=4,terms:=[⟨⟨#[110]⟩,1⟩] }]
def sM:List Zl:=[{ BI with name:=⟨#[116]⟩,kind:=1,bits:=3,high:=2 },{ BI with name:=⟨#[112]⟩,kind:=10,bits:=8 },{ BI with name:=⟨#[118]⟩,kind:=3,high:=300 },{ BI with name:=⟨#[108]⟩,kind:=7,of:=⟨#[97]⟩,base:=1,terms:=[⟨⟨#[116]⟩,1⟩] },{ BI with name:=⟨#[107]⟩,kind:=11,check:=3,fr:=⟨#[116]⟩ }]
def sD:YQ:=⟨⟨#[100]⟩,[⟨⟨#[97]⟩,sA⟩,⟨⟨#[109]⟩,sM⟩],⟨#[109]⟩⟩
abbrev Zdd (p q:Nat) (f:Zl):List Vl:=Zm f (if f.kind=4 then .slice (some ⟨p,0,none⟩) 1 1 else if f.kind=7 then .slice (some ⟨q,0,none⟩) 1 1 else .slice none 0 0) (.slice none 0 0)
theorem Ai {α β:Type} {n:Nat} {enc:α→List β} (hn:∀ x,(enc x).length=n) (l:List α):(l.flatMap enc).length=l.length*n:=by
 induction l with
 | nil=>simp
 | cons a l ih=>rw [List.flatMap_cons,List.length_append,ih,hn,List.length_cons,Nat.add_mul];omega
theorem Br {α:Type} {w:Wd} {b n k:Nat} {E:Wd→List Vl→α→Prop} {enc:α→List Vl} {T:TypeId} (l:List α) (h:w.heap[b]?=some (.cells (l.flatMap enc).toArray T (0,0))) (hk:k=l.length) (hl:l.length≤1048576) (hn:∀ x,(enc x).length=n) (hE:∀ x,x∈l→E w (enc x) x):Zd w n E (.slice (some ⟨b,0,none⟩) k k) l:=by
 subst hk
 refine Yk.slice (base:=0) (T:=T) (enc:=enc) ⟨?_,.inr ⟨b,l.length,(l.flatMap enc).toArray,rfl,Nat.zero_le _,h,Nat.le_refl _,by simp only [maxLen];omega,?_,?_⟩⟩ hn hE
 · exact Ai hn l
 · rw [List.size_toArray];exact Ai hn l
 · rw [List.take_of_length_le (by rw [Ai hn l];exact Nat.le_refl _)]
abbrev ZhP (p q:Nat) (m:ZC):List Vl:=Z8 m (if m.name=⟨#[97]⟩ then .slice (some ⟨p,0,none⟩) 2 2 else .slice (some ⟨q,0,none⟩) 5 5)
theorem W9 (w0:Wd):Ret Pg 72 #[] w0 λ r w'=>YT w' r sD∧Ext w0 w':=by
 refine n9s (R:=ZO _) ?_;unfold n9
 simp (disch:=try exact DI) only [↓PR,QR,Int.reduceBEq,Int.reduceBNe,Int.reduceLT,Int.reduceLE,Int.reduceGT,Int.reduceGE,Int.reduceNeg]
 generalize hF:World.alloc (World.alloc _ _) _=F
 have e0:Ext w0 F:=by rw [← hF];exact ee
 have o1:F.heap[w0.heap.size+1]?=some (.cells (([⟨⟨#[110]⟩,1⟩]:List Z3).flatMap Ve).toArray 62 (0,0)):=by rw [← hF];simp (disch:=try exact DI) only [↓PR,QR,Int.reduceBEq,Int.reduceBNe,Int.reduceLT,Int.reduceLE,Int.reduceGT,Int.reduceGE,Int.reduceNeg];rfl
 have o3:F.heap[w0.heap.size+1+1+1]?=some (.cells (([⟨⟨#[116]⟩,1⟩]:List Z3).flatMap Ve).toArray 62 (0,0)):=by rw [← hF];simp (disch:=try exact DI) only [↓PR,QR,Int.reduceBEq,Int.reduceBNe,Int.reduceLT,Int.reduceLE,Int.reduceGT,Int.reduceGE,Int.reduceNeg];rfl
 have o5:F.heap[w0.heap.size+1+1+1+1+1]?=some (.cells (sA.flatMap (Zdd (w0.heap.size+1) (w0.heap.size+1+1+1))).toArray 48 (0,0)):=by rw [← hF];simp (disch:=try exact DI) only [↓PR,QR,Int.reduceBEq,Int.reduceBNe,Int.reduceLT,Int.reduceLE,Int.reduceGT,Int.reduceGE,Int.reduceNeg];rfl
 have o6:F.heap[w0.heap.size+1+1+1+1+1+1]?=some (.cells (sM.flatMap (Zdd (w0.heap.size+1) (w0.heap.size+1+1+1))).toArray 48 (0,0)):=by rw [← hF];simp (disch:=try exact DI) only [↓PR,QR,Int.reduceBEq,Int.reduceBNe,Int.reduceLT,Int.reduceLE,Int.reduceGT,Int.reduceGE,Int.reduceNeg];rfl
 have o7:F.heap[w0.heap.size+1+1+1+1+1+1+1]?=some (.cells (sD.msgs.flatMap (ZhP (w0.heap.size+1+1+1+1+1) (w0.heap.size+1+1+1+1+1+1))).toArray 24 (0,0)):=by rw [← hF];simp (disch:=try exact DI) only [↓PR,QR,Int.reduceBEq,Int.reduceBNe,Int.reduceLT,Int.reduceLE,Int.reduceGT,Int.reduceGE,Int.reduceNeg];rfl
 clear hF
 generalize w0.heap.size+1+1+1+1+1+1+1=p7 at o7 ⊢
 generalize w0.heap.size+1+1+1+1+1+1=p6 at o6 o7
 generalize w0.heap.size+1+1+1+1+1=p5 at o5 o7
 generalize w0.heap.size+1+1+1=p3 at o3 o5 o6
 generalize w0.heap.size+1=p1 at o1 o5 o6
 have hT1:ZV F (.slice (some ⟨p1,0,none⟩) 1 1) [⟨⟨#[110]⟩,1⟩]:=Br _ o1 rfl (by decide) (λ _=>rfl) (λ _ _=>rfl)
 have hT3:ZV F (.slice (some ⟨p3,0,none⟩) 1 1) [⟨⟨#[116]⟩,1⟩]:=Br _ o3 rfl (by decide) (λ _=>rfl) (λ _ _=>rfl)
 have h0:ZV F (.slice none 0 0) []:=Zd.nil _ _ _
 have c0:Yc F (.slice none 0 0) []:=Zd.nil _ _ _
 have hA:Yq F (.slice (some ⟨p5,0,none⟩) 2 2) sA:=Br sA o5 rfl (by decide) (λ _=>rfl) λ f hf=>by
  simp only [sA,List.mem_cons,List.not_mem_nil,or_false] at hf
  rcases hf with rfl | rfl
  · exact ⟨_,_,rfl,h0,c0⟩
  · exact ⟨_,_,rfl,hT1,c0⟩
 have hM:Yq F (.slice (some ⟨p6,0,none⟩) 5 5) sM:=Br sM o6 rfl (by decide) (λ _=>rfl) λ f hf=>by
  simp only [sM,List.mem_cons,List.not_mem_nil,or_false] at hf
  rcases hf with rfl | rfl | rfl | rfl | rfl
  · exact ⟨_,_,rfl,h0,c0⟩
  · exact ⟨_,_,rfl,h0,c0⟩
  · exact ⟨_,_,rfl,h0,c0⟩
  · exact ⟨_,_,rfl,hT3,c0⟩
  · exact ⟨_,_,rfl,h0,c0⟩
 refine ⟨⟨.slice (some ⟨p7,0,none⟩) 2 2,rfl,Br sD.msgs o7 rfl (by decide) (λ _=>rfl) λ m hm=>?_⟩,e0⟩
 simp only [sD,List.mem_cons,List.not_mem_nil,or_false] at hm
 rcases hm with rfl | rfl
 · exact ⟨_,rfl,hA⟩
 · exact ⟨_,rfl,hM⟩
theorem Aq (w0:Wd) (a b e lo hi:Int):Ret Pg 76 #[Zv a b,.int .i64 e,.int .i64 lo,.int .i64 hi] w0 λ r w'=>r = .bool (decide (a=lo)&&decide (b=hi)&&e == 0)∧Ext w0 w':=by
 refine ZhT (R:=ZO _) ?_;unfold n10
 simp (disch:=try exact DI) only [↓PR,QR,simprocAttr]
 exact ⟨by first | trivial | rfl,ee⟩
theorem Nv (w0:Wd) (a b:Int):Ret Pg 37 #[Zv a b] w0 λ r w'=>r=Zv a b∧Ext w0 w':=by
 refine ZhW (R:=ZO _) ?_;unfold n13
 simp (disch:=try exact DI) only [↓PR,QR,simprocAttr]
 exact ⟨by first | trivial | rfl,ee⟩
theorem KE:UJ sD:=by
 intro m hm
 simp only [sD,List.mem_cons,List.not_mem_nil,or_false] at hm
 rcases hm with rfl | rfl
 · exact ⟨by decide,by decide⟩
 · exact ⟨by decide,by decide⟩
theorem Zf7:XO sD 0 1=0:=by decide +kernel
theorem ZbE:XO sD 1 2=0:=by decide +kernel
theorem Zga:XO sD 1 3=0:=by decide +kernel
theorem Zf9:XO sD 1 1=0:=by decide +kernel
theorem Sh:XO sD 0 0=0:=by decide +kernel
theorem Zf8:XO sD 1 0=0:=by decide +kernel
theorem Zgb:KH sD 0 1=(0,24):=by decide +kernel
theorem Zgc:KH sD 1 2=(8,16):=by decide +kernel
theorem Zgd:KH sD 1 3=(8,96):=by decide +kernel
theorem Zge:FN sD 1 1=(3,3):=by decide +kernel
theorem Zgf:FN sD 1 2=(8,8):=by decide +kernel
theorem TE:Ue sD 0=(8,32):=by decide +kernel
theorem Zkp:Ue sD 1=(56,152):=by decide +kernel
theorem KG (w0:Wd) (i j lo hi:Int) (hE:XO sD i j=0) (hF:KH sD i j=(lo,hi)):Ret Pg 75 #[.int .i64 i,.int .i64 j,.int .i64 lo,.int .i64 hi] w0 λ r w'=>r = .bool true∧Ext w0 w':=by
 refine n7s (R:=ZO _) ?_;unfold n7
 refine Zs (W9 _) ?_
 rintro v w1 ⟨hd,e1⟩
 refine zcr (Hp v i j hd KE (xg sD KE) (by decide)) λ w2 e2=>?_
 rw [hE,hF]
 unfold ZfQ yy
 rw [if_pos rfl]
 simp (disch:=try exact DI) only [↓PR,QR,simprocAttr]
 refine zcr (Aq _ lo hi 0 lo hi) λ w3 e3=>?_
 exact ⟨_,rfl,by simp,ee⟩
theorem Jl (w0:Wd) (i j lo hi:Int) (hE:XO sD i j=0) (hF:FN sD i j=(lo,hi)):Ret Pg 77 #[.int .i64 i,.int .i64 j,.int .i64 lo,.int .i64 hi] w0 λ r w'=>r = .bool true∧Ext w0 w':=by
 refine ZhV (R:=ZO _) ?_;unfold n12
 refine Zs (W9 _) ?_
 rintro v w1 ⟨hd,e1⟩
 refine zcr (BL v i j hd KE (xg sD KE) (by decide) (by decide)) λ w2 e2=>?_
 rw [hE,hF]
 unfold Zab yy
 rw [if_pos rfl]
 simp (disch:=try exact DI) only [↓PR,QR,simprocAttr]
 refine zcr (Aq _ lo hi 0 lo hi) λ w3 e3=>?_
 exact ⟨_,rfl,by simp,ee⟩
theorem qL (w0:Wd):Ret Pg 34 #[] w0 λ r w'=>r = .bool true∧Ext w0 w':=by
 have hs:=xg sD KE
 refine ZhU (R:=ZO _) ?_;unfold n11
 refine Zs (W9 _) ?_
 rintro v1 w1 ⟨hd1,e1⟩
 refine zcr (Uy v1 0 hd1 KE hs (by decide)) λ w2 e2=>?_
 have E2:=e1.trans e2
 rw [Sh,TE]
 unfold OO yy
 rw [if_pos rfl]
 simp (disch:=try exact DI) only [↓PR,QR,simprocAttr]
 have eA:Ext w2 (w2.alloc (.cells #[.int .i64 8,.int .i64 32] 74)):=ee
 have oA:=ZG w2 #[.int .i64 8,.int .i64 32] 74
 generalize (w2.alloc (.cells #[.int .i64 8,.int .i64 32] 74))=A at eA oA ⊢
 generalize w2.heap.size=pA at oA ⊢
 refine Zs (W9 _) ?_
 rintro v3 w3 ⟨hd3,e3⟩
 refine zcr (Er v3 0 hd3 KE hs (by decide) (λ _=>by rw [TE];decide)) λ w4 e4=>?_
 have E4:=(E2.trans eA).trans (e3.trans e4)
 have xA:=(e3.trans e4).obj oA
 rw [Sh,TE]
 unfold ON yy
 rw [if_pos rfl]
 simp only [show ((8:Int)+7).tdiv 8=1 from rfl,show ((32:Int)+7).tdiv 8=4 from rfl]
 simp (disch:=try exact DI) only [↓PR,QR,simprocAttr]
 have eB:Ext w4 (w4.alloc (.cells #[.int .i64 1,.int .i64 4] 74)):=ee
 have oB:=ZG w4 #[.int .i64 1,.int .i64 4] 74
 generalize (w4.alloc (.cells #[.int .i64 1,.int .i64 4] 74))=B at eB oB ⊢
 generalize w4.heap.size=pB at oB ⊢
 refine Zs (W9 _) ?_
 rintro v5 w5 ⟨hd5,e5⟩
 refine zcr (Uy v5 1 hd5 KE hs (by decide)) λ w6 e6=>?_
 have f6:=eB.trans (e5.trans e6)
 have E6:=E4.trans f6
 have yA:=f6.obj xA
 have xB:=(e5.trans e6).obj oB
 rw [Zf8,Zkp]
 unfold OM yy
 rw [if_pos rfl]
 simp (disch:=try exact DI) only [↓PR,QR,simprocAttr]
 have eC:Ext w6 (w6.alloc (.cells #[.int .i64 56,.int .i64 152] 74)):=ee
 have oC:=ZG w6 #[.int .i64 56,.int .i64 152] 74
 generalize (w6.alloc (.cells #[.int .i64 56,.int .i64 152] 74))=C at eC oC ⊢
 generalize w6.heap.size=pC at oC ⊢
 refine Zs (W9 _) ?_
 rintro v7 w7 ⟨hd7,e7⟩
 refine zcr (Hr v7 0 hd7 KE hs (by decide)) λ w8 e8=>?_
 rw [Sh,TE]
 unfold OL
 simp (disch:=try exact DI) only [↓PR,QR,simprocAttr]
 refine zcr (KG _ 0 1 0 24 Zf7 Zgb) λ w9 e9=>?_
 have f9:=e7.trans (e8.trans e9)
 have E9:=(E6.trans eC).trans f9
 have zA:=(eC.trans f9).obj yA
 have zB:=(eC.trans f9).obj xB
 have zC:=f9.obj oC
 clear e1 e2 E2 eA oA e3 e4 E4 xA eB oB e5 e6 f6 E6 yA xB eC oC e7 e8 e9 f9 hd1 hd3 hd5 hd7
 simp (disch:=try exact DI) only [↓PR,QR,simprocAttr,↓Zaa,(Za zA).1]
 refine zcr (Aq _ 8 32 0 8 32) λ wa ea=>?_
 simp (disch:=try exact DI) only [↓PR,QR,simprocAttr,↓T9,(Za (ea.obj zB)).1]
 refine zcr (Aq _ 1 4 0 1 4) λ wb eb=>?_
 simp (disch:=try exact DI) only [↓PR,QR,simprocAttr,↓T8,(Za ((ea.trans eb).obj zC)).1]
 refine zcr (Aq _ 56 152 0 56 152) λ wc ec=>?_
 simp (disch:=try exact DI) only [↓PR,QR,simprocAttr,↓T7,↓T6,↓T5]
 refine zcr (Jl _ 1 1 3 3 Zf9 Zge) λ wd ed=>?_
 simp (disch:=try exact DI) only [↓PR,QR,simprocAttr,↓T4]
 refine zcr (Jl _ 1 2 8 8 ZbE Zgf) λ we ew=>?_
 simp (disch:=try exact DI) only [↓PR,QR,simprocAttr,↓T3]
 refine zcr (KG _ 1 2 8 16 ZbE Zgc) λ wf ef=>?_
 simp (disch:=try exact DI) only [↓PR,QR,simprocAttr,↓T2]
 refine zcr (KG _ 1 3 8 96 Zga Zgd) λ wg eg=>?_
 simp (disch:=try exact DI) only [↓PR,QR,simprocAttr]
 exact ⟨by trivial,E9.trans (ea.trans (eb.trans (ec.trans (ed.trans (ew.trans (ef.trans eg))))))⟩
def ZfK (a c d b:Vl) (ZT:KV) (ds:LDf) (R:RT) (w:Wd):Prop:=
 opV Pg (fieldAt 28 c 1) (OQ0 ds 4 a R) w λ e w=>
 opV Pg (loadAt 26 e) (OQ0 ds 4 a R) w λ f w=>
 opV Pg (indexAt 26 f d) (OQ0 ds 4 a R) w λ g w=>
 opV Pg (fieldAt 24 g 1) (OQ0 ds 4 a R) w λ h w=>
 opV Pg (loadAt 22 h) (OQ0 ds 4 a R) w λ i w=>
 opV Pg (Instr.build 48 #[(1,(.int .i64 1)),(2,(.int .i64 1))]) (OQ0 ds 4 a R) w λ j w=>
 opV Pg (indexAt 22 i b) (OQ0 ds 4 a R) w λ k w=>
 opU Pg (storeAt 48 k j) (OQ0 ds 4 a R) w λ w=>
 opV Pg (ZI .add 3 true b (.int .i64 1)) (OQ0 ds 4 a R) w λ l w=>
 ZT l w
def Zb4 (a c b d:Vl) (Zo:KV) (ZT:KV) (ds:LDf) (R:RT) (w:Wd):Prop:=
 opV Pg (fieldAt 28 c 1) (OQ0 ds 4 a R) w λ e w=>
 opV Pg (loadAt 26 e) (OQ0 ds 4 a R) w λ f w=>
 opV Pg (indexAt 26 f b) (OQ0 ds 4 a R) w λ g w=>
 opV Pg (fieldAt 24 g 1) (OQ0 ds 4 a R) w λ h w=>
 opV Pg (loadAt 22 h) (OQ0 ds 4 a R) w λ i w=>
 opV Pg (Builtin.len_ #[22] 3 #[i]) (OQ0 ds 4 a R) w λ j w=>
 opV Pg (ZI .lss 3 false d j) (OQ0 ds 4 a R) w λ k w=>
 Zq k (
 ZfK a c b d ZT ds R w) (
 opV Pg (ZI .add 3 true b (.int .i64 1)) (OQ0 ds 4 a R) w λ l w=>
 Zo l w)
def ZfL (f g b:Vl) (h:WPr) (a:PEn) (i:Nat→Wd→Prop) (R:RT) (w:Wd):Prop:=
 opV Pg (loadAt 3 b) a w λ j w=>
 opV Pg (ZI .add 3 true j (.int .i64 1)) a w λ k w=>
 opU Pg (storeAt 3 b k) a w λ w=>
 opV Pg (loadAt 3 g) a w λ l w=>
 opV Pg (ZI .eql 3 true l (.int .i64 0)) a w λ d w=>
 Zr (λ (c:Vl) (w:Wd)=>
 Zw d c (.bool false) λ m=>
 Zq m (
 i 1 w) (
 h w)) λ e=>
 Zn d true (
 opV Pg (loadAt 3 b) a w λ n w=>
 opV Pg (loadAt 3 f) a w λ o w=>
 opV Pg (ZI .geq 3 false n o) a w λ c w=>
 e c w) (
 e undef w)
def ZfM (g h i j k l m n o:Vl) (a:WPr) (p:WPr) (b:PEn) (d:Nat→Wd→Prop) (R:RT) (w:Wd):Prop:=
 Zw n (.bool true) o λ e=>
 Zr (λ (c:Vl) (w:Wd)=>
 Zw e (.bool true) c λ q=>
 Zq q (
 opU Pg (storeAt 4 h (.bool false)) b w λ w=>
 d 0 w) (
 ZfL g j k p b d R w)) λ f=>
 Zn e false (
 I0 74 l a λ r=>
 I0 71 i a λ s=>
 M0 71 s m a λ t=>
 I0 76 t a λ u=>
 Yt Pg 37 #[u] b w λ v w=>
 a w∧(
 qV Pg a (ZI .neq 74 false r v) λ c=>
 f c w)) (
 f undef w)
def ZfN (h i d j k b l e:Vl) (a:WPr) (m:WPr) (n:PEn) (o:Nat→Wd→Prop) (R:RT) (w:Wd):Prop:=
 I0 3 b a λ p=>
 I0 30 d a λ q=>
 qV Pg a (Builtin.len_ #[30] 3 #[q]) λ r=>
 qV Pg a (ZI .geq 3 false p r) λ f=>
 Zr (λ (c:Vl) (w:Wd)=>
 ZfM h i j k b l e f c a m n o R w) λ g=>
 Zn f false (
 I0 30 d a λ s=>
 I0 3 b a λ t=>
 M0 30 s t a λ u=>
 I0 3 u a λ v=>
 qV Pg a (ZI .neq 3 false e v) λ c=>
 g c w) (
 g undef w)
def ZfO (b c d e f g h i:Vl) (j:WPr) (k:PEn) (l:Nat→Wd→Prop) (l5:Nat) (R:RT) (w:Wd):Prop:=
 opV Pg (Instr.alloc 74 true (.tuple #[])) (λ _ _=>False) w λ a w=>
 opU Pg (storeAt 74 a i) (λ _ _=>False) w λ w=>
 zW l5 w λ w=>
 Yy w λ m w=>
 ZfN b c d e f g a h m j k l R w
def Zb5 (a b:Vl) (YI:LDf→Vl→Wd→Prop) (ds:LDf) (R:RT) (w:Wd):Prop:=
 opV Pg (loadAt 3 b) (OQ0 ds 4 a R) w λ c w=>
 opV Pg (Instr.alloc 3 true (.tuple #[])) (OQ0 ds 4 a R) w λ b w=>
 opU Pg (storeAt 3 b c) (OQ0 ds 4 a R) w λ w=>
 opV Pg (loadAt 3 b) (OQ0 ds 4 a R) w λ d w=>
 opV Pg (ZI .add 3 true d (.int .i64 1)) (OQ0 ds 4 a R) w λ e w=>
 opU Pg (storeAt 3 b e) (OQ0 ds 4 a R) w λ w=>
 YI ds b w
def Zb6 (a b c d:Vl) (YI:LDf→Vl→Wd→Prop) (ds:LDf) (R:RT) (w:Wd):Prop:=
 Zw c (.bool true) d λ e=>
 Zq e (
 opU Pg (storeAt 4 a (.bool false)) (OQ0 ds 4 a R) w λ w=>
 Us Pg ds [(some 4,a)] R w) (
 Zb5 a b YI ds R w)
def Zb7 (d e b f g:Vl) (YI:LDf→Vl→Wd→Prop) (ds:LDf) (R:RT) (w:Wd):Prop:=
 Zr (λ (a:Vl) (w:Wd)=>
 Zb6 d e b a YI ds R w) λ c=>
 Zn b false (
 Zw f g (.bool false) λ a=>
 c a w) (
 c undef w)
def Ri (a e f g h c:Vl) (YI:LDf→Vl→Wd→Prop) (ds:LDf) (R:RT) (w:Wd):Prop:=
 Zr (λ (b:Vl) (w:Wd)=>
 Zb7 a f h c b YI ds R w) λ d=>
 Zn c true (
 opV Pg (loadAt 3 g) (OQ0 ds 4 a R) w λ i w=>
 opV Pg (loadAt 30 e) (OQ0 ds 4 a R) w λ j w=>
 opV Pg (Builtin.len_ #[30] 3 #[j]) (OQ0 ds 4 a R) w λ k w=>
 opV Pg (ZI .neq 3 false i k) (OQ0 ds 4 a R) w λ b w=>
 d b w) (
 d undef w)
def Rj (a e b f g h:Vl) (YI:LDf→Vl→Wd→Prop) (ds:LDf) (R:RT) (w:Wd):Prop:=
 Zw g h (.bool false) λ c=>
 Zr (λ (i:Vl) (w:Wd)=>
 Ri a e b f c i YI ds R w) λ d=>
 Zn c false (
 opV Pg (loadAt 3 b) (OQ0 ds 4 a R) w λ j w=>
 opV Pg (ZI .eql 3 true j (.int .i64 1)) (OQ0 ds 4 a R) w λ k w=>
 d k w) (
 d undef w)
def Zbj (b a c d:Vl) (e:KV) (ds:LDf) (R:RT) (w:Wd):Prop:=
 opV Pg (loadAt 3 d) (OQ0 ds 4 a R) w λ f w=>
 opV Pg (loadAt 30 c) (OQ0 ds 4 a R) w λ g w=>
 opV Pg (Builtin.len_ #[30] 3 #[g]) (OQ0 ds 4 a R) w λ h w=>
 opV Pg (loadAt 3 b) (OQ0 ds 4 a R) w λ i w=>
 opV Pg (Builtin.max_ #[3,3] 3 #[(.int .i64 1),i]) (OQ0 ds 4 a R) w λ j w=>
 opV Pg (Builtin.min_ #[3,3] 3 #[h,j]) (OQ0 ds 4 a R) w λ k w=>
 opV Pg (ZI .neq 3 false f k) (OQ0 ds 4 a R) w λ l w=>
 e l w
def Rl (g a b c d:Vl) (YI:LDf→Vl→Wd→Prop) (ds:LDf) (R:RT) (w:Wd):Prop:=
 opV Pg (loadAt 3 c) (OQ0 ds 4 a R) w λ h w=>
 opV Pg (ZI .eql 3 true h (.int .i64 0)) (OQ0 ds 4 a R) w λ e w=>
 Zr (λ (i:Vl) (w:Wd)=>
 Rj a b c d e i YI ds R w) λ f=>
 Zn e true (
 Zbj g a b d f ds R w) (
 f undef w)
def Rm (a b:Vl) (YI:LDf→Vl→Wd→Prop) (ds:LDf) (R:RT) (w:Wd):Prop:=
 opV Pg (loadAt 3 b) (OQ0 ds 4 a R) w λ c w=>
 opV Pg (Instr.alloc 3 true (.tuple #[])) (OQ0 ds 4 a R) w λ b w=>
 opU Pg (storeAt 3 b c) (OQ0 ds 4 a R) w λ w=>
 opV Pg (loadAt 3 b) (OQ0 ds 4 a R) w λ d w=>
 opV Pg (ZI .add 3 true d (.int .i64 1)) (OQ0 ds 4 a R) w λ e w=>
 opU Pg (storeAt 3 b e) (OQ0 ds 4 a R) w λ w=>
 YI ds b w
def Rn (a b c d:Vl) (YI:LDf→Vl→Wd→Prop) (ds:LDf) (R:RT) (w:Wd):Prop:=
 Zw c (.bool true) d λ e=>
 Zq e (
 opU Pg (storeAt 4 a (.bool false)) (OQ0 ds 4 a R) w λ w=>
 Us Pg ds [(some 4,a)] R w) (
 Rm a b YI ds R w)
def Ro (d e b f g:Vl) (YI:LDf→Vl→Wd→Prop) (ds:LDf) (R:RT) (w:Wd):Prop:=
 Zr (λ (a:Vl) (w:Wd)=>
 Rn d e b a YI ds R w) λ c=>
 Zn b false (
 Zw f g (.bool false) λ a=>
 c a w) (
 c undef w)
def Rp (a e f g h c:Vl) (YI:LDf→Vl→Wd→Prop) (ds:LDf) (R:RT) (w:Wd):Prop:=
 Zr (λ (b:Vl) (w:Wd)=>
 Ro a f h c b YI ds R w) λ d=>
 Zn c true (
 opV Pg (loadAt 3 g) (OQ0 ds 4 a R) w λ i w=>
 opV Pg (loadAt 30 e) (OQ0 ds 4 a R) w λ j w=>
 opV Pg (Builtin.len_ #[30] 3 #[j]) (OQ0 ds 4 a R) w λ k w=>
 opV Pg (ZI .neq 3 false i k) (OQ0 ds 4 a R) w λ b w=>
 d b w) (
 d undef w)
def Rq (a e b f g h:Vl) (YI:LDf→Vl→Wd→Prop) (ds:LDf) (R:RT) (w:Wd):Prop:=
 Zw g h (.bool false) λ c=>
 Zr (λ (i:Vl) (w:Wd)=>
 Rp a e b f c i YI ds R w) λ d=>
 Zn c false (
 opV Pg (loadAt 3 b) (OQ0 ds 4 a R) w λ j w=>
 opV Pg (ZI .eql 3 true j (.int .i64 1)) (OQ0 ds 4 a R) w λ k w=>
 d k w) (
 d undef w)
def Zbk (b a c d:Vl) (e:KV) (ds:LDf) (R:RT) (w:Wd):Prop:=
 opV Pg (loadAt 3 d) (OQ0 ds 4 a R) w λ f w=>
 opV Pg (loadAt 30 c) (OQ0 ds 4 a R) w λ g w=>
 opV Pg (Builtin.len_ #[30] 3 #[g]) (OQ0 ds 4 a R) w λ h w=>
 opV Pg (loadAt 3 b) (OQ0 ds 4 a R) w λ i w=>
 opV Pg (Builtin.max_ #[3,3] 3 #[(.int .i64 1),i]) (OQ0 ds 4 a R) w λ j w=>
 opV Pg (Builtin.min_ #[3,3] 3 #[h,j]) (OQ0 ds 4 a R) w λ k w=>
 opV Pg (ZI .neq 3 false f k) (OQ0 ds 4 a R) w λ l w=>
 e l w
def Rr (g a b c d:Vl) (YI:LDf→Vl→Wd→Prop) (ds:LDf) (R:RT) (w:Wd):Prop:=
 opV Pg (loadAt 3 c) (OQ0 ds 4 a R) w λ h w=>
 opV Pg (ZI .eql 3 true h (.int .i64 0)) (OQ0 ds 4 a R) w λ e w=>
 Zr (λ (i:Vl) (w:Wd)=>
 Rq a b c d e i YI ds R w) λ f=>
 Zn e true (
 Zbk g a b d f ds R w) (
 f undef w)
def Zbl (a:Vl) (ds:LDf) (R:RT) (w:Wd):Prop:=
 Yt Pg 34 #[] (OQ0 ds 4 a R) w λ b w=>
 opU Pg (storeAt 4 a b) (OQ0 ds 4 a R) w λ w=>
 Us Pg ds [(some 4,a)] R w
def Zbm (c a d f e g:Vl) (YI:LDf→Vl→Wd→Prop) (ds:LDf) (R:RT) (w:Wd):Prop:=
 opV Pg (Instr.alloc 3 true (.tuple #[])) (OQ0 ds 4 a R) w λ b w=>
 opU Pg (storeAt 3 b (.int .i64 0)) (OQ0 ds 4 a R) w λ w=>
 Mb Pg g ds (λ l5 h i w j k l=>
 ZfO c a d f e b h i j l k l5 R w) (λ ch ds w=>OQ0 ds 4 a R ch w) w (λ ds w=>
 Rl c a d e b YI ds R w) [λ ds w=>
 Us Pg ds [(some 4,a)] R w,λ ds w=>
 Rr c a d e b YI ds R w]
def Zbn (c a d e b f:Vl) (YI:LDf→Vl→Wd→Prop) (ds:LDf) (R:RT) (w:Wd):Prop:=
 opV Pg (loadAt 3 b) (OQ0 ds 4 a R) w λ g w=>
 opV Pg (ZI .lss 3 true g (.int .i64 2)) (OQ0 ds 4 a R) w λ h w=>
 Zq h (
 Zbm c a d e b f YI ds R w) (
 Zbl a ds R w)
def Rs (c b d e f:Vl) (ds:LDf) (R:RT) (w:Wd):Prop:=
 opV Pg (Instr.alloc 3 true (.tuple #[])) (OQ0 ds 4 b R) w λ a w=>
 opU Pg (storeAt 3 a (.int .i64 0)) (OQ0 ds 4 b R) w λ w=>
 HP (λ ds a w YI=>
 Zbn c b d e a f YI ds R w) ds a w
def Zbo (a b c d e:Vl) (f:WPr) (ds:LDf) (R:RT) (w:Wd):Prop:=
 opU Pg (storeAt 30 b d) (OQ0 ds 4 a R) w λ w=>
 Xt w λ g w=>
 opU Pg (storeAt 71 c e) (OQ0 ds 4 a R) w λ w=>
 Xt w λ h w=>
 f w
def Zbp (c b d e:Vl) (a:WPr) (f:WPr) (ds:LDf) (R:RT) (w:Wd):Prop:=
 I0 28 c a λ g=>
 I0 28 c a λ h=>
 Yt Pg 23 #[g] (OQ0 ds 4 b R) w λ i w=>
 a w∧(
 Yt Pg 36 #[h] (OQ0 ds 4 b R) w λ j w=>
 a w∧(
 Zbo b d e i j f ds R w))
def Zbq (e f a b c g h:Vl) (ds:LDf) (R:RT) (w:Wd):Prop:=
 Zr (λ (w:Wd)=>
 Rs f a b c g ds R w) λ d=>
 Zq h (
 Yy w λ i w=>
 Zbp e a b c i d ds R w) (
 d w)
def Rt (b c a d:Vl) (ds:LDf) (R:RT) (w:Wd):Prop:=
 opV Pg (Instr.alloc 30 true (.tuple #[])) (OQ0 ds 4 a R) w λ e w=>
 opV Pg (Instr.alloc 71 true (.tuple #[])) (OQ0 ds 4 a R) w λ f w=>
 opV Pg (loadAt 28 b) (OQ0 ds 4 a R) w λ g w=>
 Yt Pg 22 #[g] (OQ0 ds 4 a R) w λ h w=>
 Zbq b c a e f d h ds R w
def Zbr (a b c:Vl) (Zo:KV) (ds:LDf) (R:RT) (w:Wd):Prop:=
 opV Pg (fieldAt 28 b 1) (OQ0 ds 4 a R) w λ d w=>
 opV Pg (loadAt 26 d) (OQ0 ds 4 a R) w λ e w=>
 opV Pg (indexAt 26 e c) (OQ0 ds 4 a R) w λ f w=>
 opV Pg (fieldAt 24 f 0) (OQ0 ds 4 a R) w λ g w=>
 opU Pg (storeAt 9 g (.string { data := #[120] })) (OQ0 ds 4 a R) w λ w=>
 YS (λ h w ZT=>
 Zb4 a b c h Zo ZT ds R w) (.int .i64 0) w
def Ru (d e a b c f:Vl) (Zo:KV) (ds:LDf) (R:RT) (w:Wd):Prop:=
 opV Pg (fieldAt 28 b 1) (OQ0 ds 4 a R) w λ g w=>
 opV Pg (loadAt 26 g) (OQ0 ds 4 a R) w λ h w=>
 opV Pg (Builtin.len_ #[26] 3 #[h]) (OQ0 ds 4 a R) w λ i w=>
 opV Pg (ZI .lss 3 false c i) (OQ0 ds 4 a R) w λ j w=>
 Zq j (
 Zbr a b c Zo ds R w) (
 Rt d e a f ds R w)
def Zbs (c d a e b:Vl) (ds:LDf) (R:RT) (w:Wd):Prop:=
 opV Pg (ZI .eql 69 true b .nilFunc) (OQ0 ds 4 a R) w λ f w=>
 Zq f (
 opU Pg (storeAt 4 a (.bool false)) (OQ0 ds 4 a R) w λ w=>
 Us Pg ds [(some 4,a)] R w) (
 YS (λ g w Zo=>
 Ru c d a e g b Zo ds R w) (.int .i64 0) w)
def Zbt (c d a e:Vl) (ds:LDf) (R:RT) (w:Wd):Prop:=
 opV Pg (Instr.alloc 28 true (.tuple #[])) (OQ0 ds 4 a R) w λ b w=>
 opU Pg (storeAt 28 b e) (OQ0 ds 4 a R) w λ w=>
 opV Pg (loadAt 28 b) (OQ0 ds 4 a R) w λ f w=>
 Yt Pg 35 #[f] (OQ0 ds 4 a R) w λ g w=>
 Zbs c d a b g ds R w
def Rv (a:Vl) (ds:LDf) (R:RT) (w:Wd):Prop:=
 Yt Pg 34 #[] (OQ0 ds 4 a R) w λ b w=>
 opU Pg (storeAt 4 a b) (OQ0 ds 4 a R) w λ w=>
 Us Pg ds [(some 4,a)] R w
def Zbu (b c a:Vl) (ds:LDf) (R:RT) (w:Wd):Prop:=
 opV Pg (loadAt 28 b) (OQ0 ds 4 a R) w λ d w=>
 Yt Pg 28 #[d] (OQ0 ds 4 a R) w λ e w=>
 Zbt b c a e ds R w
def n6 (c d:Vl) (R:RT) (w:Wd):Prop:=
 (λ (ds:LDf)=>
 opV Pg (Instr.box 28 c) (ZP Pg ds [(some 4,undef)] R) w λ b w=>
 opV Pg (Instr.box 3 d) (ZP Pg ds [(some 4,undef)] R) w λ e w=>
 opV Pg (Instr.alloc 4 true (.tuple #[])) (ZP Pg ds [(some 4,undef)] R) w λ a w=>
 opV Pg (loadAt 28 b) (OQ0 ds 4 a R) w λ f w=>
 Yt Pg 33 #[f] (OQ0 ds 4 a R) w λ g w=>
 opV Pg (Op.unary .not g) (OQ0 ds 4 a R) w λ h w=>
 Zq h (
 Rv a ds R w) (
 Zbu b e a ds R w)) []
set_option maxHeartbeats 40000000 in
theorem n6s {t0 t1:Vl} {R:RT} {w:Wd} (h:n6 t0 t1 R w):Calls Pg 9 #[t0,t1] w R:=by
 refine yE func9 ?_
 unfold n6 at h
 dsimp only at h
 refine zs<|zr<|yv h λ _ w h=>yv h λ _ w h=>yv h λ _ w h=>zn<|zk<|zs<|zs<|zr<|yv h λ _ w h=>yc h c33 λ _ w h=>yv h λ _ w h=>zn<|zk ?_
 refine yC h (λ h=>zs<|zr<|yc h c34 λ _ w h=>yu h λ w h=>zn<|zk<|Ze<|Zb<|Y9 rfl h) λ h=>Zi<|zk<|zs<|zr<|yv h λ _ w h=>yc h c28 λ _ w h=>yv h λ _ w h=>yu h λ w h=>zn<|zk<|zs<|zr<|yv h λ _ w h=>?_
 refine yc h c35 λ _ w h=>zm<|zn<|zk<|zs<|zs<|zr<|zm<|yb h λ _ w h=>zn<|zk<|yC h (λ h=>zs<|zr<|yu h λ w h=>zn<|zk<|Ze<|Zb<|Y9 rfl h) λ h=>Zi<|zk ?_
 refine zs<|zs<|zr<|zm<|zn<|zk<|Zj<|yl1 [7,8,25,26,27,28,29,30,31,32,33,34,35,36,37,38,39,40,41,42,43,44,45,46,47,48,49,50,51,52,53,54,55,56] 7 h λ σ w next h=>zs<|zs<|zr<|zm<|yv h λ _ w h=>yv h λ _ w h=>yx h λ _ w h=>?_
 refine yb h λ _ w h=>zn<|zk<|yC h (λ h=>?_) λ h=>?_
 · refine Zi<|zk<|zs<|Zj<|zs<|zr<|yv h λ _ w h=>yv h λ _ w h=>zm<|yv h λ _ w h=>yv h λ _ w h=>yu h λ w h=>zn<|zk<|zs ?_
   refine zr<|zm<|zn<|zk<|Zj<|yl1 [8,37,38,39,40,41,42,43,44,45,46,47,48,49,50,51,52,53,54,55,56] 8 h λ σ w next h=>zs<|zs<|zr<|zm<|yv h λ _ w h=>yv h λ _ w h=>zm<|yv h λ _ w h=>yv h λ _ w h=>?_
   refine yv h λ _ w h=>yx h λ _ w h=>yb h λ _ w h=>zn<|zk<|yC h (λ h=>?_) λ h=>?_
   · refine Zi<|zk<|zs<|Zj<|zr<|yv h λ _ w h=>yv h λ _ w h=>zm<|yv h λ _ w h=>yv h λ _ w h=>yv h λ _ w h=>zm<|yB h λ _ w h=>yv h λ _ w h=>yu h λ w h=>?_
     exact zn<|Zg<|zk<|zr<|zm<|yb h λ _ w h=>zm<|zn<|zk<|⟨rfl,h⟩
   exact ZA<|Zc<|Zc<|Zp<|Zg<|zk<|zr<|zm<|yb h λ _ w h=>zm<|zn<|zk<|⟨rfl,h⟩
 refine ZA<|Zc<|Zc<|Zp<|zk<|zs<|zr<|yv h λ _ w h=>zn<|zk<|zs<|zr<|yv h λ _ w h=>zn<|zk ?_
 refine zs<|zs<|zr<|yv h λ _ w h=>yc h c22 λ _ w h=>zn<|zk<|yJ0 [59,60,61,62] h (λ _ _ hkK3 h=>?_) λ σ w h=>?_
 · refine yC h (λ h=>?_) λ h=>?_
   · refine yh [59,60,61,62] h λ C hC h=>ye 0 hC h λ _ h=>?_
     refine ye 2 hC h λ _ h=>?_
     refine yo 1 ?_
     refine yc h c23 λ _ w h=>zn ?_
     obtain ⟨hC,h⟩:=h
     refine ⟨hC,?_⟩
     refine yo 3 ?_
     refine yc h c36 λ _ w h=>zn ?_
     obtain ⟨hC,h⟩:=h
     refine ⟨hC,?_⟩
     refine yq 4 2 ?_
     refine yu h λ w h=>zn ?_
     obtain ⟨C19,hC,h⟩:=h
     refine ⟨C19,hC,?_⟩
     refine yq 5 1 ?_
     refine yu h λ w h=>zn ?_
     obtain ⟨C20,hC,h⟩:=h
     refine ⟨C20,hC,?_⟩
     refine yz<|zk ?_
     exact zt hkK3 h
   refine Zi<|zk ?_
   exact zt hkK3 h
 refine zk<|zs<|zs<|zr<|yv h λ _ w h=>yu h λ w h=>zn<|zk<|Zj<|yL1 [11,12,63,64,65,66,67,100,101,102,103,104,105,106,107,108,109,110,111,112,113,114,115,116,117,118,119,120,121] 11 h λ σ ds w next h=>zs<|zs<|zr<|yv h λ _ w h=>yb h λ _ w h=>?_
 refine zn<|zk<|yC h (λ h=>?_) λ h=>?_
 · refine Zi<|zk<|zs<|Zj<|zs<|zr<|yv h λ _ w h=>yu h λ w h=>zn<|zk<|zs<|zs<|zr<|zm<|zn ?_
   refine zk<|Zj<|IX [.ret,.exit 6] h rfl (λ l5 t68 t69 w Kr5 Xr5 Qr5 h=>?_) (λ ds w h=>?_) (λ c ds w h=>?_) (λ ch ds w h=>Ql rfl h)
   · refine zs<|zr<|zm<|zn<|zk<|zr<|yv h λ _ w h=>yu h λ w h=>zn<|zk ?_
     obtain ⟨hr,h⟩:=h
     refine ⟨rfl,hr,λ w hb=>?_⟩
     have h:=h w hb
     refine Zj<|zs<|zs<|yh [70,71,72,73,74,75,76,77,78,79,80,81,82,83,84,85,86,87,88,89,90] h λ C hC h=>ye 0 hC h λ _ h=>?_
     refine ye 1 hC h λ _ h=>?_
     refine ye 2 hC h λ _ h=>?_
     refine ye 3 hC h λ _ h=>?_
     refine yw 4 hC ?_
     refine yj1 10 [10,9,8,7,6,5,4,3,2,1,0] [75,76,77,78,79,80] 80 h (λ _ hT hb h=>?_) (λ _ hT hb h=>?_) λ σ w hC h=>?_
     · refine yw 5 hC ?_
       refine ye 6 hC h λ _ h=>?_
       refine ye 7 hC h λ _ h=>?_
       refine ye 8 hC h λ _ h=>?_
       refine ye 9 hC h λ _ h=>?_
       refine ye 10 hC h λ _ h=>?_
       exact yt hT hC h
     · refine yi 5 hC ?_
       refine yi 6 hC ?_
       refine yi 7 hC ?_
       refine yi 8 hC ?_
       refine yi 9 hC ?_
       refine yi 10 hC ?_
       exact yt hT hC h
     refine yP 11 hC h λ _ h=>?_
     refine yw 12 hC ?_
     refine yj1 1 [19,18,17,16,15,14,13,12,11,10,9,8,7,6,5,4,3,2,1,0] [83,84,85,86,87,88,89] 89 h (λ _ hT hb h=>?_) (λ _ hT hb h=>?_) λ σ w hC h=>?_
     · refine ye 13 hC h λ _ h=>?_
       refine ye 14 hC h λ _ h=>?_
       refine yw 15 hC ?_
       refine ye 16 hC h λ _ h=>?_
       refine ye 17 hC h λ _ h=>?_
       refine yo 18 ?_
       refine yc h c37 λ _ w h=>zn ?_
       obtain ⟨hC,h⟩:=h
       refine ⟨hC,?_⟩
       refine ye 19 hC h λ _ h=>?_
       exact yt hT hC h
     · refine yi 13 hC ?_
       refine yi 14 hC ?_
       refine yi 15 hC ?_
       refine yi 16 hC ?_
       refine yi 17 hC ?_
       refine yi 18 hC ?_
       refine yi 19 hC ?_
       exact yt hT hC h
     refine yP 20 hC h λ _ h=>?_
     refine yz<|zk<|yC h (λ h=>zs<|zr<|yu h λ w h=>zn<|zk<|Ze<|Zb<|Zf<|⟨rfl,0,rfl,h⟩) λ h=>Zi<|zk<|zs<|zr<|yv h λ _ w h=>yb h λ _ w h=>yu h λ w h=>zn<|zk<|zs<|Zu ?_
     refine yG 3<|yv h λ _ w h=>yb h λ _ w h=>zm<|zn<|yg1 3 2 true [96,97,98] 98 h (λ _ T hT h=>?_) λ σ w h=>?_
     · refine yv h λ _ w h=>yv h λ _ w h=>yb h λ _ w h=>zn ?_
       exact zt hT h
     exact yG 1<|yp h λ _ h=>zn<|ZQ<|zk<|yC h (λ h=>ZA<|Gd rfl<|⟨rfl,1,rfl,h⟩) λ h=>Zi<|Zg<|⟨rfl,h⟩
   · refine Zg<|zk<|zs<|Zu<|yG 3<|yv h λ _ w h=>yb h λ _ w h=>zm<|zn<|yg1 7 2 true [103,104,105,106,107,108,109] 109 h (λ _ T hT h=>?_) λ σ w h=>?_
     · refine yv h λ _ w h=>yv h λ _ w h=>yx h λ _ w h=>yv h λ _ w h=>yx h λ _ w h=>yx h λ _ w h=>yb h λ _ w h=>zn ?_
       exact zt hT h
     refine yG 2<|yp h λ _ h=>zm<|zn<|yg1 3 11 false [112,113,114] 114 h (λ _ T hT h=>?_) λ σ w h=>?_
     · refine yv h λ _ w h=>yb h λ _ w h=>zm<|zn ?_
       exact zt hT h
     refine yg1 4 14 true [115,116,117,118] 118 h (λ _ T hT h=>?_) λ σ w h=>?_
     · refine yv h λ _ w h=>yv h λ _ w h=>yx h λ _ w h=>yb h λ _ w h=>zn ?_
       exact zt hT h
     refine yg1 1 11 false [119] 119 h (λ _ T hT h=>?_) λ σ w h=>?_
     · refine yp h λ _ h=>zn ?_
       exact zt hT h
     refine yG 1<|yp h λ _ h=>zn<|ZQ<|zk<|yC h (λ h=>zs<|zr<|yu h λ w h=>zn<|zk<|Ze<|Zf<|Zb<|Zb<|Zf<|Zb<|Y9 rfl h) λ h=>Zi<|Zg<|zk<|zs<|zs<|zr<|yv h λ _ w h=>zn ?_
     exact zk<|zr<|yv h λ _ w h=>yu h λ w h=>zn<|zk<|zr<|yv h λ _ w h=>yb h λ _ w h=>yu h λ w h=>zn<|zk<|h
   rcases c with _ | c
   · refine ⟨_,rfl,.inl ⟨rfl,?_⟩⟩
     exact Zf<|Zb<|Zf<|Zb<|Zb<|Zf<|Zb<|Y9 rfl h
   rcases c with _ | c
   · refine ⟨_,rfl,.inr ⟨_,rfl,?_⟩⟩
     refine Zp<|zk<|zs<|Zu<|yG 3<|yv h λ _ w h=>yb h λ _ w h=>zm<|zn<|yg1 7 2 true [103,104,105,106,107,108,109] 109 h (λ _ T hT h=>?_) λ σ w h=>?_
     · refine yv h λ _ w h=>yv h λ _ w h=>yx h λ _ w h=>yv h λ _ w h=>yx h λ _ w h=>yx h λ _ w h=>yb h λ _ w h=>zn ?_
       exact zt hT h
     refine yG 2<|yp h λ _ h=>zm<|zn<|yg1 3 11 false [112,113,114] 114 h (λ _ T hT h=>?_) λ σ w h=>?_
     · refine yv h λ _ w h=>yb h λ _ w h=>zm<|zn ?_
       exact zt hT h
     refine yg1 4 14 true [115,116,117,118] 118 h (λ _ T hT h=>?_) λ σ w h=>?_
     · refine yv h λ _ w h=>yv h λ _ w h=>yx h λ _ w h=>yb h λ _ w h=>zn ?_
       exact zt hT h
     refine yg1 1 11 false [119] 119 h (λ _ T hT h=>?_) λ σ w h=>?_
     · refine yp h λ _ h=>zn ?_
       exact zt hT h
     refine yG 1<|yp h λ _ h=>zn<|ZQ<|zk<|yC h (λ h=>zs<|zr<|yu h λ w h=>zn<|zk<|Ze<|Zf<|Zb<|Zb<|Zf<|Zb<|Y9 rfl h) λ h=>Zi<|Zg<|zk<|zs<|zs<|zr<|yv h λ _ w h=>zn ?_
     exact zk<|zr<|yv h λ _ w h=>yu h λ w h=>zn<|zk<|zr<|yv h λ _ w h=>yb h λ _ w h=>yu h λ w h=>zn<|zk<|h
   exact h.elim
 exact ZA<|Zc<|Zc<|Zp<|zk<|zs<|zr<|yc h c34 λ _ w h=>yu h λ w h=>zn<|zk<|Ze<|Y9 rfl h
section
variable {R:RT}
def Hg (a:Vl) (w:Wd):Nat:=match a with
 | .pointer (some p)=>(match w.cell? p with
  | some (.int _ t)=>(2 - t).toNat
  | _=>0)
 | _=>0
theorem I2 {w2:Wd} {pm p4 p9 p11 p12:Nat} {many:Int} {t k n:Nat} {A:Option Addr} {cc:Nat} {ds:LDf} {YI:LDf→Vl→Wd→Prop} (xm:w2.heap[pm]?=some (.cells #[.int .i64 many] 3 (0,0))) (x9:w2.heap[p9]?=some (.cells #[.slice A n cc] 30 (0,0))) (y11:w2.heap[p11]?=some (.cells #[.int .i64 (t:Int)] 3 (0,0))) (y12:w2.heap[p12]?=some (.cells #[.int .i64 (k:Int)] 3 (0,0)))
 (ht:t < 2) (h0:t=0→(k:Int)=min (n:Int) (max 1 many)) (h1:t=1→k=n) (hn:∀ w',w2.heap.size < w'.heap.size→w'.heap[w2.heap.size]?=some (.cells #[.int .i64 ((t+1:Nat):Int)] 3 (0,0))→Ext w2 w'→YI ds (.pointer (some ⟨w2.heap.size,0,none⟩)) w') :
 Rl (.pointer (some ⟨pm,0,none⟩)) (.pointer (some ⟨p4,0,none⟩)) (.pointer (some ⟨p9,0,none⟩)) (.pointer (some ⟨p11,0,none⟩)) (.pointer (some ⟨p12,0,none⟩)) YI ds R w2:=by
 have fin:Zb5 (.pointer (some ⟨p4,0,none⟩)) (.pointer (some ⟨p11,0,none⟩)) YI ds R w2:=by
  unfold Zb5
  simp (disch:=try exact DI) only [↓PR,QR,simprocAttr,(Za y11).1]
  exact hn _ (by simp only [World.size_alloc];omega) (by simpa using ZG w2 #[.int .i64 ((t+1:Nat):Int)] 3) ee
 unfold Rl
 have ET:t=0∨t=1:=by omega
 rcases ET with rfl | rfl
 · have hm:(if (if many > 1 then many else 1) < (n:Int) then (if many > 1 then many else 1) else (n:Int))=(k:Int):=by
    rw [h0 rfl]
    split<;>split<;>omega
   have d0:((((0:Nat):Int)) == 0)=true:=rfl
   have d1:((((0:Nat):Int)) == 1)=false:=rfl
   have dk:((k:Int) != (k:Int))=false:=by simp
   simp (disch:=try exact DI) only [↓PR,QR,simprocAttr,(Za y11).1,d0,(Za y12).1,(Za x9).1,(Za xm).1,hm,dk,d1,↓Zbj,↓Rj,↓Ri,↓Zb7,↓Zb6]
   exact fin
 · have d0:((((1:Nat):Int)) == 0)=false:=rfl
   have d1:((((1:Nat):Int)) == 1)=true:=rfl
   have dk:((k:Int) != (n:Int))=false:=by rw [h1 rfl];simp
   simp (disch:=try exact DI) only [↓PR,QR,simprocAttr,(Za y11).1,d0,d1,(Za y12).1,(Za x9).1,dk,↓Rj,↓Ri,↓Zb7,↓Zb6]
   exact fin
theorem I3 {w2:Wd} {pm p4 p9 p11 p12:Nat} {many:Int} {t k n:Nat} {A:Option Addr} {cc:Nat} {ds:LDf} {YI:LDf→Vl→Wd→Prop} (xm:w2.heap[pm]?=some (.cells #[.int .i64 many] 3 (0,0))) (x9:w2.heap[p9]?=some (.cells #[.slice A n cc] 30 (0,0))) (y11:w2.heap[p11]?=some (.cells #[.int .i64 (t:Int)] 3 (0,0))) (y12:w2.heap[p12]?=some (.cells #[.int .i64 (k:Int)] 3 (0,0)))
 (ht:t < 2) (h0:t=0→(k:Int)=min (n:Int) (max 1 many)) (h1:t=1→k=n) (hn:∀ w',w2.heap.size < w'.heap.size→w'.heap[w2.heap.size]?=some (.cells #[.int .i64 ((t+1:Nat):Int)] 3 (0,0))→Ext w2 w'→YI ds (.pointer (some ⟨w2.heap.size,0,none⟩)) w') :
 Rr (.pointer (some ⟨pm,0,none⟩)) (.pointer (some ⟨p4,0,none⟩)) (.pointer (some ⟨p9,0,none⟩)) (.pointer (some ⟨p11,0,none⟩)) (.pointer (some ⟨p12,0,none⟩)) YI ds R w2:=by
 have fin:Rm (.pointer (some ⟨p4,0,none⟩)) (.pointer (some ⟨p11,0,none⟩)) YI ds R w2:=by
  unfold Rm
  simp (disch:=try exact DI) only [↓PR,QR,simprocAttr,(Za y11).1]
  exact hn _ (by simp only [World.size_alloc];omega) (by simpa using ZG w2 #[.int .i64 ((t+1:Nat):Int)] 3) ee
 unfold Rr
 have ET:t=0∨t=1:=by omega
 rcases ET with rfl | rfl
 · have hm:(if (if many > 1 then many else 1) < (n:Int) then (if many > 1 then many else 1) else (n:Int))=(k:Int):=by
    rw [h0 rfl]
    split<;>split<;>omega
   have d0:((((0:Nat):Int)) == 0)=true:=rfl
   have d1:((((0:Nat):Int)) == 1)=false:=rfl
   have dk:((k:Int) != (k:Int))=false:=by simp
   simp (disch:=try exact DI) only [↓PR,QR,simprocAttr,(Za y11).1,d0,(Za y12).1,(Za x9).1,(Za xm).1,hm,dk,d1,↓Zbk,↓Rq,↓Rp,↓Ro,↓Rn]
   exact fin
 · have d0:((((1:Nat):Int)) == 0)=false:=rfl
   have d1:((((1:Nat):Int)) == 1)=true:=rfl
   have dk:((k:Int) != (n:Int))=false:=by rw [h1 rfl];simp
   simp (disch:=try exact DI) only [↓PR,QR,simprocAttr,(Za y11).1,d0,d1,(Za y12).1,(Za x9).1,dk,↓Rq,↓Rp,↓Ro,↓Rn]
   exact fin
end
theorem BA {w0 w1 U:Wd} {d:YQ} {L:List Int} {lo p3 p5 pm p4 p9 p10:Nat} {many:Int} {lv sv:Vl} (hI:ZbJ U lo p3 p5 d L) (hl:L.length≤1000) (hU:WQ lo U.heap.size U w1) (xm:w1.heap[pm]?=some (.cells #[.int .i64 many] 3 (0,0))) (x4:w1.heap[p4]?=some (.cells #[.bool false] 4 (0,0))) (h4:w0.heap.size≤p4)
 (x9:w1.heap[p9]?=some (.cells #[lv] 30 (0,0))) (hL1:Zd w1 1 Mp lv L) (x10:w1.heap[p10]?=some (.cells #[sv] 71 (0,0))) (hS:L≠[]→qv w1 sv (ZK d.msgs)) (hsp:L≠[]→∀ (i:Nat) (m:ZC),d.msgs[i]?=some m→(ZK d.msgs)[i]?=some (m.name,WT d i)) (E1:Ext w0 w1) :
 Rs (.pointer (some ⟨pm,0,none⟩)) (.pointer (some ⟨p4,0,none⟩)) (.pointer (some ⟨p9,0,none⟩)) (.pointer (some ⟨p10,0,none⟩)) (.func (.func 79) #[] #[.pointer (some ⟨p3,0,none⟩),.pointer (some ⟨p5,0,none⟩)]) [] (ZO λ r w'=>r = .bool true∧Ext w0 w') w1:=by
 obtain ⟨A,cc,rfl,hlc,hcm,hlm,Y3⟩:=Zd.open hL1
 unfold Rs
 simp (disch:=try exact DI) only [↓PR,QR,simprocAttr]
 have l4:=(Array.getElem?_eq_some_iff.1 x4).1
 have oT:=ZG w1 #[.int .i64 0] 3
 have eX:Ext w1 (w1.alloc (Obj.cells #[.int .i64 0] 3)):=ee
 generalize (w1.alloc (Obj.cells #[.int .i64 0] 3))=X at oT eX ⊢
 refine Dv (λ ds a w'=>∃ (p11:Nat) (t:Nat),a = .pointer (some ⟨p11,0,none⟩)∧t≤2∧w1.heap.size≤p11∧w'.heap[p11]?=some (.cells #[.int .i64 (t:Int)] 3 (0,0))∧Ext w1 w'∧(∃ bs:List Nat,ds=bs.map Sw.mark∧bs.Nodup∧∀ b∈bs,ZR b w'∧w1.heap.size≤b)) Hg ⟨w1.heap.size,0,rfl,by omega,Nat.le_refl _,oT,eX,[],rfl,by simp,by simp⟩ ?_
 rintro ds _ w2 ⟨p11,t,rfl,ht2,hp11,y11,e2,bs,rfl,hnd,hbs⟩
 have hcw:∀ (w':Wd) (p u:Nat),w'.heap[p]?=some (.cells #[.int .i64 (u:Int)] 3 (0,0))→Hg (.pointer (some ⟨p,0,none⟩)) w'=2 - u:=by
  intro w' p u h
  unfold Hg
  simp only
  rw [(Za h).1 0]
  show ((2:Int) - (u:Int)).toNat=2 - u
  omega
 unfold Zbn
 by_cases ht:t < 2
 · have dt:decide ((t:Int) < 2)=true:=by simp;omega
   simp (disch:=try exact DI) only [↓PR,QR,simprocAttr,(Za y11).1,dt]
   unfold Zbm
   simp (disch:=try exact DI) only [↓PR,QR,simprocAttr]
   have l11:p11 < w2.heap.size:=(Array.getElem?_eq_some_iff.1 y11).1
   have eB:Ext w2 (w2.alloc (Obj.cells #[.int .i64 0] 3)):=ee
   have o12:=ZG w2 #[.int .i64 0] 3
   have hs3:(w2.alloc (Obj.cells #[.int .i64 0] 3)).heap.size=w2.heap.size+1:=by simp only [World.size_alloc]
   generalize hp12:w2.heap.size=p12 at o12 hs3 ⊢
   generalize (w2.alloc (Obj.cells #[.int .i64 0] 3))=w3 at eB o12 hs3 ⊢
   have s2:=e2.size
   let I:Nat→Wd→Prop:=λ k w'=>Ext w1 w'∧(∀ b∈bs,ZR b w')∧w'.heap[p11]?=some (.cells #[.int .i64 (t:Int)] 3 (0,0))∧w'.heap[p12]?=some (.cells #[.int .i64 (k:Int)] 3 (0,0))∧(t=0→k=0∨(k:Int) < many)
   let Ix:Nat→Wd→Prop:=λ c w'=>c=1∧Ext w1 w'∧(∀ b∈bs,ZR b w')∧w'.heap[p11]?=some (.cells #[.int .i64 (t:Int)] 3 (0,0))∧∃ k:Nat,w'.heap[p12]?=some (.cells #[.int .i64 (k:Int)] 3 (0,0))∧t=0∧(k:Int)=min (L.length:Int) (max 1 many)
   have hmk:Yo w3.heap.size (λ w=>∀ b∈bs,ZR b w):=Dt λ b hb=>by have:=(Array.getElem?_eq_some_iff.1 (hbs b hb).1).1;omega
   have hLI:∀ k,Yo w3.heap.size (I k):=λ k=>(Yo.from (by omega)).and (hmk.and ((Yo.has _ (by simp) (by simp)).and ((Yo.has _ (by simp) (by simp)).and (Yo.const _ _))))
   have hLX:∀ k,Yo w3.heap.size (Ix k):=λ k=>(Yo.const _ _).and ((Yo.from (by omega)).and (hmk.and ((Yo.has _ (by simp) (by simp)).and (.ex λ k=>(Yo.has _ (by simp) (by simp)).and (Yo.const _ _)))))
   have hfin:∀ (w4:Wd),Ext w1 w4→(∀ b∈bs,ZR b w4)→ZR w3.heap.size w4→∀ w5,w4.heap.size < w5.heap.size→w5.heap[w4.heap.size]?=some (.cells #[.int .i64 ((t+1:Nat):Int)] 3 (0,0))→Ext w4 w5 →
    (∃ (p11:Nat) (t':Nat),Value.pointer (some ⟨w4.heap.size,0,none⟩) = .pointer (some ⟨p11,0,none⟩)∧t'≤2∧w1.heap.size≤p11∧w5.heap[p11]?=some (.cells #[.int .i64 (t':Int)] 3 (0,0))∧Ext w1 w5∧(∃ bs':List Nat,(Sw.mark w3.heap.size::bs.map Sw.mark)=bs'.map Sw.mark∧bs'.Nodup∧∀ b∈bs',ZR b w5∧w1.heap.size≤b)) ∧
    Hg (.pointer (some ⟨w4.heap.size,0,none⟩)) w5 < Hg (.pointer (some ⟨p11,0,none⟩)) w2:=by
    intro w4 e4 hm4 hmk w5 hlt5 h5 e5
    have s4:=e4.size
    refine ⟨⟨w4.heap.size,t+1,rfl,by omega,by omega,h5,e4.trans e5,w3.heap.size::bs,rfl,List.nodup_cons.2 ⟨λ hin=>?_,hnd⟩,λ b hb=>?_⟩,?_⟩
    · have:=(Array.getElem?_eq_some_iff.1 (hbs _ hin).1).1
      omega
    · rcases List.mem_cons.1 hb with rfl | hb
      · exact ⟨hmk.ext e5,by omega⟩
      · exact ⟨(hm4 b hb).ext e5,(hbs b hb).2⟩
    · rw [hcw w5 _ (t+1) h5,hcw w2 p11 t y11];omega
   refine ⟨_,_,L.length,Ck L,CV d L,WQ lo U.heap.size U,I,Ix,λ _ _=>False,rfl,c79,Mu hI hl,⟨e2.trans eB,λ b hb=>(hbs b hb).1.ext eB,eB.obj y11,o12,λ _ => .inl rfl⟩,λ k w' h=>hU.ext (Nat.le_refl _) h.1,λ c w' h=>hU.ext (Nat.le_refl _) h.2.1,hLI,hLX,λ _=>Yo.const _ _,?_,?_,?_,?_⟩
   · intro Rk hRk j w4 hj hI4 hR4 Yv hready
     obtain ⟨x,hx⟩:=getElem?_lt hj
     obtain ⟨i,rfl,hil⟩:=hI.low x (List.mem_of_getElem? hx)
     rw [show Ck L j = .int .i64 (i:Int) by unfold Ck;rw [hx],show CV d L j=Zv (WT d i).1 (WT d i).2 by unfold CV;rw [hx]]
     unfold ZfO
     simp (disch:=try exact DI) only [↓PR,QR,simprocAttr]
     have eA:Ext w4 (w4.alloc (.cells #[.int .i64 (WT d i).1,.int .i64 (WT d i).2] 74)):=ee
     have oA:=ZG w4 #[.int .i64 (WT d i).1,.int .i64 (WT d i).2] 74
     generalize (w4.alloc (.cells #[.int .i64 (WT d i).1,.int .i64 (WT d i).2] 74))=Z at eA oA ⊢
     generalize w4.heap.size=p14 at oA ⊢
     refine ⟨by obtain ⟨r,h1,h2⟩:=hready;exact ⟨r,eA.obj h1,h2⟩,λ w5 hbz=>?_⟩
     have hR5:=hRk _ _ (KR.busied hbz) (hRk _ _ (KR.of eA) hR4)
     obtain ⟨e5,hm5,q11,q12,hjm⟩:=(hLI j).busied hbz (Nat.le_succ _) ((hLI j).ext hI4 eA)
     have qA:w5.heap[p14]?=some (.cells #[.int .i64 (WT d i).1,.int .i64 (WT d i).2] 74 (0,0)):=(Yo.has w3.heap.size (by simp) (by simp)).busied hbz (Nat.le_succ _) oA
     have eD:Ext w5 w5.drew:=(Ext.refl w5).wdrew
     refine Zy ?_
     obtain ⟨b,o,cs,rfl,_,hE,rfl⟩:=Y3 j _ hx
     obtain ⟨m,hm⟩:=getElem?_lt hil
     have Xv:L≠[]:=by rintro rfl;simp at hj
     obtain ⟨As,cS,rfl,_,_,hlms,hels⟩:=Zd.open (hS Xv)
     obtain ⟨bS,oS,csS,rfl,_,hES,rfl⟩:=hels i _ (hsp Xv i m hm)
     have hil2:i < (ZK d.msgs).length:=(List.getElem?_eq_some_iff.1 (hsp Xv i m hm)).1
     have MU:decide ((j:Int)≥(L.length:Int))=false:=decide_eq_false (by omega)
     have hjj:((i:Int) != (i:Int))=false:=by simp
     have ex:w5.cell? ⟨b,o+j,none⟩=some (.int .i64 (i:Int)):=by have:=hE.c1 e5;simpa using this
     unfold ZfN
     simp (disch:=try exact DI) only [↓PR,QR,simprocAttr,(Za q12).1,(Za (e5.obj x9)).1,MU,ex,hjj,Nat.mul_one]
     unfold ZfM
     simp (disch:=try exact DI) only [↓PR,QR,simprocAttr,(Za qA).1,(Za (e5.obj x10)).1,hES.c2 e5]
     refine zcr (Nv _ _ _) λ w6 e6=>?_
     refine ⟨e6,?_⟩
     have g6:=eD.trans e6
     have e16:=e5.trans g6
     have hR6:=hRk _ _ (KR.of g6) hR5
     have v12:=g6.obj q12
     have v11:=g6.obj q11
     have hm6:∀ b∈bs,ZR b w6:=λ b hb=>(hm5 b hb).ext g6
     simp (disch:=try exact DI) only [↓PR,QR,simprocAttr]
     unfold ZfL
     have hw:IntKind.i64.wrap ((j:Int)+1)=((j+1:Nat):Int):=by rw [Z0 (by omega) (by omega)];omega
     have r12:(w6.setCell ⟨p12,0,none⟩ (.int .i64 ((j+1:Nat):Int))).heap[p12]?=some (.cells #[.int .i64 ((j+1:Nat):Int)] 3 (0,0)):=by simpa using ZE (o:=0) v12 (.int .i64 ((j+1:Nat):Int))
     have r11:=(YY.setCell w6 p12 0 (.int .i64 ((j+1:Nat):Int)) p11 (by omega)).trans v11
     have e7:Ext w1 (w6.setCell ⟨p12,0,none⟩ (.int .i64 ((j+1:Nat):Int))):=e16.setCell (by show w1.heap.size≤p12;omega) _
     have hm7:∀ b∈bs,ZR b (w6.setCell ⟨p12,0,none⟩ (.int .i64 ((j+1:Nat):Int))):=λ b hb=>(hm6 b hb).setCell _ _
     have hR7:=hRk _ _ (KR.setCell (KR.refl _ w6) p12 0 (.int .i64 ((j+1:Nat):Int)) (.inl (by omega))) hR6
     have xm':=e7.obj xm
     have ET:t=0∨t=1:=by omega
     rcases ET with ht0 | ht1
     · have d0:((t:Int) == 0)=true:=by rw [ht0];rfl
       by_cases hmy:((j+1:Nat):Int)≥many
       · have dm:decide (((j+1:Nat):Int)≥many)=true:=by simpa using hmy
         simp (disch:=try exact DI) only [↓PR,QR,simprocAttr,(Za v12).1,(Za v12).2,hw,(Za r11).1,(Za v11).1,d0,(Za r12).1,(Za xm').1,(Za (e16.obj xm)).1,dm]
         refine ⟨hR7,rfl,e7,hm7,r11,j+1,r12,ht0,?_⟩
         have:=hjm ht0
         omega
       · have dm:decide (((j+1:Nat):Int)≥many)=false:=by simpa using hmy
         simp (disch:=try exact DI) only [↓PR,QR,simprocAttr,(Za v12).1,(Za v12).2,hw,(Za r11).1,(Za v11).1,d0,(Za r12).1,(Za xm').1,(Za (e16.obj xm)).1,dm]
         exact ⟨hR7,e7,hm7,r11,r12,λ _ => .inr (by omega)⟩
     · have d0:((t:Int) == 0)=false:=by rw [ht1];rfl
       simp (disch:=try exact DI) only [↓PR,QR,simprocAttr,(Za v12).1,(Za v12).2,hw,(Za r11).1,(Za v11).1,d0]
       exact ⟨hR7,e7,hm7,r11,r12,λ h=>by omega⟩
   · rintro w4 ⟨e4,hm4,q11,q12,hjm⟩ hmk
     exact I2 (e4.obj xm) (e4.obj x9) q11 q12 ht (λ h=>by have:=hjm h;omega) (λ _=>rfl) (hfin w4 e4 hm4 hmk)
   · rintro c w4 ⟨rfl,e4,hm4,q11,k,q12,ht0,hk⟩ hmk
     exact I3 (e4.obj xm) (e4.obj x9) q11 q12 ht (λ _=>hk) (λ h=>by omega) (hfin w4 e4 hm4 hmk)
   · rintro ch w4 h
     exact h.elim
 · have dt:decide ((t:Int) < 2)=false:=by simp;omega
   have q4:=e2.obj x4
   simp (disch:=try exact DI) only [↓PR,QR,simprocAttr,(Za y11).1,dt,↓Zbl]
   refine zcr (qL _) λ w6 e6=>?_
   have z4:=e6.obj q4
   simp (disch:=try exact DI) only [↓PR,QR,simprocAttr,(Za z4).1,(Za z4).2]
   have r4:(w6.setCell ⟨p4,0,none⟩ (.bool true)).heap[p4]?=some (.cells #[.bool true] 4 (0,0)):=by simpa using ZE (o:=0) z4 (.bool true)
   refine Bk (w0:=w0) hnd (λ b hb=>⟨((hbs b hb).1.ext e6).setCell _ _,by have:=(hbs b hb).2;have:=E1.size;omega⟩) ((E1.trans (e2.trans e6)).setCell (p:=⟨p4,0,none⟩) (by exact h4) _) (λ w' e' hh=>?_)
   have z8:=hh _ _ Oh r4
   simp (disch:=try exact DI) only [↓PR,QR,simprocAttr,WW,qp,Qo,(Za z8).1]
   exact ⟨by trivial,e'⟩
theorem ZbF {b:Nat} {T:TypeId} {fr:Nat×Nat}:∀ (vs:List Vl) (o:Nat) {w:Wd} {cur:AVl},w.heap[b]?=some (.cells cur T fr)→∃ cur':AVl,(Wq w b o vs).heap[b]?=some (.cells cur' T fr)∧cur'.size=cur.size
 | [],_,_,_,h=>⟨_,h,rfl⟩
 | v::vs,o,w,cur,h=>by
  obtain ⟨cur',h1,h2⟩:=ZbF vs (o+1) (ZE (o:=o) h v)
  exact ⟨cur',h1,by rw [h2];simp⟩
theorem IU {b:Nat}:∀ (vs:List Vl) (o:Nat) (w:Wd),YY b w (Wq w b o vs)
 | [],_,_=>λ _ _=>rfl
 | v::vs,o,w=>λ g hg=>(IU vs (o+1) (w.setCell ⟨b,o,none⟩ v) g hg).trans (YY.setCell w b o v g hg)
theorem TG {P:Program} {QP:PEn} {w:Wd} {T n m:Nat} {z:Vl} {ku:WPr} (h:ZH P T true n m z) {b:Nat} {cur:AVl} {T':TypeId} (hc:w.heap[b]?=some (.cells cur T' (0,0))) (o:Nat) (vs:List Vl) (ho:o+n≤cur.size) (hn:vs.length=n) (hv:∀ v∈vs,v.oneCell'=true) :
 opU P (storeAt T (.pointer (some ⟨b,o,none⟩)) (.agg vs.toArray)) QP w ku=ku (Wq w b o vs):=by
 refine qf (u:=()) ?_
 have:=Ut (P:=P) b o vs 0 w (λ j hj=>⟨cur[o+(0+j)]'(by omega),by rw [(Za hc).1];exact Array.getElem?_eq_getElem (by omega)⟩) (λ j hj=>(Za hc).2 _) hv
 simp [storeAt,Instr.sureAddr,storeVar,Sw.run_sizeOf h,ZL,hn,this]
section
variable {lo hi B:Nat} {w w':Wd}
def ZbH (w:Wd) (lo hi B:Nat) (cv:Vl):Prop:=cv = .slice none 0 0∨∃ g len cap cur,cv = .slice (some ⟨g,0,none⟩) len cap∧lo≤g∧g < hi∧w.heap[g]?=some (.cells cur TC (0,0))∧len≤50∧∀ j,j < len→∃ s:BAr,cur[j*3+2]?=some (.string s)∧s.size≤B
def ZbI (w:Wd) (lo hi:Nat) (tv:Vl):Prop:=tv = .slice none 0 0∨∃ g len cap cur,tv = .slice (some ⟨g,0,none⟩) len cap∧lo≤g∧g < hi∧w.heap[g]?=some (.cells cur TT (0,0))∧len≤10∧∀ j,j < len→∃ n:Int,cur[j*2+1]?=some (.int .i64 n)
def NO (w:Wd) (lo hi B:Nat) (fv:Vl) (n:Nat):Prop:=(fv = .slice none 0 0∧n=0)∨∃ g cap cur,fv = .slice (some ⟨g,0,none⟩) n cap∧lo≤g∧g < hi∧w.heap[g]?=some (.cells cur TF (0,0))∧(∀ j,j < n*15→∃ u,cur[j]?=some u∧u.oneCell'=true)∧∀ k,k < n→∃ tv cv,cur[k*15+8]?=some tv∧ZbI w lo hi tv∧cur[k*15+12]?=some cv∧ZbH w lo hi B cv
def Hw (w:Wd) (lo hi B:Nat) (mv:Vl) (n:Nat):Prop:=(mv = .slice none 0 0∧n=0)∨∃ g cap cur,mv = .slice (some ⟨g,0,none⟩) n cap∧lo≤g∧g < hi∧w.heap[g]?=some (.cells cur TM (0,0))∧n*2≤cur.size∧∀ k,k < n→∃ fv nf,cur[k*2+1]?=some fv∧nf≤400∧NO w lo hi B fv nf
def Fit (T:TypeId) (o:Nat) (v:Vl) (B:Nat):Prop:=(T=TM→o % 2=0)∧(T=TF→o % 15=0∧v.oneCell'=true)∧(T=TC→o % 3=2→∃ s:BAr,v = .string s∧s.size≤B)∧(T=TT→o % 2=1∧∃ n:Int,v = .int .i64 n)
variable {b o:Nat} {v:Vl} {T:TypeId} {cur0:AVl} (hb:w.heap[b]?=some (.cells cur0 T (0,0))) {B':Nat} (hBB:B≤B') (hf:Fit T o v B')
include hb hBB hf
end
section
variable {lo hi B:Nat} {w w':Wd}
theorem F4 {w:Wd} {lo hi n:Nat} {T:TypeId} {v:Vl} {css:List (Cs n)} (h:UH w lo hi T n Subtype.val v css):(v = .slice none 0 0∧css=[])∨∃ g cap cur,v = .slice (some ⟨g,0,none⟩) css.length cap∧lo≤g∧g < hi∧w.heap[g]?=some (.cells cur T (0,0))∧css.length*n≤cur.size∧∀ (k:Nat) (cs:Cs n) (j:Nat) (u:Vl),css[k]?=some cs→cs.1[j]?=some u→cur[k*n+j]?=some u:=by
 obtain ⟨⟨h1,h2⟩,h3⟩:=h
 rcases h2 with ⟨hv,h0⟩ | ⟨g,cap,cur,hv,hb,hc,hn,_,VF,htake⟩
 · exact .inl ⟨hv,List.eq_nil_of_length_eq_zero h0⟩
 · refine .inr ⟨g,cap,cur,hv,hb,h3 g (by rw [hv];rfl),hc,by rw [VF];exact Nat.mul_le_mul_right _ hn,λ k cs j u hk hu=>?_⟩
   have:=Wl (enc:=(Subtype.val:Cs n→List Vl)) (λ x=>x.2) css k cs j u hk hu
   rw [← htake,List.getElem?_take] at this
   split at this
   · simpa using this
   · cases this
theorem Md {α:Type} {w:Wd} {lo hi n:Nat} {T:TypeId} {v:Vl} {enc:α→List Vl} {l:List α} (hn:∀ x,(enc x).length=n) (h:UH w lo hi T n enc v l):(v = .slice none 0 0∧l=[])∨∃ g cap cur,v = .slice (some ⟨g,0,none⟩) l.length cap∧lo≤g∧g < hi∧w.heap[g]?=some (.cells cur T (0,0))∧∀ (k:Nat) (x:α) (j:Nat) (u:Vl),l[k]?=some x→(enc x)[j]?=some u→cur[k*n+j]?=some u:=by
 obtain ⟨⟨h1,h2⟩,h3⟩:=h
 rcases h2 with ⟨hv,h0⟩ | ⟨g,cap,cur,hv,hb,hc,hle,_,VF,htake⟩
 · exact .inl ⟨hv,List.eq_nil_of_length_eq_zero h0⟩
 · refine .inr ⟨g,cap,cur,hv,hb,h3 g (by rw [hv];rfl),hc,λ k x j u hk hu=>?_⟩
   have:=Wl hn l k x j u hk hu
   rw [← htake,List.getElem?_take] at this
   split at this
   · simpa using this
   · cases this
def okG (B:Nat) (f:Zl):Prop:=f.cases.length≤50∧f.terms.length≤10∧∀ c∈f.cases,c.of.size≤B
theorem We.shapeG {fv:Vl} {l:List Zl} (h:We w lo hi fv l) (ht:∀ f∈l,okG B f):NO w lo hi B fv l.length:=by
 obtain ⟨css,hO,hm1,hm2⟩:=h
 rcases F4 hO with ⟨hv,h0⟩ | ⟨g,cap,cur,hv,h1,h2,h3,h4,h5⟩
 · refine .inl ⟨hv,?_⟩
   rw [h0] at hm1;exact hm1.symm
 · rw [hm1] at hv h4
   refine .inr ⟨g,cap,cur,hv,h1,h2,h3,λ j hj=>?_,λ k hk=>?_⟩
   · have hq:j / 15 < l.length:=Nat.div_lt_of_lt_mul (by rw [Nat.mul_comm];exact hj)
     obtain ⟨x,hx⟩:=getElem?_lt hq
     obtain ⟨cs,hcs⟩:=getElem?_lt (l:=css) (k:=j / 15) (by rw [hm1];exact hq)
     have hr:j % 15 < cs.1.length:=by rw [cs.2];exact Nat.mod_lt _ (by decide)
     have:=h5 (j / 15) cs (j % 15) _ hcs (List.getElem?_eq_getElem hr)
     rw [show j / 15*15+j % 15=j by omega] at this
     refine ⟨_,this,?_⟩
     obtain ⟨tv,cv,he,hT,hC⟩:=hm2 _ x cs hx hcs
     have ho:=QD.plain ⟨tv,cv,he,hT,hC⟩
     have hT1:tv.oneCell'=true:=(Yk.slice hT.1 (E:=zN) (λ _=>rfl) (λ _ _=>rfl)).oneCell
     have hC1:cv.oneCell'=true:=(Yk.slice hC.1 (E:=jO) (λ _=>rfl) (λ _ _=>rfl)).oneCell
     have xK:cs.1[j % 15]∈Zm x tv cv:=by rw [← he];exact List.getElem_mem hr
     simp only [Zm,List.mem_cons,List.not_mem_nil,or_false] at xK
     have:∀ u,(u = .string x.name∨u = .int .i64 x.kind∨u = .int .i64 x.bits∨u = .bool x.little∨u = .bool x.loose∨u = .int .i64 x.low∨u = .int .i64 x.high∨u = .int .i64 x.base∨u=tv∨u = .string x.of∨u = .string x.tag∨u = .string x.fr∨u=cv∨u = .int .i64 x.check∨u = .int .i64 x.key)→u.oneCell'=true:=by
      rintro u (rfl | rfl | rfl | rfl | rfl | rfl | rfl | rfl | rfl | rfl | rfl | rfl | rfl | rfl | rfl)<;>first | rfl | assumption
     exact this _ xK
   · obtain ⟨x,hx⟩:=getElem?_lt hk
     obtain ⟨cs,hcs⟩:=getElem?_lt (l:=css) (k:=k) (by rw [hm1];exact hk)
     obtain ⟨tv,cv,he,hT,hC⟩:=hm2 k x cs hx hcs
     have hx':=ht x (List.mem_of_getElem? hx)
     refine ⟨tv,cv,h5 k cs 8 tv hcs (by rw [he];rfl),?_,h5 k cs 12 cv hcs (by rw [he];rfl),?_⟩
     · rcases Md (enc:=λ t:Z3=>Ve t) (λ _=>rfl) hT with ⟨hv,h0⟩ | ⟨g,cap,cur,hv,h1,h2,h3,h4⟩
       · exact .inl hv
       · refine .inr ⟨g,_,cap,cur,hv,h1,h2,h3,hx'.2.1,λ j hj=>?_⟩
         obtain ⟨t,ht⟩:=getElem?_lt hj
         exact ⟨t.factor,h4 j t 1 _ ht rfl⟩
     · rcases Md (enc:=λ t:W6=>W8 t) (λ _=>rfl) hC with ⟨hv,h0⟩ | ⟨g,cap,cur,hv,h1,h2,h3,h4⟩
       · exact .inl hv
       · refine .inr ⟨g,_,cap,cur,hv,h1,h2,h3,hx'.1,λ j hj=>?_⟩
         obtain ⟨t,ht⟩:=getElem?_lt hj
         exact ⟨t.of,h4 j t 2 _ ht rfl,hx'.2.2 t (List.mem_of_getElem? ht)⟩
theorem zR.shapeM {mv:Vl} {l:List ZC} (h:zR w lo hi mv l) (ht:∀ m∈l,m.fields.length≤400∧∀ f∈m.fields,okG B f):Hw w lo hi B mv l.length:=by
 obtain ⟨css,hO,hm1,hm2⟩:=h
 rcases F4 hO with ⟨hv,h0⟩ | ⟨g,cap,cur,hv,h1,h2,h3,h4,h5⟩
 · refine .inl ⟨hv,?_⟩
   rw [h0] at hm1;exact hm1.symm
 · rw [hm1] at hv h4
   refine .inr ⟨g,cap,cur,hv,h1,h2,h3,h4,λ k hk=>?_⟩
   obtain ⟨x,hx⟩:=getElem?_lt hk
   obtain ⟨cs,hcs⟩:=getElem?_lt (l:=css) (k:=k) (by rw [hm1];exact hk)
   obtain ⟨fv,he,hF⟩:=hm2 k x cs hx hcs
   have hx':=ht x (List.mem_of_getElem? hx)
   exact ⟨fv,_,h5 k cs 1 fv hcs (by rw [he];rfl),hx'.1,hF.shapeG hx'.2⟩
end
section
variable {lo hi n:Nat} {w w' U:Wd}
def Hv (w:Wd) (lo hi:Nat) (fv:Vl) (nf:Nat):Prop:=(fv = .slice none 0 0∧nf=0)∨∃ g cap cur,fv = .slice (some ⟨g,0,none⟩) nf cap∧lo≤g∧g < hi∧w.heap[g]?=some (.cells cur TF (0,0))∧nf*15≤cur.size
def zU (w:Wd) (lo hi:Nat) (mv:Vl) (n:Nat):Prop:=(mv = .slice none 0 0∧n=0)∨∃ g cap cur,mv = .slice (some ⟨g,0,none⟩) n cap∧lo≤g∧g < hi∧w.heap[g]?=some (.cells cur TM (0,0))∧n*2≤cur.size∧∀ k,k < n→∃ fv nf,cur[k*2+1]?=some fv∧nf≤400∧Hv w lo hi fv nf
theorem Hv.turn {fv:Vl} {nf:Nat} (h:Hv w lo hi fv nf) (hk:∀ (b:Nat) (cur:AVl),w.heap[b]?=some (.cells cur TF (0,0))→∃ cur':AVl,w'.heap[b]?=some (.cells cur' TF (0,0))∧cur.size≤cur'.size):Hv w' lo hi fv nf:=by
 rcases h with h | ⟨g,cap,cur,h1,h2,h3,h4,h5⟩
 · exact .inl h
 · obtain ⟨cur',a,b⟩:=hk g cur h4
   exact .inr ⟨g,cap,cur',h1,h2,h3,a,by omega⟩
theorem zU.turn {mv:Vl} (h:zU w lo hi mv n) (hk:∀ (b:Nat) (cur:AVl),w.heap[b]?=some (.cells cur TF (0,0))→∃ cur':AVl,w'.heap[b]?=some (.cells cur' TF (0,0))∧cur.size≤cur'.size)
 (hm:∀ (b:Nat) (cur:AVl),w.heap[b]?=some (.cells cur TM (0,0))→∃ cur':AVl,w'.heap[b]?=some (.cells cur' TM (0,0))∧cur.size≤cur'.size∧∀ k,cur'[k*2+1]?=cur[k*2+1]?):zU w' lo hi mv n:=by
 rcases h with h | ⟨g,cap,cur,h1,h2,h3,h4,h5,h6⟩
 · exact .inl h
 · obtain ⟨cur',a,b,c⟩:=hm g cur h4
   refine .inr ⟨g,cap,cur',h1,h2,h3,a,by omega,λ k hk'=>?_⟩
   obtain ⟨fv,nf,d1,d2,d3⟩:=h6 k hk'
   exact ⟨fv,nf,by rw [c];exact d1,d2,d3.turn hk⟩
theorem Hw.rows {B:Nat} {mv:Vl} (h:Hw w lo hi B mv n):zU w lo hi mv n:=by
 rcases h with h | ⟨g,cap,cur,h1,h2,h3,h4,h5,h6⟩
 · exact .inl h
 · refine .inr ⟨g,cap,cur,h1,h2,h3,h4,h5,λ k hk=>?_⟩
   obtain ⟨fv,nf,a1,a2,a3⟩:=h6 k hk
   refine ⟨fv,nf,a1,a2,?_⟩
   rcases a3 with a3 | ⟨g',cap',cur',b1,b2,b3,b4,b5,_⟩
   · exact .inl a3
   · refine .inr ⟨g',cap',cur',b1,b2,b3,b4,?_⟩
     by_cases h0:nf*15=0
     · omega
     · obtain ⟨u,hu,_⟩:=b5 (nf*15 - 1) (by omega)
       have:=(Array.getElem?_eq_some_iff.1 hu).1
       omega
theorem Th {g k:Nat} {cm:AVl} {v:Vl} (hg:w.heap[g]?=some (.cells cm TM (0,0))):(∀ (b:Nat) (cur:AVl),w.heap[b]?=some (.cells cur TF (0,0))→∃ cur':AVl,(w.setCell ⟨g,k*2,none⟩ v).heap[b]?=some (.cells cur' TF (0,0))∧cur.size≤cur'.size) ∧
 (∀ (b:Nat) (cur:AVl),w.heap[b]?=some (.cells cur TM (0,0))→∃ cur':AVl,(w.setCell ⟨g,k*2,none⟩ v).heap[b]?=some (.cells cur' TM (0,0))∧cur.size≤cur'.size∧∀ j,cur'[j*2+1]?=cur[j*2+1]?):=by
 refine ⟨λ b cur h=>⟨cur,(YY.setCell w g (k*2) v b (by
  rintro rfl
  rw [hg] at h
  injection h with h
  injection h with _ h _
  exact absurd h (by decide))).trans h,Nat.le_refl _⟩,λ b cur h=>?_⟩
 by_cases e:b=g
 · subst e
   exact ⟨_,ZE h v,by simp,λ j=>Array.getElem?_setIfInBounds_ne (by omega)⟩
 · exact ⟨cur,(YY.setCell w g (k*2) v b e).trans h,Nat.le_refl _,λ _=>rfl⟩
theorem Tg {g o:Nat} {cf:AVl} {vs:List Vl} (hg:w.heap[g]?=some (.cells cf TF (0,0))):(∀ (b:Nat) (cur:AVl),w.heap[b]?=some (.cells cur TF (0,0))→∃ cur':AVl,(Wq w g o vs).heap[b]?=some (.cells cur' TF (0,0))∧cur.size≤cur'.size) ∧
 (∀ (b:Nat) (cur:AVl),w.heap[b]?=some (.cells cur TM (0,0))→∃ cur':AVl,(Wq w g o vs).heap[b]?=some (.cells cur' TM (0,0))∧cur.size≤cur'.size∧∀ j,cur'[j*2+1]?=cur[j*2+1]?):=by
 refine ⟨λ b cur h=>?_,λ b cur h=>⟨cur,(IU vs o w b (by
  rintro rfl
  rw [hg] at h
  injection h with h
  injection h with _ h _
  exact absurd h (by decide))).trans h,Nat.le_refl _,λ _=>rfl⟩⟩
 by_cases e:b=g
 · subst e
   obtain ⟨cur',a,c⟩:=ZbF vs o h
   exact ⟨cur',a,by omega⟩
 · exact ⟨cur,(IU vs o w b e).trans h,Nat.le_refl _⟩
theorem Si {b:Nat} (h1:lo≤b) (h2:b < hi):∀ (vs:List Vl) (o:Nat) {w:Wd},Vk lo hi U w→Vk lo hi U (Wq w b o vs)
 | [],_,_,e=>e
 | v::vs,o,w,e=>Si h1 h2 vs (o+1) (e.setCell h1 h2 v)
end
abbrev fU1:List Vl:=[.string ByteArray.empty,.int .i64 1,.int .i64 1,.bool false,.bool false,.int .i64 0,.int .i64 0,.int .i64 0,.slice none 0 0,.string ByteArray.empty,.string ByteArray.empty,.string ByteArray.empty,.slice none 0 0,.int .i64 0,.int .i64 0]
section
variable {R:RT} {U:Wd} {lo hi n p2 pm p4 p5:Nat} {fn:Vl}
theorem I4 {w:Wd} {g cap k:Nat} {d:YQ} {Zo:KV} (hk:k < n) (hn:n≤70) (hsv:Vk lo hi U w) (hR:zU w lo hi (.slice (some ⟨g,0,none⟩) n cap) n) (o5:U.heap[p5]?=some (.cells (Zz d (.slice (some ⟨g,0,none⟩) n cap)).toArray 28 (0,0))) (h5:hi≤p5)
 (hK:∀ w',Vk lo hi U w'→zU w' lo hi (.slice (some ⟨g,0,none⟩) n cap) n→Zo (.int .i64 ((k:Int)+1)) w') :
 YS (λ t8 w ZT=>Zb4 (.pointer (some ⟨p4,0,none⟩)) (.pointer (some ⟨p5,0,none⟩)) (.int .i64 (k:Int)) t8 Zo ZT [] R w) (.int .i64 0) w:=by
 obtain ⟨fv,nf,hnf,cm0,hcm0,hcm0k,hF0⟩:∃ fv nf,nf≤400∧∃ cm,w.heap[g]?=some (.cells cm TM (0,0))∧cm[k*2+1]?=some fv∧Hv w lo hi fv nf:=by
  rcases hR with ⟨h,_⟩ | ⟨g',cap',cur,h1,_,_,h4,_,h6⟩
  · cases h
  · injection h1 with h1 _ _
    injection h1 with h1
    injection h1 with h1
    subst h1
    obtain ⟨fv,nf,a1,a2,a3⟩:=h6 k hk
    exact ⟨fv,nf,a2,cur,h4,a1,a3⟩
 have hfv:∃ A cc,fv = .slice A nf cc:=by
  rcases hF0 with ⟨h,rfl⟩ | ⟨g2,cc,cur,h,_⟩
  · exact ⟨_,_,h⟩
  · exact ⟨_,_,h⟩
 have hfv1:fv.oneCell'=true:=by obtain ⟨A,cc,rfl⟩:=hfv;rfl
 have hwk:IntKind.i64.wrap ((k:Int)+1)=(k:Int)+1:=Z0 (by omega) (by omega)
 have dk:(k:Int) < (n:Int):=by omega
 refine ZF (λ i w'=>∃ q:Nat,i = .int .i64 q∧q≤nf∧Vk lo hi U w'∧zU w' lo hi (.slice (some ⟨g,0,none⟩) n cap) n∧Hv w' lo hi fv nf∧∃ cm,w'.heap[g]?=some (.cells cm TM (0,0))∧cm[k*2+1]?=some fv) (λ i _=>nf - (intOf i).toNat) ⟨0,rfl,by omega,hsv,hR,hF0,cm0,hcm0,hcm0k⟩ ?_
 rintro _ w1 ⟨q,rfl,hq,sv1,hR1,hF1,cm,hcm,hcmk⟩
 have y5:=sv1.obj o5 (.inr h5)
 have a5:w1.cell? ⟨p5,1,none⟩=some (.slice (some ⟨g,0,none⟩) n cap):=by rw [(Za y5).1];rfl
 have a1:w1.cell? ⟨g,k*2+1,none⟩=some fv:=by rw [(Za hcm).1];exact hcmk
 unfold Zb4
 by_cases hqn:q < nf
 · rcases hF1 with ⟨rfl,h0⟩ | ⟨gF,cc,cur,rfl,h1,h2,h3,h4⟩
   · omega
   have d1:decide ((q:Int) < (nf:Int))=true:=decide_eq_true (by omega)
   have hwq:IntKind.i64.wrap ((q:Int)+1)=(q:Int)+1:=Z0 (by omega) (by omega)
   simp (disch:=try exact DI) only [↓PR,QR,simprocAttr,a5,a1,d1,↓ZfK]
   try unfold S0
   rw [TG V2 h3 (q*15) fU1 (by omega) rfl (by simp [Value.oneCell'])]
   obtain ⟨kF,kM⟩:=Tg (o:=q*15) (vs:=fU1) h3
   have sv2:=Si (U:=U) h1 h2 fU1 (q*15) sv1
   obtain ⟨cm',hcm',_,hcc⟩:=kM g cm hcm
   generalize Wq w1 gF (q*15) fU1=w3 at kF kM sv2 hcm' ⊢
   simp (disch:=try exact DI) only [↓PR,QR,simprocAttr,hwq]
   exact ⟨⟨q+1,rfl,by omega,sv2,hR1.turn kF kM,Hv.turn (.inr ⟨gF,cc,cur,rfl,h1,h2,h3,h4⟩) kF,cm',hcm',by rw [hcc];exact hcmk⟩,ZM (kd := .i64) hqn⟩
 · obtain ⟨A,cc,rfl⟩:=hfv
   have d1:decide ((q:Int) < (nf:Int))=false:=decide_eq_false (by omega)
   simp (disch:=try exact DI) only [↓PR,QR,simprocAttr,a5,a1,d1,hwk]
   exact hK w1 sv1 hR1
theorem Sv {mv:Vl} {d:YQ} (hR:zU U lo hi mv n) (hn:n≤70) (o5:U.heap[p5]?=some (.cells (Zz d mv).toArray 28 (0,0))) (h5:hi≤p5)
 (hK:∀ w',Vk lo hi U w'→Rt (.pointer (some ⟨p2,0,none⟩)) (.pointer (some ⟨pm,0,none⟩)) (.pointer (some ⟨p4,0,none⟩)) fn [] R w') :
 YS (λ t7 w Zo=>Ru (.pointer (some ⟨p2,0,none⟩)) (.pointer (some ⟨pm,0,none⟩)) (.pointer (some ⟨p4,0,none⟩)) (.pointer (some ⟨p5,0,none⟩)) t7 fn Zo [] R w) (.int .i64 0) U:=by
 have hmv:∃ A cc,mv = .slice A n cc:=by
  rcases hR with ⟨h,rfl⟩ | ⟨g2,cc,cur,h,_⟩
  · exact ⟨_,_,h⟩
  · exact ⟨_,_,h⟩
 refine ZF (λ i w'=>∃ k:Nat,i = .int .i64 k∧k≤n∧Vk lo hi U w'∧zU w' lo hi mv n) (λ i _=>n - (intOf i).toNat) ⟨0,rfl,by omega,Vk.refl _ _ _,hR⟩ ?_
 rintro _ w1 ⟨k,rfl,hk,sv1,hR1⟩
 have y5:=sv1.obj o5 (.inr h5)
 have a5:w1.cell? ⟨p5,1,none⟩=some mv:=by rw [(Za y5).1];rfl
 have hmv1:mv.oneCell'=true:=by obtain ⟨A,cc,rfl⟩:=hmv;rfl
 unfold Ru
 by_cases hkn:k < n
 · have hR1':=hR1
   rcases hR1 with ⟨rfl,h0⟩ | ⟨g,cap,cur,rfl,h1,h2,h3,h4,h6⟩
   · omega
   have d1:decide ((k:Int) < (n:Int))=true:=decide_eq_true (by omega)
   obtain ⟨u,hu⟩:∃ u,cur[k*2]?=some u:=⟨_,Array.getElem?_eq_getElem (by omega)⟩
   have a0:w1.cell? ⟨g,k*2,none⟩=some u:=by rw [(Za h3).1];exact hu
   obtain ⟨kF,kM⟩:=Th (k:=k) (v := .string ⟨#[120]⟩) h3
   have sv2:=sv1.setCell (o:=k*2) h1 h2 (.string ⟨#[120]⟩)
   simp (disch:=try exact DI) only [↓PR,QR,simprocAttr,a5,d1,↓Zbr,a0,(Za h3).2]
   generalize (w1.setCell ⟨g,k*2,none⟩ (.string ⟨#[120]⟩))=w2 at kF kM sv2 ⊢
   refine I4 (d:=d) hkn hn sv2 (hR1'.turn kF kM) o5 h5 (λ w' s r=>?_)
   exact ⟨⟨k+1,rfl,by omega,s,r⟩,ZM (kd := .i64) hkn⟩
 · obtain ⟨A,cc,rfl⟩:=hmv
   have d1:decide ((k:Int) < (n:Int))=false:=decide_eq_false (by omega)
   simp (disch:=try exact DI) only [↓PR,QR,simprocAttr,a5,d1]
   exact hK w1 sv1
end
theorem ID (w0:Wd) (v:Vl) (d:YQ) (hd:YT w0 v d) (hb:UJ d):Ret Pg 22 #[v] w0 λ r w'=>r = .bool (!Xy d)∧Ext w0 w':=by
 obtain ⟨mv,rfl,hM⟩:=hd
 have hm1:=Zd.oneCell hM
 refine Zib (R:=ZO _) ?_;unfold n29
 simp (disch:=try exact DI) only [↓PR,QR,simprocAttr]
 refine zcr (IB _ _ d ⟨mv,rfl,hM.ext ee⟩ hb) λ w1 e1=>?_
 unfold Zaz
 simp (disch:=try exact DI) only [↓PR,QR,simprocAttr]
 exact ⟨by first | trivial | rfl,ee⟩
def V1 (l:List ZC) (s t:Nat) (ns:List BAr) (i:Nat):Bool:=YK l s t i||(YK l s t (l.length - 1 - t)&&ns.any λ nm=>idx (λ x=>decide (x.name=nm)) l == (i:Int))
theorem IJ (l:List ZC) (s t i:Nat):V1 l s t [] i=YK l s t i:=by simp [V1]
theorem II {l:List ZC} {s t:Nat} {m:ZC} (hm:l[l.length - 1 - t]?=some m) (i:Nat):V1 l s t (Qn m) i=YK l s (t+1) i:=by
 unfold V1
 rw [YK,toB,hm]
theorem FX {l:List ZC} {s t:Nat} (h:YK l s t (l.length - 1 - t)=false) (ns:List BAr) (i:Nat):V1 l s t ns i=YK l s (t+1) i:=by
 unfold V1
 rw [YK,h,Bool.false_and,Bool.false_and]
theorem Na {l:List ZC} (hf:Q2 l) {s t:Nat} {m:ZC} (hm:l[l.length - 1 - t]?=some m) (k:Nat):V1 l s t ((Qn m).take k) (l.length - 1 - t)=YK l s t (l.length - 1 - t):=by
 unfold V1
 have:(((Qn m).take k).any λ nm=>idx (λ x=>decide (x.name=nm)) l == ((l.length - 1 - t:Nat):Int))=false:=by
  rw [Bool.eq_false_iff]
  intro h
  obtain ⟨nm,hn,he⟩:=List.any_eq_true.1 h
  obtain ⟨i,_,hi,_,_,hx,_⟩:=UO hf hm (List.mem_of_mem_take hn)
  rw [hx] at he
  simp at he
  omega
 rw [this,Bool.and_false,Bool.or_false]
theorem FY {l:List ZC} {s t j:Nat} {ns:List BAr} {nm:BAr} (hr:YK l s t (l.length - 1 - t)=true) (hj:idx (λ x=>decide (x.name=nm)) l=(j:Int)) (i:Nat):V1 l s t (ns++[nm]) i=if i=j then true else V1 l s t ns i:=by
 unfold V1
 rw [hr,List.any_append,Bool.true_and,Bool.true_and,← Bool.or_assoc]
 simp only [List.any_cons,List.any_nil,Bool.or_false,hj]
 by_cases h:i=j
 · subst h;simp
 · rw [if_neg h]
   have:((j:Int) == (i:Int))=false:=by simp;omega
   rw [this,Bool.or_false]
theorem IC (w0:Wd) (v:Vl) (d:YQ) (hd:YT w0 v d) (ht:UJ d) (hc:(YA d).2.2=0):Ret Pg 23 #[v] w0 λ r w'=>Vj w' w0.heap.size r (D7 d.msgs (W5 d))∧Ext w0 w':=by
 obtain ⟨mv,rfl,hM⟩:=hd
 have hm1:=Zd.oneCell hM
 have hM0:=hM
 obtain ⟨A,c,rfl,hlc,hcm,hlm,Y3⟩:=Zd.open hM
 obtain ⟨hs,hany,hidx⟩:=BB hc
 have hf:=(XI hc).2.2.1
 have hl60:=(XI hc).2.1.2
 have hidx2:idx (λ m:ZC=>decide (m.name=d.start)) d.msgs=W5 d:=by
  have ha:=hany
  rw [← Qq] at ha
  rw [← hidx]
  unfold MW
  simp at ha
  rw [if_neg (by omega)]
 generalize W5 d=s at hs hidx2 ⊢
 refine Zim (R:=ZO _) ?_;unfold n41
 rw [Wh]
 have o1:=ZG w0 (Zz d (.slice A d.msgs.length c)).toArray 28
 have eW:Ext w0 (w0.alloc (.cells (Zz d (.slice A d.msgs.length c)).toArray 28)):=ee
 generalize (w0.alloc (.cells (Zz d (.slice A d.msgs.length c)).toArray 28))=W at o1 eW ⊢
 generalize hp1:w0.heap.size=p1 at o1 ⊢
 simp (disch:=try exact DI) only [↓PR,QR,simprocAttr,(Za o1).1]
 rw [xc d.msgs.length (by omega)]
 have eV:Ext W (W.alloc (.cells ((List.replicate d.msgs.length false).map λ x=>Value.bool x).toArray 4)):=ee
 have oR:KA (W.alloc (.cells ((List.replicate d.msgs.length false).map λ x=>Value.bool x).toArray 4)) W.heap.size (tab d.msgs.length λ _=>false):=by
  have:=ZG W ((List.replicate d.msgs.length false).map λ x=>Value.bool x).toArray 4
  rw [show tab d.msgs.length (λ _=>false)=List.replicate d.msgs.length false by unfold tab;rw [List.map_const'];simp]
  exact this
 have sV:=eV.size
 generalize (W.alloc (.cells ((List.replicate d.msgs.length false).map λ x=>Value.bool x).toArray 4))=V at eV oR sV ⊢
 generalize hr:W.heap.size=r at oR ⊢
 simp (disch:=try exact DI) only [↓PR,QR,simprocAttr,(Za (eV.obj o1)).1]
 refine zcr (XG _ _ d d.start d.msgs.length ⟨_,rfl,hM0.ext (eW.trans eV)⟩ (Nat.le_refl _)) λ w2 e2=>?_
 rw [List.take_length,hidx2]
 have oR2:=oR.ext e2
 have g2:Ext W w2:=eV.trans e2
 have hfz:∀ o,w2.frozen? ⟨r,o,none⟩=false:=(Za oR2).2
 have hcs:w2.cell? ⟨r,s,none⟩=some (.bool false):=oR2.get (V7 hs)
 unfold ZaR
 have oR3:=oR2.set s true
 rw [jI hs] at oR3
 have g3:Ext W (w2.setCell ⟨r,s,none⟩ (.bool true)):=g2.setCell (by show W.heap.size≤r;omega) _
 have hwl:IntKind.i64.wrap ((d.msgs.length:Int) - 1)=(d.msgs.length:Int) - 1:=Z0 (by omega) (by omega)
 have q1:=g3.obj o1
 simp (disch:=try exact DI) only [↓PR,QR,simprocAttr,hcs,hfz,Nat.mul_one,Nat.zero_add,(Za q1).1,hwl]
 clear hfz hcs q1
 generalize (w2.setCell ⟨r,s,none⟩ (.bool true))=w3 at oR3 g3 ⊢
 have h0:tab d.msgs.length (λ j=>if j=s then true else false)=tab d.msgs.length (YK d.msgs s 0):=WA λ i _=>by
  by_cases h:i=s<;>simp [h,YK]
 rw [h0] at oR3
 refine ZF (λ a w=>∃ t:Nat,a = .int .i64 ((d.msgs.length:Int) - 1 - t)∧t≤d.msgs.length∧Ext W w∧KA w r (tab d.msgs.length (YK d.msgs s t))) (λ a _=>(intOf a+1).toNat) ⟨0,by rw [Int.natCast_zero,Int.sub_zero],by omega,g3,oR3⟩ ?_
 rintro _ w4 ⟨t,rfl,htl,g4,oR4⟩
 unfold ZaQ
 by_cases Yv:t < d.msgs.length
 · have MU:decide (((d.msgs.length:Int) - 1 - t)≥0)=true:=decide_eq_true (by omega)
   obtain ⟨at_,hat⟩:∃ k:Nat,k=d.msgs.length - 1 - t:=⟨_,rfl⟩
   have hatI:((d.msgs.length:Int) - 1 - t)=(at_:Int):=by omega
   rw [hatI] at MU ⊢
   have hal:at_ < d.msgs.length:=by omega
   obtain ⟨m,hm⟩:=getElem?_lt hal
   obtain ⟨b,o,cs,rfl,_,hA,fv,rfl,hF⟩:=Y3 at_ m hm
   have hfv:=Zd.oneCell hF
   have hm':d.msgs[d.msgs.length - 1 - t]?=some m:=by rw [← hat];exact hm
   simp (disch:=try exact DI) only [↓PR,QR,simprocAttr,MU,↓ZaP,(Za (g4.obj o1)).1,hA.c2 (eW.trans g4)]
   refine Zs (J8 _ _ m ⟨_,rfl,hF.ext (eW.trans g4)⟩ (ht m (List.mem_of_getElem? hm)).1) ?_
   rintro rv w5 ⟨hT,e5⟩
   have g5:=g4.trans e5
   have oR5:=oR4.ext e5
   have hTs:Zd w5 1 zM rv (Qn m):=hT.slice (λ _=>rfl) (λ _ _=>rfl)
   have hrl:(Qn m).length≤1048576:=Nat.le_trans (Gp _ _) (ht m (List.mem_of_getElem? hm)).1
   obtain ⟨Ar,cr,rfl,hlr,hcr,hlmr,helr⟩:=Zd.open hTs
   have s4:=(Array.getElem?_eq_some_iff.1 oR4).1
   refine ZF (λ a w=>∃ k:Nat,a = .int .i64 k∧k≤(Qn m).length∧Ext W w∧Uz w w4.heap.size (.slice Ar (Qn m).length cr) (Qn m)∧KA w r (tab d.msgs.length (V1 d.msgs s t ((Qn m).take k)))) (λ a _=>(Qn m).length - (intOf a).toNat) ⟨0,rfl,by omega,g5,hT,by rw [List.take_zero,WA λ i _=>IJ d.msgs s t i];exact oR5⟩ ?_
   rintro _ w6 ⟨k,rfl,hk,g6,hT6,oR6⟩
   have c2:w6.cell? ⟨r,at_,none⟩=some (.bool (YK d.msgs s t at_)):=by
    rw [oR6.get (V7 hal),hat,Na hf hm']
   have hwr:IntKind.i64.wrap ((at_:Int) - 1)=(d.msgs.length:Int) - 1 - ((t+1:Nat):Int):=by rw [Z0 (by omega) (by omega)];omega
   unfold ZaN
   cases hb:YK d.msgs s t at_ with
   | false=>
    rw [hb] at c2
    simp (disch:=try exact DI) only [↓PR,QR,simprocAttr,c2,↓LJ,hwr,Nat.mul_one,Nat.zero_add]
    refine ⟨⟨t+1,rfl,by omega,g6,?_⟩,?_⟩
    · rw [WA λ i _=>FX (by rw [← hat];exact hb) _ i] at oR6
      exact oR6
    · simp only [intOf]
      omega
   | true=>
    rw [hb] at c2
    rcases ZD hk with ⟨x,hx,_,hltk,ZJ⟩ | ⟨hke,_,ZJ⟩
    · obtain ⟨j,_,MV,_,_,hix,hix2⟩:=UO hf hm (List.mem_of_getElem? hx)
      obtain ⟨_,_,hv,_,_,_,hel6⟩:=Zd.open (hT6.slice (E:=zM) (λ _=>rfl) (λ _ _=>rfl))
      injection hv with hv _ hv'
      subst hv hv'
      obtain ⟨b6,o6,cs6,rfl,_,hA6,rfl⟩:=hel6 k _ hx
      have hjn:j < d.msgs.length:=by omega
      simp (disch:=try exact DI) only [↓PR,QR,simprocAttr,c2,ZJ,↓LJ,Nat.mul_one,Nat.zero_add]
      refine Zy ?_
      have g7:=g6.wdrew
      unfold ZaM
      simp (disch:=try exact DI) only [↓PR,QR,simprocAttr,(Za (g6.obj o1)).1,hA6.c1 (Ext.refl _)]
      refine zcr (XG _ _ d x at_ ⟨_,rfl,hM0.ext (eW.trans g7)⟩ (by omega)) λ w7 e7=>?_
      refine ⟨e7,?_⟩
      rw [hix2]
      have eD:Ext w6 w6.drew:=(Ext.refl w6).wdrew
      have oR7:=oR6.ext (eD.trans e7)
      have hT7:=hT6.ext (eD.trans e7)
      have g8:=g7.trans e7
      have s7:=(eD.trans e7).size
      have c1:w7.cell? ⟨r,j,none⟩=some (.bool (V1 d.msgs s t ((Qn m).take k) j)):=oR7.get (V7 hjn)
      have hfz:∀ o,w7.frozen? ⟨r,o,none⟩=false:=(Za oR7).2
      have oR8:=oR7.set j true
      rw [jI hjn] at oR8
      rw [WA λ i _=>(FY (ns:=(Qn m).take k) (by rw [← hat];exact hb) hix i).symm,← Z4 hx] at oR8
      unfold ZaL
      simp (disch:=try exact DI) only [↓PR,QR,simprocAttr,c1,hfz,Nat.mul_one,Nat.zero_add]
      refine Yb ?_
      have hwk:IntKind.i64.wrap ((k:Int)+1)=(k:Int)+1:=Z0 (by omega) (by omega)
      simp (disch:=try exact DI) only [↓PR,QR,simprocAttr,hwk]
      refine ⟨⟨k+1,rfl,by omega,g8.setCell (by show W.heap.size≤r;omega) _,?_,oR8⟩,ZM (kd := .i64) hltk⟩
      exact (UH.only (lo:=w4.heap.size) (hi:=w7.heap.size) ⟨hT7,λ b hb=>(hT7.lt b hb).2⟩ (YY.setCell w7 r j _) (.inr (.inl s4))).1
    · subst hke
      simp (disch:=try exact DI) only [↓PR,QR,simprocAttr,c2,ZJ,↓LJ,hwr,Nat.mul_one,Nat.zero_add]
      refine ⟨⟨t+1,rfl,by omega,g6,?_⟩,?_⟩
      · rw [List.take_length,WA λ i _=>II hm' i] at oR6
        exact oR6
      · simp only [intOf]
        omega
 · obtain rfl:t=d.msgs.length:=by omega
   have MU:decide (((d.msgs.length:Int) - 1 - (d.msgs.length:Int))≥0)=false:=decide_eq_false (by omega)
   simp (disch:=try exact DI) only [↓PR,QR,simprocAttr,MU]
   have s4:=g4.size
   refine Yn (λ a i w=>∃ j:Nat,i = .int .i64 j∧j≤d.msgs.length∧Ext w4 w∧Vj w w4.heap.size a (Kw j (YK d.msgs s d.msgs.length))) (λ _ i _=>d.msgs.length - (intOf i).toNat) ⟨0,rfl,by omega,Ext.refl _,Yk.nil _ _ _ _ _⟩ ?_
   rintro a _ w5 ⟨j,rfl,hj,e5,hR⟩
   have ha1:=Zd.oneCell hR.ints
   have oR5:=oR4.ext e5
   have q1:=(Za ((g4.trans e5).obj o1)).1
   unfold ZaO
   rcases Nat.lt_or_ge j d.msgs.length with Yv | hge2
   · have ZJ:decide ((j:Int) < (d.msgs.length:Int))=true:=decide_eq_true (by omega)
     have hwj:IntKind.i64.wrap ((j:Int)+1)=(j:Int)+1:=Z0 (by omega) (by omega)
     have c1:w5.cell? ⟨r,j,none⟩=some (.bool (YK d.msgs s d.msgs.length j)):=oR5.get (V7 Yv)
     have hss:=Hb j (YK d.msgs s d.msgs.length)
     have hsl:=jH j (YK d.msgs s d.msgs.length)
     cases hb:YK d.msgs s d.msgs.length j with
     | false=>
      rw [hb] at hss c1
      simp only [Bool.false_eq_true,if_false,List.append_nil] at hss
      simp (disch:=try exact DI) only [↓PR,QR,simprocAttr,q1,ZJ,↓P9,c1,hwj,Nat.mul_one,Nat.zero_add]
      exact ⟨⟨j+1,rfl,by omega,e5,by rw [hss];exact hR⟩,ZM (kd := .i64) Yv⟩
     | true=>
      rw [hb] at hss c1
      simp only [if_true] at hss
      simp (disch:=try exact DI) only [↓PR,QR,simprocAttr,q1,ZJ,↓P9,c1,Nat.mul_one,Nat.zero_add]
      generalize hY:World.alloc w5 _=Y
      have eY:Ext w5 Y:=by rw [← hY];exact ee
      have oY:Y.heap[w5.heap.size]?=some (.cells #[.int .i64 (j:Int)] 3 (0,0)):=by rw [← hY];exact ZG _ _ _
      clear hY
      refine jZ (j:Int) (hR.ext eY) (by rw [(Za oY).1];rfl) (e5.trans eY).size (by omega) ?_
      intro v' w' hO' hg'
      have e':=hg'.2.1 w4 (e5.trans eY) (Nat.le_refl _)
      simp (disch:=try exact DI) only [↓PR,QR,simprocAttr,hwj]
      exact ⟨⟨j+1,rfl,by omega,e',by rw [hss];exact hO'⟩,ZM (kd := .i64) Yv⟩
   · have hjk:j=d.msgs.length:=by omega
     subst hjk
     have ZJ:decide ((d.msgs.length:Int) < (d.msgs.length:Int))=false:=decide_eq_false (by omega)
     simp (disch:=try exact DI) only [↓PR,QR,simprocAttr,q1,ZJ]
     exact ⟨Yk.base hR (by have:=eW.size;omega),eW.trans (g4.trans e5)⟩
end Go.Proofs.YtfjjgjjlebllmaaGreat
