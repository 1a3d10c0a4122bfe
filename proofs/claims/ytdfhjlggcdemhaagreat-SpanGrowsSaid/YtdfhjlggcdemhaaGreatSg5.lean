/-
  Lemmas for the claim.
-/
import Derived.Test.YtdfhjlggcdemhaaGreatSg4
set_option linter.all false
set_option maxHeartbeats 4000000
set_option maxRecDepth 100000
namespace Go.Proofs.YtdfhjlggcdemhaaGreat
open Sw
open Go.RowKit (intOf Below)
theorem two_times (w0:World) (a b:Int) (ha:0≤a∧a≤2097152) (hb:0≤b∧b≤1099511627776):Two w0 134 a b (capF (a*b)):=fun w _=>times_ret w a b ha hb
theorem run_look {w:World} {mr:Nat} {sp:List (ByteArray×Int×Int)} (hM:MapOf w mr (RP sp)) (s:ByteArray) (QP:List PanicEntry→World→Prop) (K:Value→World→Prop):opV Pg (Instr.lookup 103 (.map (some mr)) (.string s) false) QP w K=K (rangeVal (lookS sp s).1 (lookS sp s).2) w:=by
 rw [op_lookup1O Tryz.underlying103 Tryz.underlying9 ty67 hM,lastOf_RP]
 unfold lookS
 cases lastR sp s<;>rfl
section
variable (w0:World) (m:MsgD) (fl tv cv:Value) (mr:Nat) (f:FieldD)
theorem bytesS_ret (hF:FieldsOf w0 fl m.fields) (hT:TermsOf w0 tv f.terms) (hC:CasesOf w0 cv f.cases) (hb:f.terms.length≤1048576) (hL:0≤ivL m.fields f∧ivL m.fields f≤2097152) (hH:0≤ivH m.fields f∧ivH m.fields f≤2097152):Ret Pg 103 #[.agg (planCells m fl mr).toArray,.agg (fieldCells f tv cv).toArray] w0 fun r w'=>r=rangeVal (capF (ivL m.fields f*8)) (capF (ivH m.fields f*8))∧Ext w0 w':=by
 have ht1:=SliceOf.oneCell hT
 have hc1:=SliceOf.oneCell hC
 have hf1:=SliceOf.oneCell hF
 refine n114s (R:=retR _) ?_;unfold n114
 simp (disch:=try exact DI) only [↓PR,QR,simprocAttr]
 generalize hW:World.alloc (World.alloc (World.alloc w0 _) _) _=W
 have e0:Ext w0 W:=by rw [← hW];exact ee
 have o4:W.heap[w0.heap.size+1+1]?=some (.cells #[.int .i64 0,.int .i64 0] 67 (0,0)):=by rw [← hW];simp (disch:=try exact DI) only [↓PR,QR,simprocAttr]
 clear hW
 refine zcr (sized_ret W m fl tv cv mr f (hF.ext e0) (hT.ext e0) (hC.ext e0) hb) fun w1 e1=>?_
 refine zcr (same_ret _ 8) fun w2 e2=>?_
 unfold n114c1
 refine zcr (both_ret w2 _ _ 8 8 _ _ _ c134 (two_times _ _ 8 hL (by decide)) (two_times _ _ 8 hH (by decide))) fun w3 e3=>?_
 have x4:=e3.obj (e2.obj (e1.obj o4))
 have E3:=e0.trans (e1.trans (e2.trans e3))
 have l4:=(Array.getElem?_eq_some_iff.1 x4).1
 simp (disch:=try exact DI) only [↓PR,QR,simprocAttr,(cells_of_heap x4).1,(cells_of_heap x4).2]
 exact ⟨by first | trivial | rfl,ee⟩
theorem listS_ret (sp:List (ByteArray×Int×Int)) (hM:MapOf w0 mr (RP sp)) (hF:FieldsOf w0 fl m.fields) (hT:TermsOf w0 tv f.terms) (hC:CasesOf w0 cv f.cases) (hb:f.terms.length≤1048576) (hL:0≤ivL m.fields f∧ivL m.fields f≤2097152) (hH:0≤ivH m.fields f∧ivH m.fields f≤2097152)
 (h1:0≤(lookS sp f.of).1∧(lookS sp f.of).1≤1099511627776) (h2:0≤(lookS sp f.of).2∧(lookS sp f.of).2≤1099511627776):Ret Pg 106 #[.agg (planCells m fl mr).toArray,.agg (fieldCells f tv cv).toArray] w0 fun r w'=>r=rangeVal (capF (ivL m.fields f*(lookS sp f.of).1)) (capF (ivH m.fields f*(lookS sp f.of).2))∧Ext w0 w':=by
 have ht1:=SliceOf.oneCell hT
 have hc1:=SliceOf.oneCell hC
 have hf1:=SliceOf.oneCell hF
 refine n117s (R:=retR _) ?_;unfold n117
 simp (disch:=try exact DI) only [↓PR,QR,simprocAttr]
 generalize hW:World.alloc (World.alloc (World.alloc w0 _) _) _=W
 have e0:Ext w0 W:=by rw [← hW];exact ee
 have o2:W.heap[w0.heap.size]?=some (.cells (planCells m fl mr).toArray 105 (0,0)):=by rw [← hW];simp (disch:=try exact DI) only [↓PR,QR,simprocAttr]
 have o3:W.heap[w0.heap.size+1]?=some (.cells (fieldCells f tv cv).toArray 38 (0,0)):=by rw [← hW];simp (disch:=try exact DI) only [↓PR,QR,simprocAttr]
 have o4:W.heap[w0.heap.size+1+1]?=some (.cells #[.int .i64 0,.int .i64 0] 67 (0,0)):=by rw [← hW];simp (disch:=try exact DI) only [↓PR,QR,simprocAttr]
 clear hW
 refine drawK_intro ?_
 have eD:Ext W W.drew:=(Ext.refl _).wdrew
 have qlk:∀ K:Value→Prop,qV Pg (EC W.drew) (Instr.lookup 103 (.map (some mr)) (.string f.of) false) K=K (rangeVal (lookS sp f.of).1 (lookS sp f.of).2):=fun K=>qV_eqC fun w' e=>run_of_op fun QP k=>run_look (hM.ext (e0.trans (eD.trans e))) f.of QP k
 unfold n117c2
 simp (disch:=try exact DI) only [↓PR,QR,simprocAttr,(cells_of_heap o2).1,(cells_of_heap o3).1,qlk]
 refine zcr (sized_ret _ m fl tv cv mr f (hF.ext (e0.trans eD)) (hT.ext (e0.trans eD)) (hC.ext (e0.trans eD)) hb) fun w1 e1=>?_
 refine ⟨e1,?_⟩
 unfold n117c1
 refine zcr (both_ret w1 _ _ _ _ _ _ _ c134 (two_times _ _ _ hL h1) (two_times _ _ _ hH h2)) fun w2 e2=>?_
 refine ⟨e1.trans e2,?_⟩
 have E2:=eD.trans (e1.trans e2)
 have x4:=E2.obj o4
 have E3:=e0.trans E2
 have l4:=(Array.getElem?_eq_some_iff.1 x4).1
 simp (disch:=try exact DI) only [↓PR,QR,simprocAttr,(cells_of_heap x4).1,(cells_of_heap x4).2]
 refine turnK_intro ?_
 simp (disch:=try exact DI) only [↓PR,QR,simprocAttr,(cells_of_heap x4).1]
 exact ⟨by first | trivial | rfl,ee⟩
theorem num1_ret (v:Nat) (hv:v < 9223372036854775808):Ret Pg 131 #[.int .i64 (v:Int),.int .i64 8] w0 fun r w'=>r = .int .i64 (((groupsP v:Nat):Int)*8)∧Ext w0 w':=by
 have hb:=groupsP_le 9 v (Nat.lt_of_lt_of_le hv (by decide)) (by decide)
 refine n119s (R:=retR _) ?_;unfold n119
 refine zcr (groups_ret w0 v hv) fun w1 e1=>?_
 simp (disch:=try exact DI) only [↓PR,QR,simprocAttr,wrap_ok]
 exact ⟨by first | trivial | rfl,ee⟩
end
section
variable {w0:World} {m:MsgD} {fl tv cv:Value} {mr:Nat} {f:FieldD}
theorem num_c1 {w:World} {p3 p4 p5:Nat} {a b:Int} (h3:w.heap[p3]?=some (.cells (fieldCells f tv cv).toArray 38 (0,0))) (h4:w.heap[p4]?=some (.cells #[.int .i64 0,.int .i64 0] 67 (0,0))) (h5:w.heap[p5]?=some (.cells #[.int .i64 a,.int .i64 b] 67 (0,0))) (hne:p4≠p5) (e:Ext w0 w) (g4:w0.heap.size≤p4) (g5:w0.heap.size≤p5) :
 n118c1 (.pointer (some ⟨p3,0,none⟩)) (.pointer (some ⟨p4,0,none⟩)) (.pointer (some ⟨p5,0,none⟩)) (retR fun r w'=>r=rangeVal a (if f.loose then 40 else b)∧Ext w0 w') w:=by
 have hne':p5≠p4:=fun h=>hne h.symm
 have l4:=(Array.getElem?_eq_some_iff.1 h4).1
 have l5:=(Array.getElem?_eq_some_iff.1 h5).1
 unfold n118c1
 cases hl:f.loose with
 | true =>
  have y5:(w.setCell ⟨p5,1,none⟩ (.int .i64 40)).heap[p5]?=some (.cells #[.int .i64 a,.int .i64 40] 67 (0,0)):=by simpa using heap_set (o:=1) h5 (.int .i64 40)
  have y4:=(Only.setCell w p5 1 (.int .i64 40) p4 hne).trans h4
  have E:Ext w0 (w.setCell ⟨p5,1,none⟩ (.int .i64 40)):=ee
  simp (disch:=try exact DI) only [↓PR,QR,simprocAttr,(cells_of_heap h3).1,hl,(cells_of_heap h5).1,(cells_of_heap h5).2]
  generalize (w.setCell ⟨p5,1,none⟩ (.int .i64 40))=X at y5 y4 E ⊢
  have l4':=(Array.getElem?_eq_some_iff.1 y4).1
  simp (disch:=try exact DI) only [↓PR,QR,simprocAttr,(cells_of_heap y5).1,(cells_of_heap h4).1,(cells_of_heap y4).1,(cells_of_heap y4).2]
  exact ⟨by first | trivial | rfl,ee⟩
 | false =>
  simp (disch:=try exact DI) only [↓PR,QR,simprocAttr,(cells_of_heap h3).1,hl,(cells_of_heap h5).1,(cells_of_heap h4).1,(cells_of_heap h4).2]
  exact ⟨by first | trivial | rfl,ee⟩
theorem numberS_ret (hf1:fl.oneCell'=true) (hT:TermsOf w0 tv f.terms) (hC:CasesOf w0 cv f.cases) (h1:0≤f.low∧f.low < 9223372036854775808) (h2:0≤f.high∧f.high < 9223372036854775808):Ret Pg 102 #[.agg (planCells m fl mr).toArray,.agg (fieldCells f tv cv).toArray] w0 fun r w'=>r=rangeVal ((groupsP f.low.toNat:Nat)*8) (if f.loose then 40 else (groupsP f.high.toNat:Nat)*8)∧Ext w0 w':=by
 have ht1:=SliceOf.oneCell hT
 have hc1:=SliceOf.oneCell hC
 refine n118s (R:=retR _) ?_;unfold n118
 simp (disch:=try exact DI) only [↓PR,QR,simprocAttr]
 generalize hW:World.alloc (World.alloc (World.alloc w0 _) _) _=W
 have e0:Ext w0 W:=by rw [← hW];exact ee
 have o3:W.heap[w0.heap.size+1]?=some (.cells (fieldCells f tv cv).toArray 38 (0,0)):=by rw [← hW];simp (disch:=try exact DI) only [↓PR,QR,simprocAttr]
 have o4:W.heap[w0.heap.size+1+1]?=some (.cells #[.int .i64 0,.int .i64 0] 67 (0,0)):=by rw [← hW];simp (disch:=try exact DI) only [↓PR,QR,simprocAttr]
 clear hW
 have s0:=e0.size
 have l4:=(Array.getElem?_eq_some_iff.1 o4).1
 refine drawK_intro ?_
 have eD:Ext W W.drew:=(Ext.refl _).wdrew
 have sD:W.drew.heap.size=W.heap.size:=World.size_drew _
 have h1':((f.low.toNat:Nat):Int)=f.low:=by omega
 have h2':((f.high.toNat:Nat):Int)=f.high:=by omega
 have t1:∀ w,Two w 131 f.low 8 ((groupsP f.low.toNat:Nat)*8):=fun w w' _=>by have:=num1_ret w' f.low.toNat (by omega);rwa [h1'] at this
 have t2:∀ w,Two w 131 f.high 8 ((groupsP f.high.toNat:Nat)*8):=fun w w' _=>by have:=num1_ret w' f.high.toNat (by omega);rwa [h2'] at this
 have both:=fun w=>both_ret w f.low f.high 8 8 _ _ _ c131 (t1 w) (t2 w)
 clear t1 t2
 generalize (((groupsP f.low.toNat:Nat):Int)*8)=A at both ⊢
 generalize (((groupsP f.high.toNat:Nat):Int)*8)=B at both ⊢
 have st:∀ (w:World) (p:Nat),Ext W.drew w→W.heap.size≤p→w.heap[p]?=some (.cells #[.int .i64 0,.int .i64 0] 67 (0,0))→opU Pg (Instr.storeAt 67 (.pointer (some ⟨p,0,none⟩)) (rangeVal A B)) (panK (retR fun r w'=>r=rangeVal A (if f.loose then 40 else B)∧Ext w0 w')) w fun w=>turnK w fun C w=>n118c1 (.pointer (some ⟨w0.heap.size+1,0,none⟩)) (.pointer (some ⟨w0.heap.size+1+1,0,none⟩)) (.pointer (some ⟨p,0,none⟩)) (retR fun r w'=>r=rangeVal A (if f.loose then 40 else B)∧Ext w0 w') w:=by
  intro w p e hp hh
  simp (disch:=try exact DI) only [↓PR,QR,simprocAttr,(cells_of_heap hh).1,(cells_of_heap hh).2]
  refine turnK_intro ?_
  have y5:((w.setCell ⟨p,0,none⟩ (.int .i64 A)).setCell ⟨p,1,none⟩ (.int .i64 B)).heap[p]?=some (.cells #[.int .i64 A,.int .i64 B] 67 (0,0)):=by simpa using heap_set (o:=1) (heap_set (o:=0) hh (.int .i64 A)) (.int .i64 B)
  have only:∀ q,q≠p→((w.setCell ⟨p,0,none⟩ (.int .i64 A)).setCell ⟨p,1,none⟩ (.int .i64 B)).heap[q]?=w.heap[q]?:=fun q hq=>(Only.setCell _ p 1 (.int .i64 B) q hq).trans (Only.setCell w p 0 (.int .i64 A) q hq)
  have E:Ext w0 ((w.setCell ⟨p,0,none⟩ (.int .i64 A)).setCell ⟨p,1,none⟩ (.int .i64 B)):=((e0.trans (eD.trans e)).setCell (p:=⟨p,0,none⟩) (by show w0.heap.size≤p;omega) _).setCell (p:=⟨p,1,none⟩) (by show w0.heap.size≤p;omega) _
  exact num_c1 ((only _ (by omega)).trans (e.obj (eD.obj o3))) ((only _ (by omega)).trans (e.obj (eD.obj o4))) y5 (by omega) E (by omega) (by omega)
 unfold n118c4
 simp (disch:=try exact DI) only [↓PR,QR,simprocAttr,(cells_of_heap o3).1]
 repeat rw [World.size_alloc]
 refine ⟨?_,?_⟩
 · refine zcr (same_ret _ 8) fun w1 e1=>?_
   refine ⟨e1,?_⟩
   unfold n118c2
   refine ⟨?_,?_⟩
   · refine zcr (both _) fun w2 e2=>?_
     have E2:=e1.trans e2
     have s2:=E2.size
     refine ⟨E2,?_⟩
     have eX:Ext w2 (w2.alloc (.cells #[.int .i64 0,.int .i64 0] 67)):=ee
     have oX:=heap_new w2 #[.int .i64 0,.int .i64 0] 67
     rw [op_alloc ty67]
     refine ⟨E2.trans eX,?_⟩
     exact st _ _ (E2.trans eX) (by omega) oX
   · have eX:Ext w1 (w1.alloc (.cells #[.int .i64 0,.int .i64 0] 67)):=ee
     have oX:=heap_new w1 #[.int .i64 0,.int .i64 0] 67
     have s1:=e1.size
     rw [op_alloc ty67]
     refine ⟨e1.trans eX,?_⟩
     refine zcr (both _) fun w2 e2=>?_
     refine ⟨e1.trans (eX.trans e2),?_⟩
     exact st _ _ (e1.trans (eX.trans e2)) (by omega) (e2.obj oX)
 · have eX:Ext W.drew (W.drew.alloc (.cells #[.int .i64 0,.int .i64 0] 67)):=ee
   have oX:=heap_new W.drew #[.int .i64 0,.int .i64 0] 67
   refine ⟨eX,?_⟩
   refine zcr (same_ret _ 8) fun w1 e1=>?_
   unfold n118c3
   refine ⟨eX.trans e1,?_⟩
   refine zcr (both _) fun w2 e2=>?_
   refine ⟨eX.trans (e1.trans e2),?_⟩
   have sD2:(drew W).heap.size=W.heap.size:=sD
   exact st _ _ (eX.trans (e1.trans e2)) (by omega) (e2.obj (e1.obj oX))
def minI (a b:Int):Int:=if b < a then b else a
def stepC (sp:List (ByteArray×Int×Int)) (o:Int×Int) (c:CaseD):Int×Int:=(minI o.1 (lookS sp c.of).1,maxI o.2 (lookS sp c.of).2)
def choiceS (sp:List (ByteArray×Int×Int)) (l:List CaseD):Int×Int:=match l with
 | []=>(0,0)
 | c::_=>l.foldl (stepC sp) (lookS sp c.of)
theorem choiceF_ret (sp:List (ByteArray×Int×Int)) (hM:MapOf w0 mr (RP sp)) (hf1:fl.oneCell'=true) (hT:TermsOf w0 tv f.terms) (hC:CasesOf w0 cv f.cases) (hne:f.cases≠[]):Ret Pg 108 #[.agg (planCells m fl mr).toArray,.agg (fieldCells f tv cv).toArray] w0 fun r w'=>r=rangeVal (choiceS sp f.cases).1 (choiceS sp f.cases).2∧Ext w0 w':=by
 have ht1:=SliceOf.oneCell hT
 have hc1:=SliceOf.oneCell hC
 obtain ⟨A,c,rfl,hlc,hcm,hlm,hel⟩:=SliceOf.open hC
 obtain ⟨c0,hc0⟩:∃ c0,f.cases[0]?=some c0:=by
  cases hh:f.cases with
  | nil=>exact absurd hh hne
  | cons a l=>exact ⟨a,rfl⟩
 have hch:choiceS sp f.cases=f.cases.foldl (stepC sp) (lookS sp c0.of):=by
  cases hh:f.cases with
  | nil=>exact absurd hh hne
  | cons a l=>rw [hh] at hc0;injection hc0 with hc0;subst hc0;rfl
 have hl0:0 < f.cases.length:=(List.getElem?_eq_some_iff.1 hc0).1
 obtain ⟨b,o,cs0,rfl,_,hA0,rfl⟩:=hel 0 c0 hc0
 rw [Nat.zero_mul,Nat.add_zero] at hA0
 refine n116s (R:=retR _) ?_;unfold n116
 simp (disch:=try exact DI) only [↓PR,QR,simprocAttr]
 generalize hW:World.alloc (World.alloc (World.alloc w0 _) _) _=W
 have e0:Ext w0 W:=by rw [← hW];exact ee
 have o2:W.heap[w0.heap.size]?=some (.cells (planCells m fl mr).toArray 105 (0,0)):=by rw [← hW];simp (disch:=try exact DI) only [↓PR,QR,simprocAttr]
 have o3:W.heap[w0.heap.size+1]?=some (.cells (fieldCells f tv (.slice (some ⟨b,o,none⟩) f.cases.length c)).toArray 38 (0,0)):=by rw [← hW];simp (disch:=try exact DI) only [↓PR,QR,simprocAttr]
 have o4:W.heap[w0.heap.size+1+1]?=some (.cells #[.int .i64 0,.int .i64 0] 67 (0,0)):=by rw [← hW];simp (disch:=try exact DI) only [↓PR,QR,simprocAttr]
 clear hW
 have s0:=e0.size
 have l4:=(Array.getElem?_eq_some_iff.1 o4).1
 refine drawK_intro ?_
 have eD:Ext W W.drew:=(Ext.refl _).wdrew
 have sD:W.drew.heap.size=W.heap.size:=World.size_drew _
 have qlk:∀ K:Value→Prop,qV Pg (EC W.drew) (Instr.lookup 103 (.map (some mr)) (.string c0.of) false) K=K (rangeVal (lookS sp c0.of).1 (lookS sp c0.of).2):=fun K=>qV_eqC fun w' e=>run_of_op fun QP k=>run_look (hM.ext (e0.trans (eD.trans e))) c0.of QP k
 have qix:∀ K:Value→Prop,qV Pg (EC W.drew) (Instr.indexAt 36 (.slice (some ⟨b,o,none⟩) f.cases.length c) (.int .i64 0)) K=K (.pointer (some ⟨b,o,none⟩)):=fun K=>by
  have:=qV_of (C:=EC W.drew) (k:=K) fun QP w' k=>op_indexN (QP:=QP) (w:=w') (k:=k) Tryz.underlying36 ty116 b o f.cases.length c .i64 0 hl0
  rwa [Nat.zero_mul,Nat.add_zero] at this
 unfold n116c4
 simp (disch:=try exact DI) only [↓PR,QR,simprocAttr,(cells_of_heap o2).1,(cells_of_heap o3).1,qix,qlk,hA0.c3 (e0.trans eD),hA0.c3 e0,(hA0.c3 (Ext.refl w0))]
 repeat rw [World.size_alloc]
 refine ⟨ee,turnK_intro ?_⟩
 have o5:(W.drew.alloc (.cells #[.int .i64 (lookS sp c0.of).1,.int .i64 (lookS sp c0.of).2] 67)).heap[W.heap.size]?=some (.cells #[.int .i64 (lookS sp c0.of).1,.int .i64 (lookS sp c0.of).2] 67 (0,0)):=by have:=heap_new W.drew #[.int .i64 (lookS sp c0.of).1,.int .i64 (lookS sp c0.of).2] 67;rwa [sD] at this
 have eX:Ext W (W.drew.alloc (.cells #[.int .i64 (lookS sp c0.of).1,.int .i64 (lookS sp c0.of).2] 67)):=eD.trans ee
 have sD2:(drew W).heap.size=W.heap.size:=sD
 rw [sD2]
 generalize (W.drew.alloc (.cells #[.int .i64 (lookS sp c0.of).1,.int .i64 (lookS sp c0.of).2] 67))=X at o5 eX ⊢
 generalize hp5:W.heap.size=p5 at o5 l4 ⊢
 have n45:w0.heap.size+1+1≠p5:=by omega
 unfold n116c3
 simp (disch:=try exact DI) only [↓PR,QR,simprocAttr,(cells_of_heap (eX.obj o3)).1]
 refine loop1_intro (fun i w=>∃ k:Nat,i = .int .i64 k∧k≤f.cases.length∧Ext W w∧w.heap[p5]?=some (.cells #[.int .i64 ((f.cases.take k).foldl (stepC sp) (lookS sp c0.of)).1,.int .i64 ((f.cases.take k).foldl (stepC sp) (lookS sp c0.of)).2] 67 (0,0))) (fun i _=>f.cases.length - (intOf i).toNat) ⟨0,rfl,by omega,eX,o5⟩ ?_
 rintro _ w ⟨k,rfl,hk,e,x5⟩
 have E:=e0.trans e
 have l5:=(Array.getElem?_eq_some_iff.1 x5).1
 unfold n116c2
 rcases drop_cases hk with ⟨x,hx,hd,hlt,hdec⟩ | ⟨hk,hd,hdec⟩
 · obtain ⟨b',o',cs,hbo,_,hA,rfl⟩:=hel k x hx
   injection hbo with hbo
   injection hbo with hb1 hb2
   subst hb1 hb2
   have hst:(f.cases.take (k+1)).foldl (stepC sp) (lookS sp c0.of)=stepC sp ((f.cases.take k).foldl (stepC sp) (lookS sp c0.of)) x:=by rw [take_snoc hx,List.foldl_append];rfl
   generalize (f.cases.take k).foldl (stepC sp) (lookS sp c0.of)=z at x5 hst
   simp (disch:=try exact DI) only [↓PR,QR,simprocAttr,hdec]
   unfold n116c1
   have eA:Ext w (w.alloc (.cells (caseCells x).toArray 116)):=ee
   have hlk:=run_look ((hM.ext E).ext eA) x.of
   try unfold X0
   try unfold L0
   rw [op_indexN Tryz.underlying36 ty116 _ _ _ _ _ k hlt,op_load ((hA.ext E).loads ty116 rfl)]
   simp (disch:=try exact DI) only [↓PR,QR,simprocAttr,(cells_of_heap (e.obj o2)).1,hlk,(cells_of_heap x5).1,(cells_of_heap x5).2]
   refine ⟨⟨k+1,rfl,by omega,ee,?_⟩,meas_lt hlt⟩
   rw [hst]
   simpa [stepC,minI,maxI] using heap_set (o:=1) (heap_set (o:=0) x5 (.int .i64 (minI z.1 (lookS sp x.of).1))) (.int .i64 (maxI z.2 (lookS sp x.of).2))
 · subst hk
   rw [List.take_length,← hch] at x5
   have x4:=e.obj o4
   have l44:=(Array.getElem?_eq_some_iff.1 x4).1
   simp (disch:=try exact DI) only [↓PR,QR,simprocAttr,hdec,(cells_of_heap x5).1,(cells_of_heap x4).1,(cells_of_heap x4).2]
   exact ⟨by first | trivial | rfl,ee⟩
end
def spanF (sp:List (ByteArray×Int×Int)) (l:List FieldD) (f:FieldD):Int×Int :=
 if f.kind=1∨f.kind=2 then (f.bits,f.bits) else
 if f.kind=3 then ((groupsP f.low.toNat:Nat)*8,if f.loose then 40 else (groupsP f.high.toNat:Nat)*8) else
 if f.kind=4∨f.kind=12 then (capF (ivL l f*8),capF (ivH l f*8)) else
 if f.kind=5 then (8,8*(f.high+1)) else
 if f.kind=6 then (16,8*f.high) else
 if f.kind=7 then (capF (ivL l f*(lookS sp f.of).1),capF (ivH l f*(lookS sp f.of).2)) else
 if f.kind=8 then lookS sp f.of else
 if f.kind=9 then choiceS sp f.cases else
 if f.kind=10 then (0,f.bits - 1) else if f.check=3 then (32,32) else (16,16)
structure OkS (sp:List (ByteArray×Int×Int)) (l:List FieldD) (f:FieldD):Prop where
 kind:1≤f.kind∧f.kind≤12
 num:f.kind=3→(0≤f.low∧f.low < 9223372036854775808)∧0≤f.high∧f.high < 9223372036854775808
 iv:f.kind=4∨f.kind=12∨f.kind=7→(0≤ivL l f∧ivL l f≤2097152)∧0≤ivH l f∧ivH l f≤2097152
 high:f.kind=5∨f.kind=6→0≤f.high∧f.high≤1048576
 of:f.kind=7→(0≤(lookS sp f.of).1∧(lookS sp f.of).1≤1099511627776)∧0≤(lookS sp f.of).2∧(lookS sp f.of).2≤1099511627776
 cases:f.kind=9→f.cases≠[]
 bits:f.kind=10→0≤f.bits∧f.bits≤1048576
 terms:f.terms.length≤1048576
theorem kindm_step {w0 w:World} {m c:Nat} {L:List (Int×Value×Nat)} {QP:List PanicEntry→World→Prop} {ku:World→Prop} (hM:MapB w m kindEnc L c) (e:Ext w0 w) (hm:w0.heap.size≤m) (k:Int) (v:Value)
 (h:∀ w' L' c',MapB w' m kindEnc L' c'→(∀ k',Sw.look L' k'=if k'=k then some v else Sw.look L k')→Ext w0 w'→ku w'):opU Pg (Instr.mapUpdate 142 (.map (some m)) (.int .i64 k) v) QP w ku:=by
 rw [op_mapUpdate Tryz.underlying142 (KeyOK.int Tryz.underlying32) hM k v]
 exact h _ _ _ (hM.put k v) (fun k'=>look_put _ _ _ _ _) (e.putObj hm _)
theorem of_ret (w0:World) (m:MsgD) (fl tv cv:Value) (mr:Nat) (f:FieldD) (sp:List (ByteArray×Int×Int)) (hM:MapOf w0 mr (RP sp)) (hF:FieldsOf w0 fl m.fields) (hT:TermsOf w0 tv f.terms) (hC:CasesOf w0 cv f.cases) (ok:OkS sp m.fields f):Ret Pg 67 #[.agg (planCells m fl mr).toArray,.agg (fieldCells f tv cv).toArray] w0 fun r w'=>r=rangeVal (spanF sp m.fields f).1 (spanF sp m.fields f).2∧Ext w0 w':=by
 have ht1:=SliceOf.oneCell hT
 have hc1:=SliceOf.oneCell hC
 have hf1:=SliceOf.oneCell hF
 refine n120s (R:=retR _) ?_;unfold n120
 rw [op_boxA,op_boxA,op_alloc ty67]
 show opV _ _ _ (((w0.alloc (.cells (planCells m fl mr).toArray 105)).alloc (.cells (fieldCells f tv cv).toArray 38)).alloc (.cells #[.int .i64 0,.int .i64 0] 67)) _
 simp only [World.size_alloc]
 generalize hW:(((w0.alloc (.cells (planCells m fl mr).toArray 105)).alloc (.cells (fieldCells f tv cv).toArray 38)).alloc (.cells #[.int .i64 0,.int .i64 0] 67))=W
 have e0:Ext w0 W:=by rw [← hW];exact ee
 have o2:W.heap[w0.heap.size]?=some (.cells (planCells m fl mr).toArray 105 (0,0)):=by rw [← hW];simp (disch:=try exact DI) only [↓PR,QR,simprocAttr]
 have o3:W.heap[w0.heap.size+1]?=some (.cells (fieldCells f tv cv).toArray 38 (0,0)):=by rw [← hW];simp (disch:=try exact DI) only [↓PR,QR,simprocAttr]
 have o4:W.heap[w0.heap.size+1+1]?=some (.cells #[.int .i64 0,.int .i64 0] 67 (0,0)):=by rw [← hW];simp (disch:=try exact DI) only [↓PR,QR,simprocAttr]
 clear hW
 generalize hp4:w0.heap.size+1+1=p4 at o4 ⊢
 generalize hp3:w0.heap.size+1=p3 at o3 hp4 ⊢
 generalize hp2:w0.heap.size=p2 at o2 ⊢
 simp (disch:=try exact DI) only [↓PR,QR,simprocAttr]
 have eM0:Ext W (W.alloc (.map #[] 0)):=ee
 have hM0:MapB (W.alloc (.map #[] 0)) W.heap.size kindEnc [] 0:=MapB.new W _
 have cv_fin:∀ (w:World) (g:FuncId) (first caps:Array Value),Ext W w→Callable Pg g→(Ret Pg g (first ++ #[.agg (fieldCells f tv cv).toArray]++caps) w fun r w'=>r=rangeVal (spanF sp m.fields f).1 (spanF sp m.fields f).2∧Ext w w') →
  callV Pg (.func (.func g) first caps) #[.agg (fieldCells f tv cv).toArray] (panK (retR fun r w'=>r=rangeVal (spanF sp m.fields f).1 (spanF sp m.fields f).2∧Ext w0 w')) w fun t27 w=>opU Pg (Instr.storeAt 67 (.pointer (some ⟨p4,0,none⟩)) t27) (panK (retR fun r w'=>r=rangeVal (spanF sp m.fields f).1 (spanF sp m.fields f).2∧Ext w0 w')) w fun w=>qW Pg 67 (.pointer (some ⟨p4,0,none⟩)) w fun r0=>retR (fun r w'=>r=rangeVal (spanF sp m.fields f).1 (spanF sp m.fields f).2∧Ext w0 w') (.returned r0) w:=by
  intro w g first caps e hg hr
  rw [callV_func hg]
  refine callK_ret hr ?_
  rintro _ w1 ⟨rfl,e1⟩
  have x4:=e1.obj (e.obj o4)
  have E1:=e0.trans (e.trans e1)
  have l4:=(Array.getElem?_eq_some_iff.1 x4).1
  simp (disch:=try exact DI) only [↓PR,QR,simprocAttr,(cells_of_heap x4).1,(cells_of_heap x4).2]
  exact ⟨by first | trivial | rfl,ee⟩
 refine kindm_step hM0 eM0 (Nat.le_refl _) 1 _ (fun w1 L1 c1 hM1 hl1 eM1=>?_)
 try simp (disch:=try exact DI) only [↓PR,QR,simprocAttr,(cells_of_heap (eM1.obj o2)).1]
 refine kindm_step hM1 eM1 (Nat.le_refl _) 2 _ (fun w2 L2 c2 hM2 hl2 eM2=>?_)
 try simp (disch:=try exact DI) only [↓PR,QR,simprocAttr,(cells_of_heap (eM2.obj o2)).1]
 refine kindm_step hM2 eM2 (Nat.le_refl _) 3 _ (fun w3 L3 c3 hM3 hl3 eM3=>?_)
 try simp (disch:=try exact DI) only [↓PR,QR,simprocAttr,(cells_of_heap (eM3.obj o2)).1]
 refine kindm_step hM3 eM3 (Nat.le_refl _) 4 _ (fun w4 L4 c4 hM4 hl4 eM4=>?_)
 try simp (disch:=try exact DI) only [↓PR,QR,simprocAttr,(cells_of_heap (eM4.obj o2)).1]
 refine kindm_step hM4 eM4 (Nat.le_refl _) 5 _ (fun w5 L5 c5 hM5 hl5 eM5=>?_)
 try simp (disch:=try exact DI) only [↓PR,QR,simprocAttr,(cells_of_heap (eM5.obj o2)).1]
 refine kindm_step hM5 eM5 (Nat.le_refl _) 6 _ (fun w6 L6 c6 hM6 hl6 eM6=>?_)
 try simp (disch:=try exact DI) only [↓PR,QR,simprocAttr,(cells_of_heap (eM6.obj o2)).1]
 refine kindm_step hM6 eM6 (Nat.le_refl _) 7 _ (fun w7 L7 c7 hM7 hl7 eM7=>?_)
 try simp (disch:=try exact DI) only [↓PR,QR,simprocAttr,(cells_of_heap (eM7.obj o2)).1]
 refine kindm_step hM7 eM7 (Nat.le_refl _) 8 _ (fun w8 L8 c8 hM8 hl8 eM8=>?_)
 try simp (disch:=try exact DI) only [↓PR,QR,simprocAttr,(cells_of_heap (eM8.obj o2)).1]
 refine kindm_step hM8 eM8 (Nat.le_refl _) 9 _ (fun w9 L9 c9 hM9 hl9 eM9=>?_)
 try simp (disch:=try exact DI) only [↓PR,QR,simprocAttr,(cells_of_heap (eM9.obj o2)).1]
 refine kindm_step hM9 eM9 (Nat.le_refl _) 10 _ (fun w10 L10 c10 hM10 hl10 eM10=>?_)
 try simp (disch:=try exact DI) only [↓PR,QR,simprocAttr,(cells_of_heap (eM10.obj o2)).1]
 refine kindm_step hM10 eM10 (Nat.le_refl _) 11 _ (fun w11 L11 c11 hM11 hl11 eM11=>?_)
 try simp (disch:=try exact DI) only [↓PR,QR,simprocAttr,(cells_of_heap (eM11.obj o2)).1]
 refine kindm_step hM11 eM11 (Nat.le_refl _) 12 _ (fun w12 L12 c12 hM12 hl12 eM12=>?_)
 have hlk:=fun (QP:List PanicEntry→World→Prop) (K:Value→World→Prop)=>op_lookup1 (k':=K) (QP:=QP) Tryz.underlying142 (KeyOK.int Tryz.underlying32) ty106 hM12 f.kind
 have hn:∀ k,Sw.look ([]:List (Int×Value×Nat)) k=none:=fun _=>rfl
 have E:=e0.trans eM12
 have hF':=hF.ext E
 have hT':=hT.ext E
 have hC':=hC.ext E
 have hMp:=hM.ext E
 have hk12:f.kind=1∨f.kind=2∨f.kind=3∨f.kind=4∨f.kind=5∨f.kind=6∨f.kind=7∨f.kind=8∨f.kind=9∨f.kind=10∨f.kind=11∨f.kind=12:=by have:=ok.kind;omega
 rcases hk12 with hk | hk | hk | hk | hk | hk | hk | hk | hk | hk | hk | hk
 · have hlook:Sw.look L12 f.kind=some (.func (.func 101) #[] #[]):=by
    rw [hk,hl12,hl11,hl10,hl9,hl8,hl7,hl6,hl5,hl4,hl3,hl2,hl1]
    rw [if_neg (by decide)];rw [if_neg (by decide)];rw [if_neg (by decide)];rw [if_neg (by decide)];rw [if_neg (by decide)];rw [if_neg (by decide)];rw [if_neg (by decide)];rw [if_neg (by decide)];rw [if_neg (by decide)];rw [if_neg (by decide)];rw [if_neg (by decide)];rw [if_pos rfl]
   have hS:spanF sp m.fields f=(f.bits,f.bits):=by unfold spanF;simp [hk]
   rw [hlook] at hlk
   simp (disch:=try exact DI) only [↓PR,QR,simprocAttr,(cells_of_heap (eM12.obj o3)).1,hlk,Option.getD_some]
   refine cv_fin _ _ _ _ eM12 c101 ?_
   rw [hS]
   exact of1_ret _ tv cv f hT' hC'
 · have hlook:Sw.look L12 f.kind=some (.func (.func 101) #[] #[]):=by
    rw [hk,hl12,hl11,hl10,hl9,hl8,hl7,hl6,hl5,hl4,hl3,hl2]
    rw [if_neg (by decide)];rw [if_neg (by decide)];rw [if_neg (by decide)];rw [if_neg (by decide)];rw [if_neg (by decide)];rw [if_neg (by decide)];rw [if_neg (by decide)];rw [if_neg (by decide)];rw [if_neg (by decide)];rw [if_neg (by decide)];rw [if_pos rfl]
   have hS:spanF sp m.fields f=(f.bits,f.bits):=by unfold spanF;simp [hk]
   rw [hlook] at hlk
   simp (disch:=try exact DI) only [↓PR,QR,simprocAttr,(cells_of_heap (eM12.obj o3)).1,hlk,Option.getD_some]
   refine cv_fin _ _ _ _ eM12 c101 ?_
   rw [hS]
   exact of1_ret _ tv cv f hT' hC'
 · have hlook:Sw.look L12 f.kind=some (.func (.func 102) #[.agg (planCells m fl mr).toArray] #[]):=by
    rw [hk,hl12,hl11,hl10,hl9,hl8,hl7,hl6,hl5,hl4,hl3]
    rw [if_neg (by decide)];rw [if_neg (by decide)];rw [if_neg (by decide)];rw [if_neg (by decide)];rw [if_neg (by decide)];rw [if_neg (by decide)];rw [if_neg (by decide)];rw [if_neg (by decide)];rw [if_neg (by decide)];rw [if_pos rfl]
   have hS:spanF sp m.fields f=(((groupsP f.low.toNat:Nat):Int)*8,if f.loose then 40 else ((groupsP f.high.toNat:Nat):Int)*8):=by unfold spanF;simp [hk]
   rw [hlook] at hlk
   simp (disch:=try exact DI) only [↓PR,QR,simprocAttr,(cells_of_heap (eM12.obj o3)).1,hlk,Option.getD_some]
   refine cv_fin _ _ _ _ eM12 c102 ?_
   rw [hS]
   exact numberS_ret hf1 hT' hC' (ok.num hk).1 (ok.num hk).2
 · have hlook:Sw.look L12 f.kind=some (.func (.func 103) #[.agg (planCells m fl mr).toArray] #[]):=by
    rw [hk,hl12,hl11,hl10,hl9,hl8,hl7,hl6,hl5,hl4]
    rw [if_neg (by decide)];rw [if_neg (by decide)];rw [if_neg (by decide)];rw [if_neg (by decide)];rw [if_neg (by decide)];rw [if_neg (by decide)];rw [if_neg (by decide)];rw [if_neg (by decide)];rw [if_pos rfl]
   have hS:spanF sp m.fields f=(capF (ivL m.fields f*8),capF (ivH m.fields f*8)):=by unfold spanF;simp [hk]
   rw [hlook] at hlk
   simp (disch:=try exact DI) only [↓PR,QR,simprocAttr,(cells_of_heap (eM12.obj o3)).1,hlk,Option.getD_some]
   refine cv_fin _ _ _ _ eM12 c103 ?_
   rw [hS]
   exact bytesS_ret _ m fl tv cv mr f hF' hT' hC' ok.terms (ok.iv (by omega)).1 (ok.iv (by omega)).2
 · have hlook:Sw.look L12 f.kind=some (.func (.func 104) #[] #[]):=by
    rw [hk,hl12,hl11,hl10,hl9,hl8,hl7,hl6,hl5]
    rw [if_neg (by decide)];rw [if_neg (by decide)];rw [if_neg (by decide)];rw [if_neg (by decide)];rw [if_neg (by decide)];rw [if_neg (by decide)];rw [if_neg (by decide)];rw [if_pos rfl]
   have hS:spanF sp m.fields f=(8,8*(f.high+1)):=by unfold spanF;simp [hk]
   rw [hlook] at hlk
   simp (disch:=try exact DI) only [↓PR,QR,simprocAttr,(cells_of_heap (eM12.obj o3)).1,hlk,Option.getD_some]
   refine cv_fin _ _ _ _ eM12 c104 ?_
   rw [hS]
   exact of2_ret _ tv cv f hT' hC' (ok.high (by omega))
 · have hlook:Sw.look L12 f.kind=some (.func (.func 105) #[] #[]):=by
    rw [hk,hl12,hl11,hl10,hl9,hl8,hl7,hl6]
    rw [if_neg (by decide)];rw [if_neg (by decide)];rw [if_neg (by decide)];rw [if_neg (by decide)];rw [if_neg (by decide)];rw [if_neg (by decide)];rw [if_pos rfl]
   have hS:spanF sp m.fields f=(16,8*f.high):=by unfold spanF;simp [hk]
   rw [hlook] at hlk
   simp (disch:=try exact DI) only [↓PR,QR,simprocAttr,(cells_of_heap (eM12.obj o3)).1,hlk,Option.getD_some]
   refine cv_fin _ _ _ _ eM12 c105 ?_
   rw [hS]
   exact of3_ret _ tv cv f hT' hC' (ok.high (by omega))
 · have hlook:Sw.look L12 f.kind=some (.func (.func 106) #[.agg (planCells m fl mr).toArray] #[]):=by
    rw [hk,hl12,hl11,hl10,hl9,hl8,hl7]
    rw [if_neg (by decide)];rw [if_neg (by decide)];rw [if_neg (by decide)];rw [if_neg (by decide)];rw [if_neg (by decide)];rw [if_pos rfl]
   have hS:spanF sp m.fields f=(capF (ivL m.fields f*(lookS sp f.of).1),capF (ivH m.fields f*(lookS sp f.of).2)):=by unfold spanF;simp [hk]
   rw [hlook] at hlk
   simp (disch:=try exact DI) only [↓PR,QR,simprocAttr,(cells_of_heap (eM12.obj o3)).1,hlk,Option.getD_some]
   refine cv_fin _ _ _ _ eM12 c106 ?_
   rw [hS]
   exact listS_ret _ m fl tv cv mr f sp hMp hF' hT' hC' ok.terms (ok.iv (by omega)).1 (ok.iv (by omega)).2 (ok.of hk).1 (ok.of hk).2
 · have hlook:Sw.look L12 f.kind=some (.func (.func 107) #[] #[.pointer (some ⟨p2,0,none⟩)]):=by
    rw [hk,hl12,hl11,hl10,hl9,hl8]
    rw [if_neg (by decide)];rw [if_neg (by decide)];rw [if_neg (by decide)];rw [if_neg (by decide)];rw [if_pos rfl]
   have hS:spanF sp m.fields f=lookS sp f.of:=by unfold spanF;simp [hk]
   rw [hlook] at hlk
   simp (disch:=try exact DI) only [↓PR,QR,simprocAttr,(cells_of_heap (eM12.obj o3)).1,hlk,Option.getD_some]
   refine cv_fin _ _ _ _ eM12 c107 ?_
   rw [hS]
   exact of4_ret _ m fl tv cv mr f sp p2 hMp (eM12.obj o2) hT' hC'
 · have hlook:Sw.look L12 f.kind=some (.func (.func 108) #[.agg (planCells m fl mr).toArray] #[]):=by
    rw [hk,hl12,hl11,hl10,hl9]
    rw [if_neg (by decide)];rw [if_neg (by decide)];rw [if_neg (by decide)];rw [if_pos rfl]
   have hS:spanF sp m.fields f=choiceS sp f.cases:=by unfold spanF;simp [hk]
   rw [hlook] at hlk
   simp (disch:=try exact DI) only [↓PR,QR,simprocAttr,(cells_of_heap (eM12.obj o3)).1,hlk,Option.getD_some]
   refine cv_fin _ _ _ _ eM12 c108 ?_
   rw [hS]
   exact choiceF_ret sp hMp hf1 hT' hC' (ok.cases hk)
 · have hlook:Sw.look L12 f.kind=some (.func (.func 109) #[] #[]):=by
    rw [hk,hl12,hl11,hl10]
    rw [if_neg (by decide)];rw [if_neg (by decide)];rw [if_pos rfl]
   have hS:spanF sp m.fields f=(0,f.bits - 1):=by unfold spanF;simp [hk]
   rw [hlook] at hlk
   simp (disch:=try exact DI) only [↓PR,QR,simprocAttr,(cells_of_heap (eM12.obj o3)).1,hlk,Option.getD_some]
   refine cv_fin _ _ _ _ eM12 c109 ?_
   rw [hS]
   exact of5_ret _ tv cv f hT' hC' (ok.bits hk)
 · have hlook:Sw.look L12 f.kind=some (.func (.func 110) #[.agg (planCells m fl mr).toArray] #[]):=by
    rw [hk,hl12,hl11]
    rw [if_neg (by decide)];rw [if_pos rfl]
   have hS:spanF sp m.fields f=if f.check=3 then (32,32) else (16,16):=by unfold spanF;simp [hk]
   rw [hlook] at hlk
   simp (disch:=try exact DI) only [↓PR,QR,simprocAttr,(cells_of_heap (eM12.obj o3)).1,hlk,Option.getD_some]
   refine cv_fin _ _ _ _ eM12 c110 ?_
   rw [hS]
   have:=checkS_ret _ m fl tv cv mr f hf1 hT' hC'
   by_cases h3:f.check=3
   · rw [if_pos h3] at this;rw [if_pos h3];exact this
   · rw [if_neg h3] at this;rw [if_neg h3];exact this
 · have hlook:Sw.look L12 f.kind=some (.func (.func 103) #[.agg (planCells m fl mr).toArray] #[]):=by
    rw [hk,hl12]
    rw [if_pos rfl]
   have hS:spanF sp m.fields f=(capF (ivL m.fields f*8),capF (ivH m.fields f*8)):=by unfold spanF;simp [hk]
   rw [hlook] at hlk
   simp (disch:=try exact DI) only [↓PR,QR,simprocAttr,(cells_of_heap (eM12.obj o3)).1,hlk,Option.getD_some]
   refine cv_fin _ _ _ _ eM12 c103 ?_
   rw [hS]
   exact bytesS_ret _ m fl tv cv mr f hF' hT' hC' ok.terms (ok.iv (by omega)).1 (ok.iv (by omega)).2
def EFieldW (_:World) (cs:List Value) (f:FieldD):Prop:=∃ tv cv,cs=fieldCells f tv cv∧tv.oneCell'=true∧cv.oneCell'=true
theorem keptFieldW:Kept EFieldW:=fun _ _ _ _ _ h=>h
def FieldsW (w:World) (v:Value) (l:List FieldD):Prop:=SliceOf w 15 EFieldW v l
theorem FieldsW.ext {w w':World} {v:Value} {l:List FieldD} (h:FieldsW w v l) (e:Ext w w'):FieldsW w' v l:=SliceOf.ext keptFieldW h e
def OffAt (pb:Nat) (v:Value) (l:List FieldD) (w:World):Prop:=w.heap[pb]?=some (.cells #[v] 42 (0,0))∧FieldsW w v l
theorem OffAt.ext {pb:Nat} {v:Value} {l:List FieldD} {w w':World} (h:OffAt pb v l w) (e:Ext w w'):OffAt pb v l w':=⟨e.obj h.1,h.2.ext e⟩
theorem ElemAt.of_heap {w:World} {b:Nat} {cs:List Value} {T:TypeId} (h:w.heap[b]?=some (.cells cs.toArray T (0,0))):ElemAt w b 0 cs:=fun j v hv=>by
 rw [Nat.zero_add,(cells_of_heap h).1];simpa using hv
theorem outs_marks {L:List (Option TypeId×Value)} {R:RT} {bs:List Nat}:∀ {w w0:World},bs.Nodup→(∀ b∈bs,MarkAt b w∧w0.heap.size≤b)→Ext w0 w →
 (∀ w',Ext w0 w'→(∀ (b:Nat) (o:Obj),(∀ d,o ≠ .deferred d)→w.heap[b]?=some o→w'.heap[b]?=some o)→outX Pg [] L R w')→outX Pg (bs.map Sw.mark) L R w:=by
 induction bs with
 | nil=>exact fun _ _ e h=>h _ e fun _ _ _ h=>h
 | cons b bs ih =>
  intro w w0 hn hm e h
  obtain ⟨hb,hn'⟩:=List.nodup_cons.1 hn
  have hmb:=hm b (List.mem_cons_self ..)
  refine outX_mark hmb.1 (ih (w0:=w0) hn' (fun c hc=>⟨?_,(hm c (List.mem_cons_of_mem _ hc)).2⟩) (e.putObj hmb.2 _) (fun w' e' h'=>h w' e' (fun c o ho hc=>h' c o ho ((World.putObj_heap_other ?_).trans hc))))
  · exact (World.putObj_heap_other (fun (e:c=b)=>hb (by rw [← e];exact hc))).trans (hm c (List.mem_cons_of_mem _ hc)).1
  · rintro rfl
    have:=hmb.1
    unfold MarkAt at this
    rw [hc] at this
    injection this with this
    exact ho _ this
theorem has_nd {T:TypeId} {cs:Array Value}:∀ d,Obj.cells cs T (0,0) ≠ .deferred d:=fun _ h=>by cases h
def stepQ (sp:List (ByteArray×Int×Int)) (l:List FieldD) (a:Int×Int) (f:FieldD):Int×Int :=
 if f.kind=10 then (capF (upI a.1 f.bits),capF (upI a.2 f.bits)) else (capF (a.1+(spanF sp l f).1),capF (a.2+(spanF sp l f).2))
def posS (sp:List (ByteArray×Int×Int)) (l:List FieldD) (k:Nat):Int×Int:=(l.take k).foldl (stepQ sp l) (0,0)
theorem posS_step {sp:List (ByteArray×Int×Int)} {l:List FieldD} {k:Nat} {f:FieldD} (h:l[k]?=some f):posS sp l (k+1)=stepQ sp l (posS sp l k) f:=by unfold posS;rw [take_snoc h,List.foldl_append];rfl
structure OkM (sp:List (ByteArray×Int×Int)) (l:List FieldD):Prop where
 ok:∀ f∈l,OkS sp l f
 pad:∀ f∈l,f.kind=10→1≤f.bits∧f.bits≤512
 span:∀ f∈l,f.kind≠10→(0≤(spanF sp l f).1∧(spanF sp l f).1≤1099511627776)∧0≤(spanF sp l f).2∧(spanF sp l f).2≤1099511627776
theorem upI_nonneg {v n:Int} (hv:0≤v) (hn:1≤n):0≤upI v n:=by
 obtain ⟨q,hq,he,h1,h2⟩:=upI_mul hv hn
 rw [he];omega
theorem posS_in {sp:List (ByteArray×Int×Int)} {l:List FieldD} (ok:OkM sp l):∀ k,(0≤(posS sp l k).1∧(posS sp l k).1≤1099511627776)∧0≤(posS sp l k).2∧(posS sp l k).2≤1099511627776
 | 0=>by simp [posS]
 | k+1=>by
  by_cases hk:k < l.length
  · obtain ⟨f,hf⟩:=getElem?_lt hk
    have hm:=List.mem_of_getElem? hf
    obtain ⟨⟨a1,a2⟩,b1,b2⟩:=posS_in ok k
    rw [posS_step hf]
    unfold stepQ
    split
    · rename_i h10
      have hb:=ok.pad f hm h10
      exact ⟨capF_in (upI_nonneg a1 hb.1),capF_in (upI_nonneg b1 hb.1)⟩
    · rename_i h10
      have hb:=ok.span f hm h10
      exact ⟨capF_in (by omega),capF_in (by omega)⟩
  · have:posS sp l (k+1)=posS sp l k:=by unfold posS;rw [List.take_of_length_le (by omega),List.take_of_length_le (by omega)]
    rw [this];exact posS_in ok k
def PosAt (pb:Nat) (m:MsgD) (fl:Value) (mr:Nat) (sp:List (ByteArray×Int×Int)) (w:World):Prop:=w.heap[pb]?=some (.cells (planCells m fl mr).toArray 105 (0,0))∧FieldsOf w fl m.fields∧MapOf w mr (RP sp)
theorem PosAt.ext {pb:Nat} {m:MsgD} {fl:Value} {mr:Nat} {sp:List (ByteArray×Int×Int)} {w w':World} (h:PosAt pb m fl mr sp w) (e:Ext w w'):PosAt pb m fl mr sp w':=⟨e.obj h.1,FieldsOf.ext h.2.1 e,h.2.2.ext e⟩
theorem positions_ret (w0:World) (m:MsgD) (fl:Value) (mr:Nat) (sp:List (ByteArray×Int×Int)) (hM:MapOf w0 mr (RP sp)) (hF:FieldsOf w0 fl m.fields):Ret Pg 111 #[.agg (planCells m fl mr).toArray] w0 fun r w'=>∃ pb,r = .func (.func 135) #[] #[.pointer (some ⟨pb,0,none⟩)]∧PosAt pb m fl mr sp w'∧w0.heap.size≤pb∧pb < w'.heap.size∧Ext w0 w':=by
 have hf1:=SliceOf.oneCell hF
 refine n126s (R:=retR _) ?_;unfold n126
 simp (disch:=try exact DI) only [↓PR,QR,simprocAttr]
 have e0:Ext w0 (w0.alloc (.cells (planCells m fl mr).toArray 105)):=ee
 exact ⟨_,rfl,⟨heap_new _ _ _,hF.ext e0,hM.ext e0⟩,Nat.le_refl _,by simp,e0⟩
theorem positions_seq {wB:World} (pb:Nat) (m:MsgD) (fl:Value) (mr:Nat) (sp:List (ByteArray×Int×Int)) (ok:OkM sp m.fields) (hF:FieldsOf wB fl m.fields) (hMp:MapOf wB mr (RP sp)) :
 SeqIt3 Pg 135 #[.pointer (some ⟨pb,0,none⟩)] (m.fields.length+1) (fun k => .int .i64 k) (fun k=>rangeVal (posS sp m.fields k).1 (posS sp m.fields k).2) (fun w=>w.heap[pb]?=some (.cells (planCells m fl mr).toArray 105 (0,0))∧Ext wB w):=by
 intro yv J Jx Jp w hy hFP hJl hJx hJp hstep h0
 obtain ⟨A,c,rfl,hlc,hcm,hlm,hel⟩:=SliceOf.open hF
 obtain ⟨ho,eB⟩:=hFP 0 w h0
 have sB:=eB.size
 refine n127s (t0:=yv) (t1 := .pointer (some ⟨pb,0,none⟩)) ?_
 unfold n127
 have lpb:=(Array.getElem?_eq_some_iff.1 ho).1
 simp (disch:=try exact DI) only [↓PR,QR,simprocAttr,(cells_of_heap ho).1]
 have eX:Ext w (w.alloc (.cells #[.int .i64 0,.int .i64 0] 67)):=ee
 have oX:=heap_new w #[.int .i64 0,.int .i64 0] 67
 have hJ0:=(hJl 0).ext h0 eX
 generalize (w.alloc (.cells #[.int .i64 0,.int .i64 0] 67))=X at eX oX hJ0 ⊢
 generalize hpx:w.heap.size=px at oX ⊢
 refine loop1_intro (fun i w'=>∃ k:Nat,i = .int .i64 k∧k≤m.fields.length∧J k w'∧w'.heap[px]?=some (.cells #[.int .i64 (posS sp m.fields k).1,.int .i64 (posS sp m.fields k).2] 67 (0,0))) (fun i _=>m.fields.length - (intOf i).toNat) ⟨0,rfl,by omega,hJ0,oX⟩ ?_
 rintro _ w' ⟨k,rfl,hk,hJ,xX⟩
 obtain ⟨ho',e'⟩:=hFP k w' hJ
 have lX:=(Array.getElem?_eq_some_iff.1 xX).1
 have hin:=posS_in ok k
 rcases drop_cases hk with ⟨x,hx,hd,hlt,hdec⟩ | ⟨hk,hd,hdec⟩
 · obtain ⟨b,o,cs,rfl,hl,hA,hE⟩:=hel k x hx
   obtain ⟨tv,cv,rfl,hT,hC,ht1,hc1⟩:=hE.op
   have hm:=List.mem_of_getElem? hx
   have okx:=ok.ok x hm
   have hstp:=posS_step (sp:=sp) hx
   simp (disch:=try exact DI) only [↓PR,QR,simprocAttr,hdec]
   unfold n127c7
   try unfold X0
   try unfold L0
   rw [op_indexN Tryz.underlying42 ty38 _ _ _ _ _ k hlt,op_load ((hA.ext e').loads ty38 rfl)]
   simp (disch:=try exact DI) only [↓PR,QR,simprocAttr,(cells_of_heap xX).1]
   have eW:Ext w' (w'.alloc (.cells (fieldCells x tv cv).toArray 38)):=ee
   have oW:=heap_new w' (fieldCells x tv cv).toArray 38
   have xW:=eW.obj xX
   generalize (w'.alloc (.cells (fieldCells x tv cv).toArray 38))=W at eW oW xW ⊢
   generalize hpf:w'.heap.size=pf at oW lX ⊢
   have hs:=hstep k (by omega) (fun u=>u.heap[pf]?=some (.cells (fieldCells x tv cv).toArray 38 (0,0))∧u.heap[px]?=some (.cells #[.int .i64 (posS sp m.fields k).1,.int .i64 (posS sp m.fields k).2] 67 (0,0))) ((Firm.has (by omega) (by simp)).and (Firm.has (by omega) (by simp))) W ((hJl k).ext hJ eW) ⟨oW,xW⟩
   refine callV_mono hs (fun ch w h=>h.2) ?_
   rintro v w2 ⟨⟨o2,x2⟩,⟨rfl,h2⟩ | ⟨rfl,h2⟩⟩
   · obtain ⟨ho2,e2⟩:=hFP (k+1) w2 h2
     have l2:=(Array.getElem?_eq_some_iff.1 x2).1
     simp (disch:=try exact DI) only [↓PR,QR,simprocAttr]
     unfold n127c5
     have fin:∀ (w3:World) (a b:Int),Ext w2 w3→(a,b)=posS sp m.fields (k+1)→opU Pg (Instr.storeAt 67 (.pointer (some ⟨px,0,none⟩)) (rangeVal a b)) (panK fun e w'=>match e with | .returned _=>J (m.fields.length+1) w'∨Jx w' | .panicked ch=>Jp ch w' | .outgrown=>False) w3 fun w=>turnK w fun _ w=>opV Pg (binS .add 3 true (.int .i64 (k:Int)) (.int .i64 1)) (panK fun e w'=>match e with | .returned _=>J (m.fields.length+1) w'∨Jx w' | .panicked ch=>Jp ch w' | .outgrown=>False) w fun t33 w=>(∃ k:Nat,t33 = .int .i64 k∧k≤m.fields.length∧J k w∧w.heap[px]?=some (.cells #[.int .i64 (posS sp m.fields k).1,.int .i64 (posS sp m.fields k).2] 67 (0,0)))∧m.fields.length - (intOf t33).toNat < m.fields.length - (intOf (Value.int .i64 (k:Int))).toNat:=by
      intro w3 a b e3 hab
      have x3:=e3.obj x2
      have l3:=(Array.getElem?_eq_some_iff.1 x3).1
      simp (disch:=try exact DI) only [↓PR,QR,simprocAttr,(cells_of_heap x3).1,(cells_of_heap x3).2]
      refine turnK_intro ?_
      simp (disch:=try exact DI) only [↓PR,QR,simprocAttr]
      refine ⟨⟨k+1,rfl,by omega,?_,?_⟩,meas_lt hlt⟩
      · exact (hJl (k+1)).cell ((hJl (k+1)).cell ((hJl (k+1)).ext h2 e3) (by omega) 0 (.int .i64 a)) (by omega) 1 (.int .i64 b)
      · rw [← hab]
        simpa using heap_set (o:=1) (heap_set (o:=0) x3 (.int .i64 a)) (.int .i64 b)
     by_cases h10:x.kind=10
     · have d:(x.kind == 10)=true:=by simp [h10]
       have hp:=ok.pad x hm h10
       simp (disch:=try exact DI) only [↓PR,QR,simprocAttr,(cells_of_heap o2).1,d]
       refine drawK_intro ?_
       have eD:Ext w2 w2.drew:=(Ext.refl _).wdrew
       unfold n127c2
       simp (disch:=try exact DI) only [↓PR,QR,simprocAttr,(cells_of_heap o2).1,(cells_of_heap x2).1]
       refine zcr (same_ret _ x.bits) fun w3 e3=>?_
       unfold n127c1
       refine ⟨e3,?_⟩
       refine zcr (both_ret w3 _ _ _ _ _ _ _ c136 (fun w _=>upS_ret w _ _ hin.1 hp) (fun w _=>upS_ret w _ _ hin.2 hp)) fun w4 e4=>?_
       refine ⟨e3.trans e4,?_⟩
       refine fin w4 _ _ (eD.trans (e3.trans e4)) ?_
       rw [hstp];unfold stepQ;rw [if_pos h10]
     · have d:(x.kind == 10)=false:=by simp [h10]
       have hp:=ok.span x hm h10
       simp (disch:=try exact DI) only [↓PR,QR,simprocAttr,(cells_of_heap o2).1,d]
       refine drawK_intro ?_
       have eD:Ext w2 w2.drew:=(Ext.refl _).wdrew
       unfold n127c4
       simp (disch:=try exact DI) only [↓PR,QR,simprocAttr,(cells_of_heap o2).1,(cells_of_heap x2).1,(cells_of_heap ho2).1]
       have E:=e2.trans eD
       refine zcr (of_ret _ m _ tv cv mr x sp (hMp.ext E) (hF.ext E) (hT.ext E) (hC.ext E) okx) fun w3 e3=>?_
       unfold n127c3
       refine ⟨e3,?_⟩
       refine zcr (both_ret w3 _ _ _ _ _ _ _ c137 (fun w _=>plus_ret w _ _ hin.1 hp.1) (fun w _=>plus_ret w _ _ hin.2 hp.2)) fun w4 e4=>?_
       refine ⟨e3.trans e4,?_⟩
       refine fin w4 _ _ (eD.trans (e3.trans e4)) ?_
       rw [hstp];unfold stepQ;rw [if_neg h10]
   · simp (disch:=try exact DI) only [↓PR,QR,simprocAttr]
     exact .inr h2
 · subst hk
   simp (disch:=try exact DI) only [↓PR,QR,simprocAttr,hdec]
   unfold n127c6
   simp (disch:=try exact DI) only [↓PR,QR,simprocAttr,(cells_of_heap ho').1,(cells_of_heap xX).1]
   have hs:=hstep m.fields.length (by omega) _ Firm.true _ hJ trivial
   refine callV_mono hs (fun ch w h=>h.2) ?_
   rintro v w2 ⟨_,⟨rfl,h2⟩ | ⟨rfl,h2⟩⟩
   · simp (disch:=try exact DI) only [↓PR,QR,simprocAttr]
     exact .inl h2
   · simp (disch:=try exact DI) only [↓PR,QR,simprocAttr]
     exact .inr h2
theorem atS_ret (w0:World) (m:MsgD) (fl:Value) (mr:Nat) (sp:List (ByteArray×Int×Int)) (hM:MapOf w0 mr (RP sp)) (hF:FieldsOf w0 fl m.fields) (ok:OkM sp m.fields) (i:Nat) (hi:i≤m.fields.length) (hl:m.fields.length≤1048576):Ret Pg 69 #[.agg (planCells m fl mr).toArray,.int .i64 (i:Int)] w0 fun r w'=>r=rangeVal (posS sp m.fields i).1 (posS sp m.fields i).2∧Ext w0 w':=by
 have hf1:=SliceOf.oneCell hF
 refine n113s (R:=retR _) ?_;unfold n113
 dsimp only
 simp (disch:=try exact DI) only [↓PR,QR,simprocAttr]
 generalize hW:World.alloc (World.alloc (World.alloc w0 _) _) _=W
 have e0:Ext w0 W:=by rw [← hW];exact ee
 have o3:W.heap[w0.heap.size+1]?=some (.cells #[.int .i64 (i:Int)] 3 (0,0)):=by rw [← hW];simp (disch:=try exact DI) only [↓PR,QR,simprocAttr]
 have o4:W.heap[w0.heap.size+1+1]?=some (.cells #[.int .i64 0,.int .i64 0] 67 (0,0)):=by rw [← hW];simp (disch:=try exact DI) only [↓PR,QR,simprocAttr]
 clear hW
 generalize hp4:w0.heap.size+1+1=p4 at o4 ⊢
 generalize hp3:w0.heap.size+1=p3 at o3 hp4 ⊢
 refine callK_ret (positions_ret W m fl mr sp (hM.ext e0) (hF.ext e0)) ?_
 rintro _ w1 ⟨pb,rfl,⟨hob,_,_⟩,hb1,hb2,e1⟩
 have x3:=e1.obj o3
 have x4:=e1.obj o4
 have l4:=(Array.getElem?_eq_some_iff.1 o4).1
 have s1:=e1.size
 have E1:=e0.trans e1
 unfold n113c5
 repeat rw [World.size_alloc]
 rw [hp3,hp4]
 have s0:=e0.size
 let I:Nat→World→Prop:=fun k w'=>k≤i∧Ext w0 w'∧w'.heap[pb]?=some (.cells (planCells m fl mr).toArray 105 (0,0))∧w'.heap[p3]?=some (.cells #[.int .i64 (i:Int)] 3 (0,0))∧∃ a b:Int,w'.heap[p4]?=some (.cells #[.int .i64 a,.int .i64 b] 67 (0,0))
 let Ix:Nat→World→Prop:=fun c w'=>c=0∧Ext w0 w'∧w'.heap[p4]?=some (.cells #[.int .i64 (posS sp m.fields i).1,.int .i64 (posS sp m.fields i).2] 67 (0,0))
 have hLI:∀ k,Lasts3 w1.heap.size (I k):=fun k=>(Lasts3.const _ _).and ((Lasts3.from E1.size).and ((Lasts3.low hb2 _).and ((Lasts3.low (by omega) _).and (.ex fun a => .ex fun b=>Lasts3.low (by omega) _))))
 have hLX:∀ c,Lasts3 w1.heap.size (Ix c):=fun c=>(Lasts3.const _ _).and ((Lasts3.from E1.size).and (Lasts3.low (by omega) _))
 refine ⟨_,_,m.fields.length+1,(fun k => .int .i64 k),(fun k=>rangeVal (posS sp m.fields k).1 (posS sp m.fields k).2),_,I,Ix,fun _ _=>False,rfl,c135,positions_seq pb m fl mr sp ok hF hM,⟨Nat.zero_le _,E1,hob,x3,0,0,x4⟩,fun k w h=>⟨h.2.2.1,h.2.1⟩,hLI,hLX,fun _=>Lasts3.const _ _,?_,?_,?_,?_⟩
 · intro Rk hRk j w2 hj hI2 hR2 hlt hready
   unfold n113c2
   have eA:Ext w2 (w2.alloc (.cells #[.int .i64 (posS sp m.fields j).1,.int .i64 (posS sp m.fields j).2] 67)):=ee
   have oA:=heap_new w2 #[.int .i64 (posS sp m.fields j).1,.int .i64 (posS sp m.fields j).2] 67
   have hR3:=hRk _ _ (KR.of eA) hR2
   have hI3:=(hLI j).ext hI2 eA
   have hrd:ReadyAt (w1.heap.size+1) (w2.alloc (.cells #[.int .i64 (posS sp m.fields j).1,.int .i64 (posS sp m.fields j).2] 67)):=by obtain ⟨r,h1,h2⟩:=hready;exact ⟨r,eA.obj h1,h2⟩
   simp (disch:=try exact DI) only [↓PR,QR,simprocAttr]
   generalize (w2.alloc (.cells #[.int .i64 (posS sp m.fields j).1,.int .i64 (posS sp m.fields j).2] 67))=X at oA hR3 hI3 hrd ⊢
   generalize w2.heap.size=q at oA ⊢
   refine ⟨hrd,fun w4 hbz=>?_⟩
   have hR4:=hRk _ _ (KR.busied hbz) hR3
   obtain ⟨hji,e4,y5,y3,a,b,y4⟩:=(hLI j).busied hbz (Nat.le_succ _) hI3
   have oq:w4.heap[q]?=some (.cells #[.int .i64 (posS sp m.fields j).1,.int .i64 (posS sp m.fields j).2] 67 (0,0)):=by
    obtain ⟨r,hr,rfl⟩:=hbz
    rw [World.putObj_heap_other (by rintro rfl;rw [oA] at hr;cases hr)]
    exact oA
   have l4':=(Array.getElem?_eq_some_iff.1 y4).1
   have n34:p3≠p4:=by omega
   unfold n113c1
   have hb4:p4 < w1.heap.size+1+1:=by omega
   have z4:((w4.setCell ⟨p4,0,none⟩ (.int .i64 (posS sp m.fields j).1)).setCell ⟨p4,1,none⟩ (.int .i64 (posS sp m.fields j).2)).heap[p4]?=some (.cells #[.int .i64 (posS sp m.fields j).1,.int .i64 (posS sp m.fields j).2] 67 (0,0)):=by simpa using heap_set (o:=1) (heap_set (o:=0) y4 (.int .i64 (posS sp m.fields j).1)) (.int .i64 (posS sp m.fields j).2)
   have only:∀ g,g≠p4→((w4.setCell ⟨p4,0,none⟩ (.int .i64 (posS sp m.fields j).1)).setCell ⟨p4,1,none⟩ (.int .i64 (posS sp m.fields j).2)).heap[g]?=w4.heap[g]?:=fun g hg=>(Only.setCell _ p4 1 _ g hg).trans (Only.setCell w4 p4 0 _ g hg)
   have hR5:=hRk _ _ ((KR.setCell (KR.refl _ w4) p4 0 (.int .i64 (posS sp m.fields j).1) (.inl hb4)).setCell p4 1 (.int .i64 (posS sp m.fields j).2) (.inl hb4)) hR4
   have e5:Ext w0 ((w4.setCell ⟨p4,0,none⟩ (.int .i64 (posS sp m.fields j).1)).setCell ⟨p4,1,none⟩ (.int .i64 (posS sp m.fields j).2)):=(e4.setCell (p:=⟨p4,0,none⟩) (by show w0.heap.size≤p4;omega) _).setCell (p:=⟨p4,1,none⟩) (by show w0.heap.size≤p4;omega) _
   by_cases hji':j=i
   · subst hji'
     have d:((j:Int) == (j:Int))=true:=by simp
     simp (disch:=try exact DI) only [↓PR,QR,simprocAttr,(cells_of_heap oq).1,(cells_of_heap y4).1,(cells_of_heap y4).2,(cells_of_heap y3).1,d]
     exact ⟨hR5,rfl,e5,z4⟩
   · have d:((j:Int) == (i:Int))=false:=by simp;omega
     simp (disch:=try exact DI) only [↓PR,QR,simprocAttr,(cells_of_heap oq).1,(cells_of_heap y4).1,(cells_of_heap y4).2,(cells_of_heap y3).1,d]
     exact ⟨hR5,by omega,e5,(only pb (by omega)).trans y5,(only p3 n34).trans y3,_,_,z4⟩
 · rintro w3 ⟨h,_⟩ hmk
   exact absurd h (by omega)
 · rintro c w3 ⟨rfl,e3,y4⟩ hmk
   have l4':=(Array.getElem?_eq_some_iff.1 y4).1
   show n113c4 _ _ _ _
   unfold n113c4
   have z4:((w3.setCell ⟨p4,0,none⟩ (.int .i64 (posS sp m.fields i).1)).setCell ⟨p4,1,none⟩ (.int .i64 (posS sp m.fields i).2)).heap[p4]?=some (.cells #[.int .i64 (posS sp m.fields i).1,.int .i64 (posS sp m.fields i).2] 67 (0,0)):=by simpa using heap_set (o:=1) (heap_set (o:=0) y4 (.int .i64 (posS sp m.fields i).1)) (.int .i64 (posS sp m.fields i).2)
   have e5:Ext w0 ((w3.setCell ⟨p4,0,none⟩ (.int .i64 (posS sp m.fields i).1)).setCell ⟨p4,1,none⟩ (.int .i64 (posS sp m.fields i).2)):=(e3.setCell (p:=⟨p4,0,none⟩) (by show w0.heap.size≤p4;omega) _).setCell (p:=⟨p4,1,none⟩) (by show w0.heap.size≤p4;omega) _
   have hmk':=(hmk.setCell ⟨p4,0,none⟩ (.int .i64 (posS sp m.fields i).1)).setCell ⟨p4,1,none⟩ (.int .i64 (posS sp m.fields i).2)
   simp (disch:=try exact DI) only [↓PR,QR,simprocAttr,(cells_of_heap y4).1,(cells_of_heap y4).2]
   refine outs_marks (bs:=[w1.heap.size]) (w0:=w0) (by simp) (fun b hb=>?_) e5 (fun w' e' hh=>?_)
   · obtain rfl:=List.mem_singleton.1 hb
     exact ⟨hmk',E1.size⟩
   · have z8:=hh _ _ has_nd z4
     simp (disch:=try exact DI) only [↓PR,QR,simprocAttr,outX_nil,retV,resOne,(cells_of_heap z8).1]
     exact ⟨by trivial,e'⟩
 · rintro ch w3 h
   exact h.elim
def stepM (sp:List (ByteArray×Int×Int)) (m:MsgD):List (ByteArray×Int×Int):=sp++[(m.name,posS sp m.fields m.fields.length)]
def spansD (l:List MsgD):List (ByteArray×Int×Int):=l.foldl stepM []
theorem spansD_step {l:List MsgD} {k:Nat} {m:MsgD} (h:l[k]?=some m):spansD (l.take (k+1))=stepM (spansD (l.take k)) m:=by unfold spansD;rw [take_snoc h,List.foldl_append];rfl
def OkD (l:List MsgD):Prop:=∀ k m,l[k]?=some m→OkM (spansD (l.take k)) m.fields∧m.fields.length≤40
theorem OwnE.others {α:Type} {w w':World} {lo n:Nat} {T:TypeId} {enc:α→List Value} {v:Value} {l:List α} (h:OwnE w lo T n enc v l) (hh:∀ (g:Nat) (cur:Array Value) (T:TypeId) (fr:Nat×Nat),w.heap[g]?=some (.cells cur T fr)→w'.heap[g]?=w.heap[g]?):OwnE w' lo T n enc v l:=by
 refine ⟨h.1,?_⟩
 rcases h.2 with h2 | ⟨g,cap,cur,h1,h2,h3,h4⟩
 · exact .inl h2
 · exact .inr ⟨g,cap,cur,h1,h2,(hh _ _ _ _ h3).trans h3,h4⟩
theorem RP_snoc (sp:List (ByteArray×Int×Int)) (p:ByteArray×Int×Int):RP (sp++[p])=RP sp++[(p.1,rangeVal p.2.1 p.2.2)]:=by unfold RP;simp
abbrev plE (mr:Nat) (x:Cs 2):List Value:=x.1++[.map (some mr)]
theorem plE_len (mr:Nat) (x:Cs 2):(plE mr x).length=3:=by simp [plE,x.2]
theorem plans_ret (w0:World) (v:Value) (d:DefD) (mv:Value) (css:List (Cs 2)) (hv:v = .agg (defCells d mv).toArray) (hraw:SliceOf w0 2 (fun _ cs (x:Cs 2)=>cs=x.1) mv css) (hmates:Mates 2 (EMsg w0) css d.msgs) (ok:OkD d.msgs) (hl:d.msgs.length≤1048576):Ret Pg 130 #[v] w0 fun r w'=>∃ mr,OwnE w' w0.heap.size 105 3 (plE mr) r css∧w0.heap.size≤mr∧MapOf w' mr (RP (spansD d.msgs))∧Ext w0 w':=by
 subst hv
 have hlen:css.length=d.msgs.length:=hmates.1
 have hm1:=SliceOf.oneCell hraw
 obtain ⟨A,c,rfl,hlc,hcm,hlm,hel⟩:=SliceOf.open hraw
 refine n130s (R:=retR _) ?_;unfold n130
 simp (disch:=try exact DI) only [↓PR,QR,simprocAttr]
 have e0:Ext w0 ((w0.alloc (.cells (defCells d (.slice A css.length c)).toArray 24)).alloc (.map #[] 0)):=ee
 have hM0:MapOf ((w0.alloc (.cells (defCells d (.slice A css.length c)).toArray 24)).alloc (.map #[] 0)) (w0.heap.size+1) []:=by have:=MapOf.new (w0.alloc (.cells (defCells d (.slice A css.length c)).toArray 24));rwa [World.size_alloc] at this
 generalize ((w0.alloc (.cells (defCells d (.slice A css.length c)).toArray 24)).alloc (.map #[] 0))=W at e0 hM0 ⊢
 generalize hmr:w0.heap.size+1=mr at hM0 ⊢
 refine loop2_intro (fun o i w=>∃ k:Nat,i = .int .i64 k∧k≤css.length∧OwnE w w0.heap.size 105 3 (plE mr) o (css.take k)∧MapOf w mr (RP (spansD (d.msgs.take k)))∧Ext w0 w) (fun _ i _=>css.length - (intOf i).toNat) ⟨0,rfl,by omega,OwnE.nil _ _ _ _ _,hM0,e0⟩ ?_
 rintro o _ w ⟨k,rfl,hk,hO,hM,e⟩
 rcases drop_cases hk with ⟨x,hx,hd,hlt,hdec⟩ | ⟨hk,hd,hdec⟩
 · obtain ⟨b,ob,cs,rfl,hl2,hA,rfl⟩:=hel k x hx
   obtain ⟨m,hm⟩:=getElem?_lt (l:=d.msgs) (k:=k) (by omega)
   obtain ⟨fl,hxe,hF⟩:=hmates.2 k m x hm hx
   obtain ⟨okm,h40⟩:=ok k m hm
   have hf1:=SliceOf.oneCell hF
   obtain ⟨A2,c2,rfl,_,_,_,_⟩:=SliceOf.open hF
   rw [hxe] at hA
   simp (disch:=try exact DI) only [↓PR,QR,simprocAttr,hdec]
   unfold n130c3
   try unfold X0
   try unfold L0
   rw [op_indexN Tryz.underlying22 ty44 _ _ _ _ _ k hlt,op_load ((hA.ext e).loads ty44 rfl)]
   simp (disch:=try exact DI) only [↓PR,QR,simprocAttr]
   repeat rw [World.size_setCell]
   repeat rw [World.size_alloc]
   rw [hmr]
   have eX:Ext w ((w.alloc (.cells #[.string m.name,.slice A2 m.fields.length c2] 44)).alloc (.cells #[.string m.name,.slice A2 m.fields.length c2,.map (some mr)] 105)):=ee
   have o6:((w.alloc (.cells #[.string m.name,.slice A2 m.fields.length c2] 44)).alloc (.cells #[.string m.name,.slice A2 m.fields.length c2,.map (some mr)] 105)).heap[w.heap.size]?=some (.cells #[.string m.name,.slice A2 m.fields.length c2] 44 (0,0)):=by simp (disch:=try exact DI) only [↓PR,QR,simprocAttr]
   have o7:((w.alloc (.cells #[.string m.name,.slice A2 m.fields.length c2] 44)).alloc (.cells #[.string m.name,.slice A2 m.fields.length c2,.map (some mr)] 105)).heap[w.heap.size+1]?=some (.cells (planCells m (.slice A2 m.fields.length c2) mr).toArray 105 (0,0)):=by simp (disch:=try exact DI) only [↓PR,QR,simprocAttr]
   generalize ((w.alloc (.cells #[.string m.name,.slice A2 m.fields.length c2] 44)).alloc (.cells #[.string m.name,.slice A2 m.fields.length c2,.map (some mr)] 105))=X at eX o6 o7 ⊢
   have hlm':=hM.lt
   generalize hp7:w.heap.size+1=p7 at o7 ⊢
   refine drawK_intro ?_
   have eD:Ext X X.drew:=(Ext.refl _).wdrew
   have E:=e.trans (eX.trans eD)
   unfold n130c2
   simp (disch:=try exact DI) only [↓PR,QR,simprocAttr,(cells_of_heap o6).1,(cells_of_heap o7).1]
   refine zcr (atS_ret _ m _ mr _ (hM.ext (eX.trans eD)) (hF.ext E) okm m.fields.length (Nat.le_refl _) (by omega)) fun w2 e2=>?_
   refine ⟨e2,?_⟩
   have E2:=eX.trans (eD.trans e2)
   have hM2:=hM.ext E2
   rw [op_updateO Tryz.underlying103 Tryz.underlying9 hM2]
   refine turnK_intro ?_
   have hM3:=hM2.put m.name (rangeVal (posS (spansD (d.msgs.take k)) m.fields m.fields.length).1 (posS (spansD (d.msgs.take k)) m.fields m.fields.length).2)
   rw [← RP_snoc _ (m.name,posS (spansD (d.msgs.take k)) m.fields m.fields.length)] at hM3
   have hst:=spansD_step hm
   have x7:=(putW_heap (r:=mr) (ps:=RP (spansD (d.msgs.take k))) (k:=m.name) (v:=rangeVal (posS (spansD (d.msgs.take k)) m.fields m.fields.length).1 (posS (spansD (d.msgs.take k)) m.fields m.fields.length).2) (w:=w2) (b:=p7) (by omega)).trans (e2.obj (eD.obj o7))
   have E3:Ext w0 (putW w2 mr (RP (spansD (d.msgs.take k))) m.name (rangeVal (posS (spansD (d.msgs.take k)) m.fields m.fields.length).1 (posS (spansD (d.msgs.take k)) m.fields m.fields.length).2)):=Ext.putW (e.trans E2) (by omega) _ _
   have hO3:OwnE (putW w2 mr (RP (spansD (d.msgs.take k))) m.name (rangeVal (posS (spansD (d.msgs.take k)) m.fields m.fields.length).1 (posS (spansD (d.msgs.take k)) m.fields m.fields.length).2)) w0.heap.size 105 3 (plE mr) o (css.take k):=OwnE.others (hO.ext E2) fun g cur T fr hg=>putW_heap (by rintro rfl;rw [hM2.obj] at hg;cases hg)
   unfold n130c1
   simp (disch:=try exact DI) only [↓PR,QR,simprocAttr,(cells_of_heap x7).1]
   have sY:(putW w2 mr (RP (spansD (d.msgs.take k))) m.name (rangeVal (posS (spansD (d.msgs.take k)) m.fields m.fields.length).1 (posS (spansD (d.msgs.take k)) m.fields m.fields.length).2)).heap.size=w2.heap.size:=putW_size
   generalize (putW w2 mr (RP (spansD (d.msgs.take k))) m.name (rangeVal (posS (spansD (d.msgs.take k)) m.fields m.fields.length).1 (posS (spansD (d.msgs.take k)) m.fields m.fields.length).2))=Y at hM3 x7 E3 hO3 sY ⊢
   have eY:Ext Y (Y.alloc (.cells #[.string m.name,.slice A2 m.fields.length c2,.map (some mr)] 105)):=ee
   have oY:=heap_new Y #[.string m.name,.slice A2 m.fields.length c2,.map (some mr)] 105
   rw [sY] at oY
   have hM4:=hM3.ext eY
   have hO4:=hO3.ext eY
   have E4:=E3.trans eY
   have hxc:plE mr x=[.string m.name,.slice A2 m.fields.length c2,.map (some mr)]:=by unfold plE;rw [hxe];rfl
   generalize (Y.alloc (.cells #[.string m.name,.slice A2 m.fields.length c2,.map (some mr)] 105))=Z at oY hM4 hO4 E4 ⊢
   refine op_appendE (l':=[x]) Tryz.underlying165 ty105 rfl (by decide) (plE_len mr) (fun y hy u hu=>?_) hO4 (fun j y hy=>?_) E4.size (Nat.le_trans (Nat.mul_le_mul (show (css.take k).length+1≤1048577 by rw [List.length_take];omega) by105) (by decide)) (by rw [List.length_take];simp;omega) ?_
   · simp only [List.mem_singleton] at hy
     subst hy
     rw [hxc] at hu
     simp only [List.mem_cons,List.not_mem_nil,or_false] at hu
     rcases hu with rfl | rfl | rfl<;>rfl
   · cases j with
     | succ j=>simp at hy
     | zero =>
      simp at hy;subst hy
      rw [hxc]
      exact ElemAt.of_heap oY
   · rintro v' w4 hO5 hg5
     have E5:Ext w0 w4:=E4.grown hg5 fun g hg=>(World.ownsRow.lt hO4 g hg).1
     have hM5:MapOf w4 mr (RP (spansD (d.msgs.take k)++[(m.name,posS (spansD (d.msgs.take k)) m.fields m.fields.length)])):=by
      have hb:=hg5.block mr hM4.lt (fun hh=>by
       rcases hO4.2 with ⟨hx,_⟩ | ⟨g,cap,cur,h1,_,h3,_⟩
       · rw [hx] at hh;cases hh
       · rw [h1] at hh
         injection hh with hh
         subst hh
         rw [hM4.obj] at h3;cases h3)
      exact MapB.of_obj hM4 hb
     have hw:IntKind.i64.wrap ((k:Int)+1)=((k+1:Nat):Int):=by rw [wrap_ok (by omega) (by omega)];omega
     simp (disch:=try exact DI) only [↓PR,QR,simprocAttr,hw]
     refine ⟨⟨k+1,rfl,by omega,by rw [take_snoc hx];exact hO5,by rw [hst];exact hM5,E5⟩,meas_lt hlt⟩
 · subst hk
   simp (disch:=try exact DI) only [↓PR,QR,simprocAttr,hdec]
   rw [List.take_length] at hO
   rw [hlen,List.take_length] at hM
   exact ⟨mr,hO,by omega,hM,e⟩
def msgE (d:DefD) (i:Int):Int:=if (checkP d).2.2≠0 then 2 else if i < 0∨d.msgs.length≤i then 3 else 0
def msgL (d:DefD) (i:Int):List FieldD:=if msgE d i=0 then (match d.msgs[i.toNat]? with
 | some m=>m.fields
 | none=>[]) else []
theorem msgE_zero {d:DefD} {i:Int} (h:msgE d i=0):(checkP d).2.2=0∧∃ (k:Nat) (m:MsgD),i=k∧k < d.msgs.length∧d.msgs[k]?=some m∧msgL d i=m.fields:=by
 have h':=h
 unfold msgE at h
 split at h
 · exact absurd h (by decide)
 · rename_i h0
   split at h
   · exact absurd h (by decide)
   · rename_i h1
     obtain ⟨k,rfl⟩:∃ k:Nat,i=k:=⟨i.toNat,by omega⟩
     have hk:k < d.msgs.length:=by omega
     obtain ⟨m,hm⟩:=getElem?_lt hk
     refine ⟨Decidable.not_not.1 h0,k,m,rfl,hk,hm,?_⟩
     unfold msgL
     rw [if_pos h',Int.toNat_natCast,hm]
section
variable {w0:World}
def padOK (n p:Int):Prop:=(n=2∨n=4∨(8≤n∧n≤512∧n.tmod 8=0))∧0≤p∧p≤335544320
instance (n p:Int):Decidable (padOK n p):=by unfold padOK;infer_instance
end
structure Sound (d:DefD):Prop where
 each:(checkP d).2.2=0→OkD d.msgs
 full:(checkP d).2.2=0→∀ m∈d.msgs,OkM (spansD d.msgs) m.fields
section
variable {w0:World} {d:DefD}
theorem planned_ret (v:Value) (i:Int) (hd:DefVal w0 v d) (ht:calm d) (hs:Sound d) (hl:d.msgs.length≤1048576):Ret Pg 100 #[v,.int .i64 i] w0 fun r w' =>
 (msgE d i≠0∧r = .tuple #[.agg #[.string ByteArray.empty,.slice none 0 0,.map none],.int .i64 (msgE d i)] ∨
  ∃ m fl mr,msgE d i=0∧d.msgs[i.toNat]?=some m∧r = .tuple #[.agg (planCells m fl mr).toArray,.int .i64 0]∧FieldsOf w0 fl m.fields∧MapOf w' mr (RP (spansD d.msgs)))∧Ext w0 w':=by
 obtain ⟨mv,rfl,hM⟩:=hd
 have hm1:=SliceOf.oneCell hM
 refine n129s (R:=retR _) ?_;unfold n129
 rw [op_boxA,op_alloc ty105]
 generalize hΦ:(fun (r:Value) (w':World)=>(msgE d i≠0∧r = .tuple #[.agg #[.string ByteArray.empty,.slice none 0 0,.map none],.int .i64 (msgE d i)]∨∃ m fl mr,msgE d i=0∧d.msgs[i.toNat]?=some m∧r = .tuple #[.agg (planCells m fl mr).toArray,.int .i64 0]∧FieldsOf w0 fl m.fields∧MapOf w' mr (RP (spansD d.msgs)))∧Ext w0 w')=Φ
 show opV _ _ _ ((w0.alloc (.cells (defCells d mv).toArray 24)).alloc (.cells #[.string ByteArray.empty,.slice none 0 0,.map none] 105)) _
 simp only [World.size_alloc]
 generalize hW:((w0.alloc (.cells (defCells d mv).toArray 24)).alloc (.cells #[.string ByteArray.empty,.slice none 0 0,.map none] 105))=W
 have e0:Ext w0 W:=by rw [← hW];exact ee
 have o2:W.heap[w0.heap.size]?=some (.cells (defCells d mv).toArray 24 (0,0)):=by rw [← hW];simp (disch:=try exact DI) only [↓PR,QR,simprocAttr]
 have o4:W.heap[w0.heap.size+1]?=some (.cells #[.string ByteArray.empty,.slice none 0 0,.map none] 105 (0,0)):=by rw [← hW];simp (disch:=try exact DI) only [↓PR,QR,simprocAttr]
 clear hW
 generalize hp4:w0.heap.size+1=p4 at o4 ⊢
 simp (disch:=try exact DI) only [↓PR,QR,simprocAttr,(cells_of_heap o2).1]
 refine zcr (Valid_ret' _ d ⟨_,rfl,hM.ext e0⟩ ht) fun w1 e1=>?_
 have E1:=e0.trans e1
 have x4:=e1.obj o4
 have x2:=e1.obj o2
 have l4:=(Array.getElem?_eq_some_iff.1 x4).1
 have bad:∀ (c:Int),msgE d i=c→c≠0→∀ w,Ext w0 w→w.heap[p4]?=some (.cells #[.string ByteArray.empty,.slice none 0 0,.map none] 105 (0,0))→qW Pg 105 (.pointer (some ⟨p4,0,none⟩)) w fun r0=>retR Φ (.returned (.tuple #[r0,.int .i64 c])) w:=by
  intro c hc hc0 w e x
  simp (disch:=try exact DI) only [↓PR,QR,simprocAttr,(cells_of_heap x).1]
  rw [← hΦ]
  exact ⟨.inl ⟨by rw [hc];exact hc0,by rw [hc]⟩,e⟩
 have y4:∀ w:World,w.heap[p4]?=some (.cells #[.string ByteArray.empty,.slice none 0 0,.map none] 105 (0,0))→(((w.setCell ⟨p4,0,none⟩ (.string ByteArray.empty)).setCell ⟨p4,1,none⟩ (.slice none 0 0)).setCell ⟨p4,2,none⟩ (.map none)).heap[p4]?=some (.cells #[.string ByteArray.empty,.slice none 0 0,.map none] 105 (0,0)):=fun w x=>by
  simpa using heap_set (o:=2) (heap_set (o:=1) (heap_set (o:=0) x (.string ByteArray.empty)) (.slice none 0 0)) (.map none)
 have e4:∀ (w:World) (u0 u1 u2:Value),Ext w0 w→Ext w0 (((w.setCell ⟨p4,0,none⟩ u0).setCell ⟨p4,1,none⟩ u1).setCell ⟨p4,2,none⟩ u2):=fun w u0 u1 u2 e=>((e.setCell (p:=⟨p4,0,none⟩) (by show w0.heap.size≤p4;omega) _).setCell (p:=⟨p4,1,none⟩) (by show w0.heap.size≤p4;omega) _).setCell (p:=⟨p4,2,none⟩) (by show w0.heap.size≤p4;omega) _
 by_cases hf:(checkP d).2.2=0
 case neg =>
  have hfb:flawedB d=true:=by unfold flawedB;simp [hf]
  have hE:msgE d i=2:=by unfold msgE;rw [if_pos hf]
  rw [hfb]
  simp (disch:=try exact DI) only [↓PR,QR,simprocAttr,↓n129c4,(cells_of_heap x4).1,(cells_of_heap x4).2]
  first
  | exact bad 2 hE (by decide) _ (e4 _ _ _ _ E1) (y4 _ x4)
  | (rw [← hΦ];exact ⟨.inl ⟨by rw [hE];decide,by rw [hE]⟩,e4 _ _ _ _ E1⟩)
 have hfb:flawedB d=false:=by unfold flawedB;simp [hf]
 rw [hfb]
 obtain ⟨css,hraw,hmates⟩:=SliceOf.raw hM
 obtain ⟨A,c,rfl,hlc,hcm,hlm,hel⟩:=SliceOf.open hM
 by_cases hi:i < 0
 · have d1:decide (i < 0)=true:=decide_eq_true hi
   have hE:msgE d i=3:=by unfold msgE;rw [if_neg (by simp [hf]),if_pos (.inl hi)]
   simp (disch:=try exact DI) only [↓PR,QR,simprocAttr,d1,↓n129c5,↓n129c3,↓n129c2,(cells_of_heap x4).1,(cells_of_heap x4).2]
   first
   | exact bad 3 hE (by decide) _ (e4 _ _ _ _ E1) (y4 _ x4)
   | (rw [← hΦ];exact ⟨.inl ⟨by rw [hE];decide,by rw [hE]⟩,e4 _ _ _ _ E1⟩)
 have d1:decide (i < 0)=false:=decide_eq_false hi
 by_cases hh:(d.msgs.length:Int)≤i
 · have d2:decide (i≥(d.msgs.length:Int))=true:=decide_eq_true hh
   have hE:msgE d i=3:=by unfold msgE;rw [if_neg (by simp [hf]),if_pos (.inr hh)]
   simp (disch:=try exact DI) only [↓PR,QR,simprocAttr,d1,d2,↓n129c5,↓n129c3,↓n129c2,(cells_of_heap x2).1,(cells_of_heap x4).1,(cells_of_heap x4).2]
   first
   | exact bad 3 hE (by decide) _ (e4 _ _ _ _ E1) (y4 _ x4)
   | (rw [← hΦ];exact ⟨.inl ⟨by rw [hE];decide,by rw [hE]⟩,e4 _ _ _ _ E1⟩)
 have d2:decide (i≥(d.msgs.length:Int))=false:=decide_eq_false hh
 have hE:msgE d i=0:=by unfold msgE;rw [if_neg (by simp [hf]),if_neg (by omega)]
 obtain ⟨k,rfl⟩:∃ k:Nat,i=k:=⟨i.toNat,by omega⟩
 obtain ⟨m,hm⟩:=getElem?_lt (l:=d.msgs) (k:=k) (by omega)
 obtain ⟨x,hx⟩:=getElem?_lt (l:=css) (k:=k) (by rw [hmates.1];omega)
 obtain ⟨fl,hxe,hF⟩:=hmates.2 k m x hm hx
 have hf1:=SliceOf.oneCell hF
 simp (disch:=try exact DI) only [↓PR,QR,simprocAttr,d1,d2,↓n129c5,↓n129c3,(cells_of_heap x2).1]
 have hms:Mates 2 (EMsg w1) css d.msgs:=hmates.imp fun cs x hx=>keptMsg _ _ _ _ E1 hx
 refine callK_ret (plans_ret w1 _ d _ css rfl (hraw.ext keptRaw E1) hms (hs.each hf) hl) ?_
 rintro v2 w2 ⟨mr,hO,hmr,hM2,e2⟩
 obtain ⟨g,cap,rfl,hg0,hgl,hT,hfz,hrow⟩:=hO.row (plE_len mr) (by rw [hmates.1];omega)
 have hEk:=hrow k x hx
 rw [show plE mr x=planCells m fl mr by unfold plE;rw [hxe];rfl] at hEk
 have z4:=e2.obj x4
 have l44:=(Array.getElem?_eq_some_iff.1 z4).1
 have E2:=E1.trans e2
 unfold n129c1
 try unfold X0
 try unfold L0
 rw [op_indexN Tryz.underlying165 ty105 _ _ _ _ _ k (by rw [hmates.1];omega),Nat.zero_add,op_load (hEk.loads ty105 rfl)]
 have nm:mr≠p4:=by omega
 have w4:(((w2.setCell ⟨p4,0,none⟩ (.string m.name)).setCell ⟨p4,1,none⟩ fl).setCell ⟨p4,2,none⟩ (.map (some mr))).heap[p4]?=some (.cells (planCells m fl mr).toArray 105 (0,0)):=by simpa using heap_set (o:=2) (heap_set (o:=1) (heap_set (o:=0) z4 (.string m.name)) fl) (.map (some mr))
 simp (disch:=try exact DI) only [↓PR,QR,simprocAttr,(cells_of_heap z4).1,(cells_of_heap z4).2]
 rw [← hΦ]
 exact ⟨.inr ⟨m,fl,mr,hE,by rw [Int.toNat_natCast];exact hm,rfl,hF,((hM2.setCell _ _).setCell _ _).setCell _ _⟩,e4 _ _ _ _ E2⟩
def errG (d:DefD) (i fld:Int):Int:=if msgE d i≠0 then msgE d i else if fld < 0∨(msgL d i).length≤fld then 3 else 0
theorem get_ret (v:Value) (i fld:Int) (hd:DefVal w0 v d) (ht:calm d) (hs:Sound d) (hl:d.msgs.length≤1048576) (g:FuncId) (caps:Array Value) (hg:Callable Pg g) (A B:Int)
 (hc:∀ m,d.msgs[i.toNat]?=some m→errG d i fld=0→∀ w fl mr,Ext w0 w→FieldsOf w fl m.fields→MapOf w mr (RP (spansD d.msgs))→Ret Pg g (#[] ++ #[.agg (planCells m fl mr).toArray]++caps) w fun r w'=>r=rangeVal A B∧Ext w w') :
 Ret Pg 65 #[v,.int .i64 i,.int .i64 fld,.func (.func g) #[] caps] w0 fun r w'=>r=(if errG d i fld=0 then .tuple #[rangeVal A B,.int .i64 0] else .tuple #[rangeVal 0 0,.int .i64 (errG d i fld)])∧Ext w0 w':=by
 obtain ⟨mv,rfl,hM⟩:=hd
 have hm1:=SliceOf.oneCell hM
 refine n111s (R:=retR _) ?_;unfold n111
 rw [op_boxA,op_alloc ty67]
 generalize hΦ:(fun (r:Value) (w':World)=>r=(if errG d i fld=0 then .tuple #[rangeVal A B,.int .i64 0] else .tuple #[rangeVal 0 0,.int .i64 (errG d i fld)])∧Ext w0 w')=Φ
 show opV _ _ _ ((w0.alloc (.cells (defCells d mv).toArray 24)).alloc (.cells #[.int .i64 0,.int .i64 0] 67)) _
 simp only [World.size_alloc]
 generalize hW:((w0.alloc (.cells (defCells d mv).toArray 24)).alloc (.cells #[.int .i64 0,.int .i64 0] 67))=W
 have e0:Ext w0 W:=by rw [← hW];exact ee
 have o2:W.heap[w0.heap.size]?=some (.cells (defCells d mv).toArray 24 (0,0)):=by rw [← hW];simp (disch:=try exact DI) only [↓PR,QR,simprocAttr]
 have o8:W.heap[w0.heap.size+1]?=some (.cells #[.int .i64 0,.int .i64 0] 67 (0,0)):=by rw [← hW];simp (disch:=try exact DI) only [↓PR,QR,simprocAttr]
 clear hW
 generalize hp8:w0.heap.size+1=p8 at o8 ⊢
 simp (disch:=try exact DI) only [↓PR,QR,simprocAttr,(cells_of_heap o2).1]
 refine callK_ret (planned_ret _ i ⟨_,rfl,hM.ext e0⟩ ht hs hl) ?_
 rintro r1 w1 ⟨hr,e1⟩
 have E1:=e0.trans e1
 have x8:=e1.obj o8
 have s1:=E1.size
 unfold n111c5
 have e8:∀ (w:World) (u0 u1:Value),Ext w0 w→Ext w0 ((w.setCell ⟨p8,0,none⟩ u0).setCell ⟨p8,1,none⟩ u1):=fun w u0 u1 e=>(e.setCell (p:=⟨p8,0,none⟩) (by show w0.heap.size≤p8;omega) _).setCell (p:=⟨p8,1,none⟩) (by show w0.heap.size≤p8;omega) _
 rcases hr with ⟨hE,rfl⟩ | ⟨m,fl,mr,hE,hm,rfl,hF,hMp⟩
 · have hG:errG d i fld=msgE d i:=by unfold errG;rw [if_pos hE]
   have d1:(msgE d i == 0)=false:=by simpa using hE
   have d2:(msgE d i != 0)=true:=by simpa using hE
   have eX:Ext w1 (w1.alloc (.cells #[.string ByteArray.empty,.slice none 0 0,.map none] 105)):=ee
   have y8:=eX.obj x8
   have l8:=(Array.getElem?_eq_some_iff.1 y8).1
   simp (disch:=try exact DI) only [↓PR,QR,simprocAttr,d1,d2,↓n111c4,↓n111c3,↓n111c2,(cells_of_heap y8).1,(cells_of_heap y8).2,(cells_of_heap x8).1,(cells_of_heap x8).2]
   rw [← hΦ]
   exact ⟨by rw [hG,if_neg hE],ee⟩
 · have hF0:=hF
   obtain ⟨A',c',rfl,hlc',hcm',hlm',_⟩:=SliceOf.open hF
   have hL:msgL d i=m.fields:=by unfold msgL;rw [if_pos hE,hm]
   have eX:Ext w1 (w1.alloc (.cells (planCells m (.slice A' m.fields.length c') mr).toArray 105)):=ee
   have oX:=heap_new w1 (planCells m (.slice A' m.fields.length c') mr).toArray 105
   have y8:=eX.obj x8
   have l8:=(Array.getElem?_eq_some_iff.1 y8).1
   have l88:=(Array.getElem?_eq_some_iff.1 x8).1
   by_cases hfl:fld < 0
   · have d1:decide (fld < 0)=true:=decide_eq_true hfl
     have hG:errG d i fld=3:=by unfold errG;rw [if_neg (by simp [hE]),if_pos (.inl hfl)]
     simp (disch:=try exact DI) only [↓PR,QR,simprocAttr,d1,↓n111c4,↓n111c3,↓n111c2,(cells_of_heap y8).1,(cells_of_heap y8).2,(cells_of_heap x8).1,(cells_of_heap x8).2]
     rw [← hΦ]
     exact ⟨by rw [hG];rfl,ee⟩
   have d1:decide (fld < 0)=false:=decide_eq_false hfl
   by_cases hfh:(m.fields.length:Int)≤fld
   · have d2:decide (fld≥(m.fields.length:Int))=true:=decide_eq_true hfh
     have hG:errG d i fld=3:=by unfold errG;rw [if_neg (by simp [hE]),hL,if_pos (.inr hfh)]
     simp (disch:=try exact DI) only [↓PR,QR,simprocAttr,d1,d2,↓n111c4,↓n111c3,↓n111c2,(cells_of_heap y8).1,(cells_of_heap y8).2,(cells_of_heap x8).1,(cells_of_heap x8).2]
     rw [← hΦ]
     exact ⟨by rw [hG];rfl,ee⟩
   have d2:decide (fld≥(m.fields.length:Int))=false:=decide_eq_false hfh
   have hG:errG d i fld=0:=by unfold errG;rw [if_neg (by simp [hE]),hL,if_neg (by omega)]
   have hcc:=hc m hm hG _ _ mr (E1.trans eX) (hF0.ext (e1.trans eX)) (hMp.ext eX)
   simp (disch:=try exact DI) only [↓PR,QR,simprocAttr,d1,d2,↓n111c4,↓n111c3,↓n111c2,↓n111c1]
   rw [callV_func hg]
   refine callK_ret hcc ?_
   rintro _ w2 ⟨rfl,e2⟩
   have z8:=e2.obj y8
   have l9:=(Array.getElem?_eq_some_iff.1 z8).1
   have E2:=(E1.trans eX).trans e2
   simp (disch:=try exact DI) only [↓PR,QR,simprocAttr,(cells_of_heap z8).1,(cells_of_heap z8).2]
   rw [← hΦ]
   exact ⟨by rw [hG];rfl,ee⟩
end
def BSp (sp:List (ByteArray×Int×Int)):Prop:=∀ p∈sp,0≤p.2.1∧p.2.1≤1099511627776∧0≤p.2.2∧p.2.2≤1099511627776
theorem lastR_mem {sp:List (ByteArray×Int×Int)} {s:ByteArray} {q:Int×Int} (h:lastR sp s=some q):(s,q)∈sp:=lastP_mem h
theorem BSp.look {sp:List (ByteArray×Int×Int)} (h:BSp sp) (s:ByteArray):(0≤(lookS sp s).1∧(lookS sp s).1≤1099511627776)∧0≤(lookS sp s).2∧(lookS sp s).2≤1099511627776:=by
 unfold lookS
 cases hl:lastR sp s with
 | none=>decide
 | some q=>have:=h _ (lastR_mem hl);exact ⟨⟨this.1,this.2.1⟩,this.2.2⟩
theorem BSp.choice {sp:List (ByteArray×Int×Int)} (h:BSp sp) (l:List CaseD):(0≤(choiceS sp l).1∧(choiceS sp l).1≤1099511627776)∧0≤(choiceS sp l).2∧(choiceS sp l).2≤1099511627776:=by
 have key:∀ (l:List CaseD) (o:Int×Int),((0≤o.1∧o.1≤1099511627776)∧0≤o.2∧o.2≤1099511627776)→(0≤(l.foldl (stepC sp) o).1∧(l.foldl (stepC sp) o).1≤1099511627776)∧0≤(l.foldl (stepC sp) o).2∧(l.foldl (stepC sp) o).2≤1099511627776:=by
  intro l
  induction l with
  | nil=>exact fun o h=>h
  | cons c l ih =>
   intro o ho
   refine ih _ ?_
   have:=h.look c.of
   unfold stepC minI maxI
   dsimp only
   refine ⟨⟨?_,?_⟩,?_,?_⟩<;>split<;>omega
 cases l with
 | nil=>simp [choiceS]
 | cons c l=>exact key _ _ (h.look c.of)
structure OkV (deps:List (ByteArray×Int)) (l:List FieldD) (f:FieldD):Prop where
 kind:1≤f.kind∧f.kind≤12
 bits:f.kind=1∨f.kind=2→1≤f.bits∧f.bits≤32
 pad:f.kind=10→padB f=true
 num:f.kind=3→0≤f.low∧f.low≤f.high∧f.high≤34359738367
 high5:f.kind=5→0≤f.high∧f.high≤1048576
 high6:f.kind=6→2≤f.high∧f.high≤1048576
 iv:f.kind=4∨f.kind=12∨f.kind=7→0≤ivL l f∧ivL l f≤ivH l f∧ivH l f≤1048576
 terms:∀ t∈f.terms,(lastR (numR l) t.field).isSome=true
 refs:∀ s∈refsF f,(lastP deps s).isSome=true
 cases:f.kind=9→f.cases≠[]
theorem withinS {hi lo n:Int} {l:List Int} (h:withinC hi lo (n::l)=0):lo≤n∧n≤hi∧withinC hi n l=0:=by
 rw [withinC,orC_iff,needC_iff (by decide)] at h
 simp only [Bool.and_eq_true,decide_eq_true_eq] at h
 exact ⟨h.1.1,h.1.2,h.2⟩
theorem names_some {rp:List (ByteArray×Int×Int)} {ts:List TermD} (h:namesC rp ts=0):∀ t∈ts,(lastR rp t.field).isSome=true:=by
 intro t ht
 cases hl:lastR rp t.field with
 | some q=>rfl
 | none=>have:=namesC_bad ht hl;omega
theorem num_more {l bef:List FieldD} (hd:Dist l) (hb:∀ g∈bef,g∈l) {s:ByteArray} (h:(lastR (numR bef) s).isSome=true):lastR (numR bef) s=lastR (numR l) s:=by
 cases h1:lastR (numR bef) s with
 | none=>rw [h1] at h;cases h
 | some q =>
  obtain ⟨g,hg,hn,hs,rfl⟩:=mem_numR.1 (lastR_mem h1)
  cases h2:lastR (numR l) s with
  | none=>exact absurd (mem_numR.2 ⟨g,hb g hg,hn,hs,rfl⟩) (lastR_none.1 h2 _)
  | some q' =>
   obtain ⟨g',hg',hn',hs',rfl⟩:=mem_numR.1 (lastR_mem h2)
   rw [hd.eq (hb g hg) hg' (by rw [hs,hs'])]
theorem iv_order {base:Int} {ts:List TermD} {rp:List (ByteArray×Int×Int)} (hs:sizeB base ts=true) (hin:∀ t∈ts,(lastR rp t.field).isSome=true) (h0:intervalE base ts rp=0):intervalL base ts rp≤intervalH base ts rp:=by
 have hw:∀ t∈ts,wideB (rngT rp t).1 (rngT rp t).2=true:=by
  intro t ht
  cases hw:wideB (rngT rp t).1 (rngT rp t).2 with
  | true=>rfl
  | false =>
   have:=iv_wide hs hin ht hw
   unfold ivOf at this
   rw [h0] at this
   injection this with this
   have:=congrArg Array.toList this
   simp at this
 obtain ⟨h4,he⟩:=iv_fine hs hin hw
 unfold ivOf at he
 injection he with he
 have he:=congrArg Array.toList he
 simp only [List.cons.injEq,Value.int.injEq,true_and,and_true] at he
 obtain ⟨h1,⟨mix,_,h2⟩,_⟩:=mix_least (ts:=ts) (rp:=rp) fun t ht=>⟨hin t ht,h4 t ht⟩
 have:=h1 mix
 rw [h2] at this
 rw [he.1,he.2.1]
 omega
theorem exam_all {bef:List FieldD} {deps:List (ByteArray×Int)} {strs:List (ByteArray×Bool)} {f:FieldD} (h:examineC bef (vI deps) (vB strs) f=0):(1≤f.kind∧f.kind≤12)∧clearK f=bareF f∧checkC bef (vI deps) (vB strs) f=0:=by
 unfold examineC at h
 simp only [orC_iff,needC_iff (show (4:Int)≠0 by decide),needC_iff (show (5:Int)≠0 by decide),decide_eq_true_eq] at h
 exact h.2.2
theorem sized_iv {bef l:List FieldD} (hd:Dist l) (hb:∀ g∈bef,g∈l) {f:FieldD} (h:sizedC (numR bef) f=0):(0≤ivL l f∧ivL l f≤ivH l f∧ivH l f≤1048576)∧∀ t∈f.terms,(lastR (numR l) t.field).isSome=true:=by
 unfold sizedC at h
 simp only [orC_iff,needC_iff (show (9:Int)≠0 by decide)] at h
 obtain ⟨h1,h2,h3⟩:=h
 have hin:=names_some h2
 have hc:=iv_congr (base:=f.base) (fun t ht=>num_more hd hb (hin t ht))
 unfold lenB at h3
 simp only [Bool.and_eq_true,beq_iff_eq,decide_eq_true_eq] at h3
 have ho:=iv_order h1 hin h3.1.1
 unfold ivL ivH
 rw [← hc.2.1,← hc.2.2]
 exact ⟨⟨h3.1.2,ho,h3.2⟩,fun t ht=>by rw [← num_more hd hb (hin t ht)];exact hin t ht⟩
theorem okV_of {bef l:List FieldD} {deps:List (ByteArray×Int)} {strs:List (ByteArray×Bool)} (hds:∀ s,(lastP strs s).isSome=true→(lastP deps s).isSome=true) (hd:Dist l) (hb:∀ g∈bef,g∈l) {f:FieldD} (h:examineC bef (vI deps) (vB strs) f=0):OkV deps l f:=by
 obtain ⟨hk,hcl,hc⟩:=exam_all h
 have hrefs:=examine_refs hds h
 have hA:=okA_of h
 have none:(clearK f).terms=f.terms→∀ t∈f.terms,(lastR (numR l) t.field).isSome=true:=by
  intro he t ht
  rw [← he,hcl] at ht
  cases ht
 have siz:sizedC (numR bef) f=0→(0≤ivL l f∧ivL l f≤ivH l f∧ivH l f≤1048576)∧∀ t∈f.terms,(lastR (numR l) t.field).isSome=true:=sized_iv hd hb
 have hk':f.kind=1∨f.kind=2∨f.kind=3∨f.kind=4∨f.kind=5∨f.kind=6∨f.kind=7∨f.kind=8∨f.kind=9∨f.kind=10∨f.kind=11∨f.kind=12:=by omega
 unfold checkC at hc
 rcases hk' with k | k | k | k | k | k | k | k | k | k | k | k
 · exact ⟨hk,hA.1,hA.2,by omega,by omega,by omega,by omega,none (by unfold clearK;simp [k,clear1]),hrefs,by omega⟩
 · exact ⟨hk,hA.1,hA.2,by omega,by omega,by omega,by omega,none (by unfold clearK;simp [k,clear2]),hrefs,by omega⟩
 · simp only [k] at hc
   obtain ⟨a1,a2,hc⟩:=withinS hc
   obtain ⟨b1,b2,_⟩:=withinS hc
   exact ⟨hk,hA.1,hA.2,fun _=>⟨a1,b1,b2⟩,by omega,by omega,by omega,none (by unfold clearK;simp [k,clear3]),hrefs,by omega⟩
 · simp only [k] at hc
   exact ⟨hk,hA.1,hA.2,by omega,by omega,by omega,fun _=>(siz hc).1,(siz hc).2,hrefs,by omega⟩
 · simp only [k] at hc
   have hc:=(orC_iff.1 hc).2
   obtain ⟨a1,a2,hc⟩:=withinS hc
   exact ⟨hk,hA.1,hA.2,by omega,fun _=>⟨a1,a2⟩,by omega,by omega,none (by unfold clearK;simp [k,clear5]),hrefs,by omega⟩
 · simp only [k] at hc
   obtain ⟨a1,a2,hc⟩:=withinS hc
   exact ⟨hk,hA.1,hA.2,by omega,by omega,fun _=>⟨a1,a2⟩,by omega,none (by unfold clearK;simp [k,clear6]),hrefs,by omega⟩
 · simp only [k] at hc
   have hc:=(orC_iff.1 hc).2
   exact ⟨hk,hA.1,hA.2,by omega,by omega,by omega,fun _=>(siz hc).1,(siz hc).2,hrefs,by omega⟩
 · exact ⟨hk,hA.1,hA.2,by omega,by omega,by omega,by omega,none (by unfold clearK;simp [k,clear8]),hrefs,by omega⟩
 · simp only [k] at hc
   have hc:=(orC_iff.1 (show casesC bef (vI deps) f=0 from hc)).2
   have hc:=(needC_iff (by decide)).1 (orC_iff.1 hc).1
   simp only [Bool.and_eq_true,decide_eq_true_eq] at hc
   exact ⟨hk,hA.1,hA.2,by omega,by omega,by omega,by omega,none (by unfold clearK;simp [k,clear9]),hrefs,fun _ h=>by rw [h] at hc;simp at hc⟩
 · exact ⟨hk,hA.1,hA.2,by omega,by omega,by omega,by omega,none (by unfold clearK;simp [k,clear10]),hrefs,by omega⟩
 · exact ⟨hk,hA.1,hA.2,by omega,by omega,by omega,by omega,none (by unfold clearK;simp [k,clear11]),hrefs,by omega⟩
 · simp only [k] at hc
   have hc:=(orC_iff.1 (orC_iff.1 hc).2).2
   exact ⟨hk,hA.1,hA.2,by omega,by omega,by omega,fun _=>(siz hc).1,(siz hc).2,hrefs,by omega⟩
theorem OkV.okS {deps:List (ByteArray×Int)} {l:List FieldD} {f:FieldD} (h:OkV deps l f) (ht:f.terms.length≤1048576) {sp:List (ByteArray×Int×Int)} (hb:BSp sp):OkS sp l f:=by
 refine ⟨h.kind,fun k=>?_,fun k=>?_,fun k=>?_,fun _=>hb.look _,h.cases,fun k=>?_,ht⟩
 · have:=h.num k;omega
 · have:=h.iv k;omega
 · rcases k with k | k
   · exact h.high5 k
   · have:=h.high6 k;omega
 · have:=padB_bits (h.pad k);omega
theorem groups_in {v:Int} (h0:0≤v) (h:v≤34359738367):0≤((groupsP v.toNat:Nat):Int)*8∧((groupsP v.toNat:Nat):Int)*8≤1099511627776:=by
 have:=groupsP_le 6 v.toNat (by omega) (by decide)
 omega
theorem OkV.span {deps:List (ByteArray×Int)} {l:List FieldD} {f:FieldD} (h:OkV deps l f) {sp:List (ByteArray×Int×Int)} (hb:BSp sp) (h10:f.kind≠10):(0≤(spanF sp l f).1∧(spanF sp l f).1≤1099511627776)∧0≤(spanF sp l f).2∧(spanF sp l f).2≤1099511627776:=by
 unfold spanF
 split
 · rename_i k;have:=h.bits k;dsimp only;omega
 · split
   · rename_i k
     have:=h.num k
     refine ⟨groups_in (by omega) (by omega),?_⟩
     dsimp only
     split
     · decide
     · exact groups_in (by omega) (by omega)
   · split
     · rename_i k
       have:=h.iv (by omega)
       exact ⟨capF_in (by omega),capF_in (by omega)⟩
     · split
       · rename_i k;have:=h.high5 k;dsimp only;omega
       · split
         · rename_i k;have:=h.high6 k;dsimp only;omega
         · split
           · rename_i k
             have:=h.iv (by omega)
             have hl:=hb.look f.of
             exact ⟨capF_in (Int.mul_nonneg (by omega) hl.1.1),capF_in (Int.mul_nonneg (by omega) hl.2.1)⟩
           · split
             · exact hb.look _
             · split
               · exact hb.choice _
               · split<;>decide
theorem okM_of {deps:List (ByteArray×Int)} {l:List FieldD} (h:∀ f∈l,OkV deps l f) (ht:∀ f∈l,f.terms.length≤1048576) {sp:List (ByteArray×Int×Int)} (hb:BSp sp):OkM sp l :=
 ⟨fun f hf=>(h f hf).okS (ht f hf) hb,fun f hf k=>by have:=padB_bits ((h f hf).pad k);omega,fun f hf k=>(h f hf).span hb k⟩
def AllV (l:List MsgD):Prop:=∀ k m,l[k]?=some m→(∀ f∈m.fields,OkV (depsOf (l.take k)) m.fields f)∧1≤m.fields.length∧m.fields.length≤40
theorem Fine.allV {l:List MsgD} (h:Fine l):AllV l:=by
 intro k m hk
 obtain ⟨_,_,h3,h4,_⟩:=next_parts (h.next hk)
 have hF:FineF (depsOf (l.take k)) (strsOf (l.take k)) m.fields:=fun j f hj=>by simpa using fields_all _ _ h4 j f hj
 refine ⟨fun f hf=>?_,h3⟩
 obtain ⟨j,hj⟩:=List.getElem?_of_mem hf
 exact okV_of (ds_of _) hF.dist (fun g hg=>List.mem_of_mem_take hg) (hF j f hj)
theorem spans_in {l:List MsgD} (h:AllV l) (ht:∀ m∈l,∀ f∈m.fields,f.terms.length≤1048576):∀ k,k≤l.length→BSp (spansD (l.take k))
 | 0,_=>fun p hp=>by simp [spansD] at hp
 | k+1,hk=>by
  obtain ⟨m,hm⟩:=getElem?_lt (l:=l) (k:=k) (by omega)
  rw [spansD_step hm]
  intro p hp
  rcases List.mem_append.1 hp with hp | hp
  · exact spans_in h ht k (by omega) p hp
  · simp only [List.mem_singleton] at hp
    subst hp
    have:=posS_in (okM_of (h k m hm).1 (ht m (List.mem_of_getElem? hm)) (spans_in h ht k (by omega))) m.fields.length
    exact ⟨this.1.1,this.1.2,this.2⟩
theorem okD_of {l:List MsgD} (h:AllV l) (ht:∀ m∈l,∀ f∈m.fields,f.terms.length≤1048576):OkD l:=fun k m hm =>
 ⟨okM_of (h k m hm).1 (ht m (List.mem_of_getElem? hm)) (spans_in h ht k (Nat.le_of_lt (List.getElem?_eq_some_iff.1 hm).1)),(h k m hm).2.2⟩
theorem spans_full {l:List MsgD} (h:AllV l) (ht:∀ m∈l,∀ f∈m.fields,f.terms.length≤1048576):BSp (spansD l):=by simpa using spans_in h ht l.length (Nat.le_refl _)
theorem sound_of (d:DefD) (ht:calm d):Sound d :=
 have hc:∀ m∈d.msgs,∀ f∈m.fields,f.terms.length≤1048576:=fun m hm=>(ht m hm).2
 ⟨fun h=>okD_of (check_fine h).2.2.1.allV hc,fun h m hm=>by
  have hV:=(check_fine h).2.2.1.allV
  obtain ⟨k,hk⟩:=List.getElem?_of_mem hm
  exact okM_of (hV k m hk).1 (hc m hm) (spans_full hV hc)⟩
def n106c1 (t4 t8:Value) (R:RT) (w:World):Prop :=
 opV Pg (Instr.extract t8 0) (panK R) w fun t9 w =>
 opV Pg (Instr.extract t8 1) (panK R) w fun t10 w =>
 opU Pg (Instr.storeAt 67 t4 t9) (panK R) w fun w =>
 qW Pg 67 t4 w fun r0 =>
 R (.returned (.tuple #[r0,t10])) w
def n106 (t0 t1:Value) (R:RT) (w:World):Prop :=
 opV Pg (Instr.box 24 t0) (panK R) w fun t2 w =>
 opV Pg (Instr.alloc 67 true (.tuple #[])) (panK R) w fun t4 w =>
 L0 24 t2 R w fun t6 w =>
 callK Pg 65 #[t6,t1,(.int .i64 0),(.func (.func 77) #[] #[])] (panK R) w fun t8 w =>
 n106c1 t4 t8 R w
theorem n106s {t0 t1:Value} {R:RT} {w:World} (h:n106 t0 t1 R w):Calls Pg 39 #[t0,t1] w R:=by
 refine yD Tryz.func39 ?_
 refine zs<|zr<|yv h fun _ w h=>yv h fun _ w h=>zm<|zn<|zk<|zs<|zr<|yv h fun _ w h=>zm<|yc h c65 fun _ w h=>yv h fun _ w h=>yv h fun _ w h=>yu h fun w h=>?_
 exact zm<|zn<|zk<|sim_ret<|body_retCT rfl rfl rfl h
def n104c1 (t4 t13 t14 t15:Value) (C1:World→Prop) (R:RT) (w:World):Prop :=
 callK Pg 78 #[t14,t15,(.func (.func 80) #[] #[])] (panK R) w fun t16 w =>
 C1 w∧(
 opU Pg (Instr.storeAt 67 t4 t16) (panK R) w fun w =>
 turnK w fun C2 w =>
 qW Pg 67 t4 w fun r0 =>
 R (.returned (.tuple #[r0,t13])) w)
def n104c2 (t4 t11:Value) (R:RT) (w:World):Prop :=
 opV Pg (Instr.extract t11 0) (panK R) w fun t12 w =>
 opV Pg (Instr.extract t11 1) (panK R) w fun t13 w =>
 opV Pg (Instr.alloc 67 true (.tuple #[])) (panK R) w fun t6 w =>
 opU Pg (Instr.storeAt 67 t6 t12) (panK R) w fun w =>
 drawK w fun C1 w =>
 qV Pg C1 (Instr.loadAt 67 t6) fun t14 =>
 C0 79 #[(.int .i64 8)] R w fun t15 w =>
 C1 w∧(
 n104c1 t4 t13 t14 t15 C1 R w)
def n104 (t0 t1:Value) (R:RT) (w:World):Prop :=
 opV Pg (Instr.box 24 t0) (panK R) w fun t2 w =>
 opV Pg (Instr.alloc 67 true (.tuple #[])) (panK R) w fun t4 w =>
 L0 24 t2 R w fun t9 w =>
 C0 39 #[t9,t1] R w fun t11 w =>
 n104c2 t4 t11 R w
theorem n104s {t0 t1:Value} {R:RT} {w:World} (h:n104 t0 t1 R w):Calls Pg 40 #[t0,t1] w R:=by
 refine yD Tryz.func40 ?_
 refine zs<|zr<|yv h fun _ w h=>yv h fun _ w h=>zm<|zn<|zk<|zs<|zr<|yv h fun _ w h=>zm<|yc h c39 fun _ w h=>zm<|yv h fun _ w h=>yv h fun _ w h=>?_
 refine yv h fun _ w h=>yu h fun w h=>zm<|zn<|zk<|zs<|yh [5,14,15,16,17] h fun C hC h=>ye 0 hC h fun _ h=>?_
 refine yw 3 hC ?_
 refine yo 1 ?_
 refine yc h c79 fun _ w h=>zn ?_
 obtain ⟨hC,h⟩:=h
 refine ⟨hC,?_⟩
 refine yo 2 ?_
 refine yc h c78 fun _ w h=>zn ?_
 obtain ⟨hC,h⟩:=h
 refine ⟨hC,?_⟩
 refine yq 4 1 ?_
 refine yu h fun w h=>zn ?_
 obtain ⟨C2,hC,h⟩:=h
 refine ⟨C2,hC,?_⟩
 refine yw 5 hC ?_
 exact yz<|zk<|sim_ret<|body_retCT rfl rfl rfl h
def n103c1 (t11:Value) (R:RT) (w:World):Prop :=
 opV Pg (Instr.extract t11 0) (panK R) w fun t12 w =>
 opV Pg (Instr.extract t11 1) (panK R) w fun t13 w =>
 opV Pg (Instr.alloc 67 true (.tuple #[])) (panK R) w fun t6 w =>
 opU Pg (Instr.storeAt 67 t6 t12) (panK R) w fun w =>
 B0 .eql 52 true t13 (.int .i64 0) R w fun t15 w =>
 joinK (fun (t21:Value) (w:World) =>
 pickK t15 t21 (.bool false) fun t22 =>
 R (.returned (.tuple #[t22,t13])) w) fun K1 =>
 guardP t15 true (
 F0 67 t6 0 R w fun t17 w =>
 L0 3 t17 R w fun t18 w =>
 F0 67 t6 1 R w fun t19 w =>
 L0 3 t19 R w fun t20 w =>
 B0 .eql 3 false t18 t20 R w fun t21 w =>
 K1 t21 w) (
 K1 undef w)
def n103 (t0 t1:Value) (R:RT) (w:World):Prop :=
 opV Pg (Instr.box 24 t0) (panK R) w fun t2 w =>
 L0 24 t2 R w fun t9 w =>
 C0 39 #[t9,t1] R w fun t11 w =>
 n103c1 t11 R w
theorem n103s {t0 t1:Value} {R:RT} {w:World} (h:n103 t0 t1 R w):Calls Pg 41 #[t0,t1] w R:=by
 refine yD Tryz.func41 ?_
 refine zs<|zr<|yv h fun _ w h=>zm<|zm<|zn<|zk<|zs<|zr<|yv h fun _ w h=>zm<|yc h c39 fun _ w h=>zm<|yv h fun _ w h=>yv h fun _ w h=>?_
 refine yv h fun _ w h=>yu h fun w h=>zm<|zn<|zk<|zs<|sim_regionG<|yG 3<|zm<|yb h fun _ w h=>zm<|zn<|yg1 5 2 true [17,18,19,20,21] 21 h (fun _ T hT h=>?_) fun σ w h=>?_
 · refine yv h fun _ w h=>yv h fun _ w h=>yv h fun _ w h=>yv h fun _ w h=>yb h fun _ w h=>zn ?_
   exact zt hT h
 exact yG 4<|yp h fun _ h=>zm<|zm<|zm<|zn<|sim_end<|zk<|sim_ret<|body_ret2 rfl rfl rfl h
abbrev spCells (p:ByteArray×Int×Int):List Value:=[.int .i64 p.2.1,.int .i64 p.2.2]
def ESp (_:World) (cs:List Value) (p:ByteArray×Int×Int):Prop:=cs=spCells p
theorem keptSp:Kept ESp:=fun _ _ _ _ _ h=>h
def SpsOf (w:World) (v:Value) (l:List (ByteArray×Int×Int)):Prop:=SliceOf w 2 ESp v l
theorem SpsOf.ext {w w':World} {v:Value} {l:List (ByteArray×Int×Int)} (h:SpsOf w v l) (e:Ext w w'):SpsOf w' v l:=SliceOf.ext keptSp h e
theorem keysP (l:List MsgD):(spansD l).map (·.1)=l.map (·.name):=by
 have key:∀ (l:List MsgD) (a:List (ByteArray×Int×Int)),(l.foldl stepM a).map (·.1)=a.map (·.1)++l.map (·.name):=by
  intro l
  induction l with
  | nil=>intro a;simp
  | cons m l ih=>intro a;rw [List.foldl_cons,ih,stepM,List.map_append];simp
 unfold spansD
 rw [key]
 rfl
theorem spansD_len (l:List MsgD):(spansD l).length=l.length:=by simpa using congrArg List.length (keysP l)
theorem ref_at {l:List MsgD} (hN:DistM l) {s:ByteArray} (h:(lastP (depsOf l) s).isSome=true):∃ j:Nat,idx (fun m=>decide (m.name=s)) l=j∧j < l.length∧(spansD l)[j]?=some (s,lookS (spansD l) s):=by
 rcases first_last (keysP l) hN s with ⟨_,h2⟩ | ⟨k,b,h1,h2,h3,h4⟩
 · obtain ⟨m,hm,hn⟩:=isD.1 h
   have hmem:s∈(spansD l).map (·.1):=by rw [keysP,← hn];exact List.mem_map.2 ⟨m,hm,rfl⟩
   obtain ⟨p,hp,hps⟩:=List.mem_map.1 hmem
   exact absurd hps (lastP_none.1 h2 p hp)
 · refine ⟨k,h1,h2,?_⟩
   have:lookS (spansD l) s=b:=by unfold lookS;rw [show lastR (spansD l) s=some b from h4];rfl
   rw [this]
   exact h3
def n10c1 (t58 t60:Value) (R:RT) (w:World):Prop :=
 pickK t58 t60 (.bool false) fun t61 =>
 joinK (fun (t63:Value) (w:World) =>
 pickK t61 t63 (.bool false) fun t64 =>
 R (.returned t64) w) fun K9 =>
 guardP t61 true (
 C0 62 #[(.int .i64 1),(.int .i64 3),(.int .i64 8),(.int .i64 96)] R w fun t63 w =>
 K9 t63 w) (
 K9 undef w)
def n10c2 (t55 t57:Value) (R:RT) (w:World):Prop :=
 pickK t55 t57 (.bool false) fun t58 =>
 joinK (fun (t60:Value) (w:World) =>
 n10c1 t58 t60 R w) fun K8 =>
 guardP t58 true (
 C0 62 #[(.int .i64 1),(.int .i64 2),(.int .i64 8),(.int .i64 16)] R w fun t60 w =>
 K8 t60 w) (
 K8 undef w)
def n10c3 (t52 t54:Value) (R:RT) (w:World):Prop :=
 pickK t52 t54 (.bool false) fun t55 =>
 joinK (fun (t57:Value) (w:World) =>
 n10c2 t55 t57 R w) fun K7 =>
 guardP t55 true (
 C0 64 #[(.int .i64 1),(.int .i64 2),(.int .i64 8),(.int .i64 8)] R w fun t57 w =>
 K7 t57 w) (
 K7 undef w)
def n10c4 (t48 t51:Value) (R:RT) (w:World):Prop :=
 pickK t48 t51 (.bool false) fun t52 =>
 joinK (fun (t54:Value) (w:World) =>
 n10c3 t52 t54 R w) fun K6 =>
 guardP t52 true (
 C0 64 #[(.int .i64 1),(.int .i64 1),(.int .i64 3),(.int .i64 3)] R w fun t54 w =>
 K6 t54 w) (
 K6 undef w)
def n10c5 (t28 t44 t47:Value) (R:RT) (w:World):Prop :=
 pickK t44 t47 (.bool false) fun t48 =>
 joinK (fun (t51:Value) (w:World) =>
 n10c4 t48 t51 R w) fun K5 =>
 guardP t48 true (
 B0 .eql 52 true t28 (.int .i64 0) R w fun t51 w =>
 K5 t51 w) (
 K5 undef w)
def n10c6 (t27 t28 t39 t43:Value) (R:RT) (w:World):Prop :=
 pickK t39 t43 (.bool false) fun t44 =>
 joinK (fun (t47:Value) (w:World) =>
 n10c5 t28 t44 t47 R w) fun K4 =>
 guardP t44 true (
 opV Pg (Op.unary .not t27) (panK R) w fun t47 w =>
 K4 t47 w) (
 K4 undef w)
def n10c7 (t5 t23 t27 t28 t34 t38:Value) (R:RT) (w:World):Prop :=
 pickK t34 t38 (.bool false) fun t39 =>
 joinK (fun (t43:Value) (w:World) =>
 n10c6 t27 t28 t39 t43 R w) fun K3 =>
 guardP t39 true (
 L0 67 t5 R w fun t41 w =>
 C0 63 #[t41,t23,(.int .i64 56),(.int .i64 152)] R w fun t43 w =>
 K3 t43 w) (
 K3 undef w)
def n10c8 (t3 t5 t18 t23 t27 t28 t29 t33:Value) (R:RT) (w:World):Prop :=
 pickK t29 t33 (.bool false) fun t34 =>
 joinK (fun (t38:Value) (w:World) =>
 n10c7 t5 t23 t27 t28 t34 t38 R w) fun K2 =>
 guardP t34 true (
 L0 67 t3 R w fun t36 w =>
 C0 63 #[t36,t18,(.int .i64 1),(.int .i64 4)] R w fun t38 w =>
 K2 t38 w) (
 K2 undef w)
def n10c9 (t1 t3 t5 t13 t18 t23 t27 t28 t29:Value) (R:RT) (w:World):Prop :=
 joinK (fun (t33:Value) (w:World) =>
 n10c8 t3 t5 t18 t23 t27 t28 t29 t33 R w) fun K1 =>
 guardP t29 true (
 L0 67 t1 R w fun t31 w =>
 C0 63 #[t31,t13,(.int .i64 8),(.int .i64 32)] R w fun t33 w =>
 K1 t33 w) (
 K1 undef w)
def n10c10 (t1 t3 t5 t13 t18 t23 t26:Value) (R:RT) (w:World):Prop :=
 opV Pg (Instr.extract t26 0) (panK R) w fun t27 w =>
 opV Pg (Instr.extract t26 1) (panK R) w fun t28 w =>
 C0 62 #[(.int .i64 0),(.int .i64 1),(.int .i64 0),(.int .i64 24)] R w fun t29 w =>
 n10c9 t1 t3 t5 t13 t18 t23 t27 t28 t29 R w
def n10c11 (t1 t3 t13 t18 t21:Value) (R:RT) (w:World):Prop :=
 opV Pg (Instr.extract t21 0) (panK R) w fun t22 w =>
 opV Pg (Instr.extract t21 1) (panK R) w fun t23 w =>
 opV Pg (Instr.alloc 67 true (.tuple #[])) (panK R) w fun t5 w =>
 opU Pg (Instr.storeAt 67 t5 t22) (panK R) w fun w =>
 C0 61 #[] R w fun t25 w =>
 C0 41 #[t25,(.int .i64 0)] R w fun t26 w =>
 n10c10 t1 t3 t5 t13 t18 t23 t26 R w
def n10c12 (t1 t13 t16:Value) (R:RT) (w:World):Prop :=
 opV Pg (Instr.extract t16 0) (panK R) w fun t17 w =>
 opV Pg (Instr.extract t16 1) (panK R) w fun t18 w =>
 opV Pg (Instr.alloc 67 true (.tuple #[])) (panK R) w fun t3 w =>
 opU Pg (Instr.storeAt 67 t3 t17) (panK R) w fun w =>
 C0 61 #[] R w fun t20 w =>
 C0 39 #[t20,(.int .i64 1)] R w fun t21 w =>
 n10c11 t1 t3 t13 t18 t21 R w
def n10c13 (t11:Value) (R:RT) (w:World):Prop :=
 opV Pg (Instr.extract t11 0) (panK R) w fun t12 w =>
 opV Pg (Instr.extract t11 1) (panK R) w fun t13 w =>
 opV Pg (Instr.alloc 67 true (.tuple #[])) (panK R) w fun t1 w =>
 opU Pg (Instr.storeAt 67 t1 t12) (panK R) w fun w =>
 C0 61 #[] R w fun t15 w =>
 C0 40 #[t15,(.int .i64 0)] R w fun t16 w =>
 n10c12 t1 t13 t16 R w
def n10 (R:RT) (w:World):Prop :=
 C0 61 #[] R w fun t10 w =>
 C0 39 #[t10,(.int .i64 0)] R w fun t11 w =>
 n10c13 t11 R w
theorem n10s {R:RT} {w:World} (h:n10 R w):Calls Pg 32 #[] w R:=by
 refine yD Tryz.func32 ?_
 refine zs<|zr<|zm<|zn<|zk<|zs<|zr<|yc h c61 fun _ w h=>yc h c39 fun _ w h=>zm<|yv h fun _ w h=>yv h fun _ w h=>yv h fun _ w h=>yu h fun w h=>zm ?_
 refine zn<|zk<|zs<|zr<|yc h c61 fun _ w h=>yc h c40 fun _ w h=>zm<|yv h fun _ w h=>yv h fun _ w h=>yv h fun _ w h=>yu h fun w h=>zm<|zn<|zk<|zs ?_
 refine zr<|yc h c61 fun _ w h=>yc h c39 fun _ w h=>zm<|yv h fun _ w h=>yv h fun _ w h=>yv h fun _ w h=>yu h fun w h=>zm<|zn<|zk<|zs<|zr<|yc h c61 fun _ w h=>yc h c41 fun _ w h=>?_
 refine zm<|yv h fun _ w h=>yv h fun _ w h=>zm<|zm<|zn<|zk<|zs<|sim_regionG<|yG 2<|yc h c62 fun _ w h=>zm<|zn<|yg1 3 1 true [31,32,33] 33 h (fun _ T hT h=>?_) fun σ w h=>?_
 · refine yv h fun _ w h=>zm<|yc h c63 fun _ w h=>zn ?_
   exact zt hT h
 refine yG 2<|yp h fun _ h=>zm<|zn<|yg1 3 6 true [36,37,38] 38 h (fun _ T hT h=>?_) fun σ w h=>?_
 · refine yv h fun _ w h=>zm<|yc h c63 fun _ w h=>zn ?_
   exact zt hT h
 refine yG 2<|yp h fun _ h=>zm<|zn<|yg1 3 11 true [41,42,43] 43 h (fun _ T hT h=>?_) fun σ w h=>?_
 · refine yv h fun _ w h=>zm<|yc h c63 fun _ w h=>zn ?_
   exact zt hT h
 refine yG 2<|yp h fun _ h=>zm<|zn<|yg1 2 16 true [46,47] 47 h (fun _ T hT h=>?_) fun σ w h=>?_
 · refine zm<|yv h fun _ w h=>zn ?_
   exact zt hT h
 refine yG 2<|yp h fun _ h=>zm<|zn<|yg1 2 20 true [50,51] 51 h (fun _ T hT h=>?_) fun σ w h=>?_
 · refine zm<|yb h fun _ w h=>zn ?_
   exact zt hT h
 refine yG 2<|yp h fun _ h=>zm<|zn<|yg1 1 24 true [54] 54 h (fun _ T hT h=>?_) fun σ w h=>?_
 · refine yc h c64 fun _ w h=>zn ?_
   exact zt hT h
 refine yG 2<|yp h fun _ h=>zm<|zn<|yg1 1 27 true [57] 57 h (fun _ T hT h=>?_) fun σ w h=>?_
 · refine yc h c64 fun _ w h=>zn ?_
   exact zt hT h
 refine yG 2<|yp h fun _ h=>zm<|zn<|yg1 1 30 true [60] 60 h (fun _ T hT h=>?_) fun σ w h=>?_
 · refine yc h c62 fun _ w h=>zn ?_
   exact zt hT h
 refine yG 2<|yp h fun _ h=>zm<|zn<|yg1 1 33 true [63] 63 h (fun _ T hT h=>?_) fun σ w h=>?_
 · refine yc h c62 fun _ w h=>zn ?_
   exact zt hT h
 exact yG 2<|yp h fun _ h=>zm<|zn<|sim_end<|zk<|sim_ret<|body_ret1 rfl rfl h
def n101c1 (t6 t12:Value) (R:RT) (w:World):Prop :=
 opV Pg (Instr.extract t12 0) (panK R) w fun t13 w =>
 opV Pg (Instr.extract t12 1) (panK R) w fun t14 w =>
 opU Pg (Instr.storeAt 67 t6 t13) (panK R) w fun w =>
 qW Pg 67 t6 w fun r0 =>
 R (.returned (.tuple #[r0,t14])) w
def n101 (t0 t1 t2:Value) (R:RT) (w:World):Prop :=
 opV Pg (Instr.box 24 t0) (panK R) w fun t3 w =>
 opV Pg (Instr.box 3 t2) (panK R) w fun t5 w =>
 opV Pg (Instr.alloc 67 true (.tuple #[])) (panK R) w fun t6 w =>
 L0 24 t3 R w fun t8 w =>
 L0 3 t5 R w fun t10 w =>
 opV Pg (Instr.makeFunc (.func 66) #[] #[t5]) (panK R) w fun t11 w =>
 C0 65 #[t8,t1,t10,t11] R w fun t12 w =>
 n101c1 t6 t12 R w
theorem n101s {t0 t1 t2:Value} {R:RT} {w:World} (h:n101 t0 t1 t2 R w):Calls Pg 33 #[t0,t1,t2] w R:=by
 refine yD Tryz.func33 ?_
 refine zs<|zr<|yv h fun _ w h=>yv h fun _ w h=>yv h fun _ w h=>zm<|zn<|zk<|zs<|zr<|yv h fun _ w h=>zm<|yv h fun _ w h=>yF h fun _ w h=>yc h c65 fun _ w h=>?_
 exact yv h fun _ w h=>yv h fun _ w h=>yu h fun w h=>zm<|zn<|zk<|sim_ret<|body_retCT rfl rfl rfl h
def n108c1 (t6 t12:Value) (R:RT) (w:World):Prop :=
 opV Pg (Instr.extract t12 0) (panK R) w fun t13 w =>
 opV Pg (Instr.extract t12 1) (panK R) w fun t14 w =>
 opU Pg (Instr.storeAt 67 t6 t13) (panK R) w fun w =>
 qW Pg 67 t6 w fun r0 =>
 R (.returned (.tuple #[r0,t14])) w
def n108 (t0 t1 t2:Value) (R:RT) (w:World):Prop :=
 opV Pg (Instr.box 24 t0) (panK R) w fun t3 w =>
 opV Pg (Instr.box 3 t2) (panK R) w fun t5 w =>
 opV Pg (Instr.alloc 67 true (.tuple #[])) (panK R) w fun t6 w =>
 L0 24 t3 R w fun t8 w =>
 L0 3 t5 R w fun t10 w =>
 opV Pg (Instr.makeFunc (.func 68) #[] #[t5]) (panK R) w fun t11 w =>
 C0 65 #[t8,t1,t10,t11] R w fun t12 w =>
 n108c1 t6 t12 R w
theorem n108s {t0 t1 t2:Value} {R:RT} {w:World} (h:n108 t0 t1 t2 R w):Calls Pg 34 #[t0,t1,t2] w R:=by
 refine yD Tryz.func34 ?_
 refine zs<|zr<|yv h fun _ w h=>yv h fun _ w h=>yv h fun _ w h=>zm<|zn<|zk<|zs<|zr<|yv h fun _ w h=>zm<|yv h fun _ w h=>yF h fun _ w h=>yc h c65 fun _ w h=>?_
 exact yv h fun _ w h=>yv h fun _ w h=>yu h fun w h=>zm<|zn<|zk<|sim_ret<|body_retCT rfl rfl rfl h
theorem OwnE.below {α:Type} {w w':World} {lo n:Nat} {T:TypeId} {enc:α→List Value} {v:Value} {l:List α} (h:OwnE w lo T n enc v l) (hh:∀ g:Nat,lo≤g→w'.heap[g]?=w.heap[g]?):OwnE w' lo T n enc v l:=by
 refine ⟨h.1,?_⟩
 rcases h.2 with h2 | ⟨g,cap,cur,h1,h2,h3,h4⟩
 · exact .inl h2
 · exact .inr ⟨g,cap,cur,h1,h2,(hh _ h2).trans h3,h4⟩
theorem OwnE.under {α:Type} {w:World} {lo n:Nat} {T:TypeId} {enc:α→List Value} {v x y:Value} {p o o':Nat} {l:List α} (h:OwnE w lo T n enc v l) (hp:p < lo):OwnE ((w.setCell ⟨p,o,none⟩ x).setCell ⟨p,o',none⟩ y) lo T n enc v l :=
 OwnE.below h fun g hg=>by rw [heap_setE (by omega),heap_setE (by omega)]
def fieldV (d:DefD) (i fld:Int):Int×Int:=match d.msgs[i.toNat]? with
 | none=>(0,0)
 | some m=>match m.fields[fld.toNat]? with
  | none=>(0,0)
  | some f=>spanF (spansD d.msgs) m.fields f
def posV (d:DefD) (i fld:Int):Int×Int:=match d.msgs[i.toNat]? with
 | none=>(0,0)
 | some m=>posS (spansD d.msgs) m.fields fld.toNat
def msgV (d:DefD) (i:Int):Int×Int:=match d.msgs[i.toNat]? with
 | none=>(0,0)
 | some m=>lookS (spansD d.msgs) m.name
def getR (e:Int) (r:Int×Int):Value:=if e=0 then .tuple #[rangeVal r.1 r.2,.int .i64 0] else .tuple #[rangeVal 0 0,.int .i64 e]
theorem errG_zero {d:DefD} {i fld:Int} (h:errG d i fld=0):(checkP d).2.2=0∧∃ (k j:Nat) (m:MsgD) (f:FieldD),i=k∧fld=j∧d.msgs[k]?=some m∧m.fields[j]?=some f:=by
 unfold errG at h
 by_cases hE:msgE d i=0
 · rw [if_neg (by simp [hE])] at h
   obtain ⟨hc,k,m,rfl,hk,hm,hL⟩:=msgE_zero hE
   rw [hL] at h
   by_cases hf:fld < 0∨(m.fields.length:Int)≤fld
   · rw [if_pos hf] at h;exact absurd h (by decide)
   · obtain ⟨f,hfj⟩:=getElem?_lt (l:=m.fields) (k:=fld.toNat) (by omega)
     exact ⟨hc,k,fld.toNat,m,f,rfl,by omega,hm,hfj⟩
 · rw [if_pos hE] at h;exact absurd h hE
section
variable {w0:World} {d:DefD}
theorem field1_ret (w0:World) (m:MsgD) (fl:Value) (mr:Nat) (sp:List (ByteArray×Int×Int)) (p5 j:Nat) (f:FieldD) (hM:MapOf w0 mr (RP sp)) (hF:FieldsOf w0 fl m.fields) (hj:m.fields[j]?=some f) (ok:OkS sp m.fields f) (h5:w0.heap[p5]?=some (.cells #[.int .i64 (j:Int)] 3 (0,0))):Ret Pg 66 #[.agg (planCells m fl mr).toArray,.pointer (some ⟨p5,0,none⟩)] w0 fun r w'=>r=rangeVal (spanF sp m.fields f).1 (spanF sp m.fields f).2∧Ext w0 w':=by
 have hf1:=SliceOf.oneCell hF
 obtain ⟨A,c,rfl,hlc,hcm,hlm,hel⟩:=SliceOf.open hF
 obtain ⟨b,o,cs,rfl,hl,hA,hE⟩:=hel j f hj
 obtain ⟨tv,cv,rfl,hT,hC,ht1,hc1⟩:=hE.op
 have hjl:=(List.getElem?_eq_some_iff.1 hj).1
 have l5:=(Array.getElem?_eq_some_iff.1 h5).1
 refine n102s (R:=retR _) ?_;unfold n102
 simp (disch:=try exact DI) only [↓PR,QR,simprocAttr]
 generalize hW:World.alloc (World.alloc w0 _) _=W
 have e0:Ext w0 W:=by rw [← hW];exact ee
 have o2:W.heap[w0.heap.size]?=some (.cells (planCells m (.slice (some ⟨b,o,none⟩) m.fields.length c) mr).toArray 105 (0,0)):=by rw [← hW];simp (disch:=try exact DI) only [↓PR,QR,simprocAttr]
 have o3:W.heap[w0.heap.size+1]?=some (.cells #[.int .i64 0,.int .i64 0] 67 (0,0)):=by rw [← hW];simp (disch:=try exact DI) only [↓PR,QR,simprocAttr]
 clear hW
 refine drawK_intro ?_
 have eD:Ext W W.drew:=(Ext.refl _).wdrew
 have E:=e0.trans eD
 have x5:=e0.obj h5
 have qi:∀ K:Value→Prop,qV Pg (EC W.drew) (Instr.indexAt 42 (.slice (some ⟨b,o,none⟩) m.fields.length c) (.int .i64 (j:Int))) K=K (.pointer (some ⟨b,o+j*15,none⟩)):=fun K=>qV_of fun QP w' k=>op_indexN Tryz.underlying42 ty38 b o m.fields.length c .i64 j hjl
 have ql:∀ K:Value→Prop,qV Pg (EC W.drew) (Instr.loadAt 38 (.pointer (some ⟨b,o+j*15,none⟩))) K=K (.agg (fieldCells f tv cv).toArray):=fun K=>qV_eqC fun w' e=>run_of_op fun QP k=>op_load ((hA.ext (E.trans e)).loads ty38 rfl)
 unfold n102c1
 simp (disch:=try exact DI) only [↓PR,QR,simprocAttr,(cells_of_heap o2).1,(cells_of_heap x5).1,(cells_of_heap h5).1,qi,hA.c15 e0]
 refine zcr (of_ret _ m _ tv cv mr f sp (hM.ext E) (hF.ext E) (hT.ext E) (hC.ext E) ok) fun w1 e1=>?_
 refine ⟨e1,?_⟩
 have E1:=E.trans e1
 have x3:=e1.obj (eD.obj o3)
 have l3:=(Array.getElem?_eq_some_iff.1 x3).1
 simp (disch:=try exact DI) only [↓PR,QR,simprocAttr,(cells_of_heap x3).1,(cells_of_heap x3).2]
 refine turnK_intro ?_
 simp (disch:=try exact DI) only [↓PR,QR,simprocAttr,(cells_of_heap x3).1]
 exact ⟨by first | trivial | rfl,ee⟩
theorem FieldX_ret (v:Value) (i fld:Int) (hd:DefVal w0 v d) (ht:calm d) (hs:Sound d) (hl:d.msgs.length≤1048576):Ret Pg 33 #[v,.int .i64 i,.int .i64 fld] w0 fun r w'=>r=getR (errG d i fld) (fieldV d i fld)∧Ext w0 w':=by
 obtain ⟨mv,rfl,hM⟩:=hd
 have hm1:=SliceOf.oneCell hM
 refine n101s (R:=retR _) ?_;unfold n101
 simp (disch:=try exact DI) only [↓PR,QR,simprocAttr]
 generalize hW:World.alloc (World.alloc (World.alloc w0 _) _) _=W
 have e0:Ext w0 W:=by rw [← hW];exact ee
 have o5:W.heap[w0.heap.size+1]?=some (.cells #[.int .i64 fld] 3 (0,0)):=by rw [← hW];simp (disch:=try exact DI) only [↓PR,QR,simprocAttr]
 have o6:W.heap[w0.heap.size+1+1]?=some (.cells #[.int .i64 0,.int .i64 0] 67 (0,0)):=by rw [← hW];simp (disch:=try exact DI) only [↓PR,QR,simprocAttr]
 clear hW
 repeat rw [World.size_alloc]
 refine callK_ret (get_ret _ i fld ⟨_,rfl,hM.ext e0⟩ ht hs hl _ _ c66 (fieldV d i fld).1 (fieldV d i fld).2 ?_) ?_
 · intro m hm hG w fl mr e hF hMp
   obtain ⟨hck,k,j,m',f,rfl,rfl,hm',hf⟩:=errG_zero hG
   rw [Int.toNat_natCast] at hm
   rw [hm] at hm'
   injection hm' with hm'
   subst hm'
   have hV:fieldV d k j=spanF (spansD d.msgs) m.fields f:=by unfold fieldV;rw [Int.toNat_natCast,hm];simp only [Int.toNat_natCast,hf]
   rw [hV]
   exact field1_ret w m fl mr _ _ j f hMp hF hf ((hs.full hck m (List.mem_of_getElem? hm)).ok f (List.mem_of_getElem? hf)) (e.obj o5)
 rintro _ w1 ⟨rfl,e1⟩
 have x6:=e1.obj o6
 have E1:=e0.trans e1
 have l6:=(Array.getElem?_eq_some_iff.1 x6).1
 unfold n101c1
 unfold getR
 by_cases hG:errG d i fld=0
 · rw [if_pos hG]
   simp (disch:=try exact DI) only [↓PR,QR,simprocAttr,(cells_of_heap x6).1,(cells_of_heap x6).2]
   exact ⟨by first | trivial | rfl,ee⟩
 · rw [if_neg hG]
   simp (disch:=try exact DI) only [↓PR,QR,simprocAttr,(cells_of_heap x6).1,(cells_of_heap x6).2]
   exact ⟨by first | trivial | rfl,ee⟩
end
def pkR (e:Int) (r:Int×Int):Int×Int:=if e=0 then r else (0,0)
theorem getR_pk (e:Int) (r:Int×Int):getR e r = .tuple #[rangeVal (pkR e r).1 (pkR e r).2,.int .i64 e]:=by
 unfold getR pkR
 by_cases h:e=0
 · rw [if_pos h,if_pos h,h]
 · rw [if_neg h,if_neg h]
section
variable {w0:World} {d:DefD}
theorem pos1_ret (w0:World) (m:MsgD) (fl:Value) (mr:Nat) (sp:List (ByteArray×Int×Int)) (p5 j:Nat) (hM:MapOf w0 mr (RP sp)) (hF:FieldsOf w0 fl m.fields) (hj:j≤m.fields.length) (hl:m.fields.length≤1048576) (ok:OkM sp m.fields) (h5:w0.heap[p5]?=some (.cells #[.int .i64 (j:Int)] 3 (0,0))):Ret Pg 68 #[.agg (planCells m fl mr).toArray,.pointer (some ⟨p5,0,none⟩)] w0 fun r w'=>r=rangeVal (posS sp m.fields j).1 (posS sp m.fields j).2∧Ext w0 w':=by
 have hf1:=SliceOf.oneCell hF
 have l5:=(Array.getElem?_eq_some_iff.1 h5).1
 refine n109s (R:=retR _) ?_;unfold n109
 simp (disch:=try exact DI) only [↓PR,QR,simprocAttr]
 generalize hW:World.alloc (World.alloc w0 _) _=W
 have e0:Ext w0 W:=by rw [← hW];exact ee
 have o3:W.heap[w0.heap.size+1]?=some (.cells #[.int .i64 0,.int .i64 0] 67 (0,0)):=by rw [← hW];simp (disch:=try exact DI) only [↓PR,QR,simprocAttr]
 clear hW
 have x5:=e0.obj h5
 simp (disch:=try exact DI) only [↓PR,QR,simprocAttr,(cells_of_heap x5).1,(cells_of_heap h5).1]
 refine zcr (atS_ret _ m fl mr sp (hM.ext e0) (hF.ext e0) ok j hj hl) fun w1 e1=>?_
 have E1:=e0.trans e1
 have x3:=e1.obj o3
 have l3:=(Array.getElem?_eq_some_iff.1 x3).1
 simp (disch:=try exact DI) only [↓PR,QR,simprocAttr,(cells_of_heap x3).1,(cells_of_heap x3).2]
 exact ⟨by first | trivial | rfl,ee⟩
theorem PositionX_ret (v:Value) (i fld:Int) (hd:DefVal w0 v d) (ht:calm d) (hs:Sound d) (hl:d.msgs.length≤1048576) (hlf:∀ m∈d.msgs,m.fields.length≤1048576):Ret Pg 34 #[v,.int .i64 i,.int .i64 fld] w0 fun r w'=>r=getR (errG d i fld) (posV d i fld)∧Ext w0 w':=by
 obtain ⟨mv,rfl,hM⟩:=hd
 have hm1:=SliceOf.oneCell hM
 refine n108s (R:=retR _) ?_;unfold n108
 simp (disch:=try exact DI) only [↓PR,QR,simprocAttr]
 generalize hW:World.alloc (World.alloc (World.alloc w0 _) _) _=W
 have e0:Ext w0 W:=by rw [← hW];exact ee
 have o5:W.heap[w0.heap.size+1]?=some (.cells #[.int .i64 fld] 3 (0,0)):=by rw [← hW];simp (disch:=try exact DI) only [↓PR,QR,simprocAttr]
 have o6:W.heap[w0.heap.size+1+1]?=some (.cells #[.int .i64 0,.int .i64 0] 67 (0,0)):=by rw [← hW];simp (disch:=try exact DI) only [↓PR,QR,simprocAttr]
 clear hW
 repeat rw [World.size_alloc]
 refine callK_ret (get_ret _ i fld ⟨_,rfl,hM.ext e0⟩ ht hs hl _ _ c68 (posV d i fld).1 (posV d i fld).2 ?_) ?_
 · intro m hm hG w fl mr e hF hMp
   obtain ⟨hck,k,j,m',f,rfl,rfl,hm',hf⟩:=errG_zero hG
   rw [Int.toNat_natCast] at hm
   rw [hm] at hm'
   injection hm' with hm'
   subst hm'
   have hV:posV d k j=posS (spansD d.msgs) m.fields j:=by unfold posV;rw [Int.toNat_natCast,hm];simp only [Int.toNat_natCast]
   rw [hV]
   have hj:=(List.getElem?_eq_some_iff.1 hf).1
   exact pos1_ret w m fl mr _ _ j hMp hF (by omega) (hlf m (List.mem_of_getElem? hm)) (hs.full hck m (List.mem_of_getElem? hm)) (e.obj o5)
 rintro _ w1 ⟨rfl,e1⟩
 have x6:=e1.obj o6
 have E1:=e0.trans e1
 have l6:=(Array.getElem?_eq_some_iff.1 x6).1
 unfold n108c1
 unfold getR
 by_cases hG:errG d i fld=0
 · rw [if_pos hG]
   simp (disch:=try exact DI) only [↓PR,QR,simprocAttr,(cells_of_heap x6).1,(cells_of_heap x6).2]
   exact ⟨by first | trivial | rfl,ee⟩
 · rw [if_neg hG]
   simp (disch:=try exact DI) only [↓PR,QR,simprocAttr,(cells_of_heap x6).1,(cells_of_heap x6).2]
   exact ⟨by first | trivial | rfl,ee⟩
theorem msg1_ret (w0:World) (m:MsgD) (fl:Value) (mr:Nat) (sp:List (ByteArray×Int×Int)) (hM:MapOf w0 mr (RP sp)) (hF:FieldsOf w0 fl m.fields):Ret Pg 77 #[.agg (planCells m fl mr).toArray] w0 fun r w'=>r=rangeVal (lookS sp m.name).1 (lookS sp m.name).2∧Ext w0 w':=by
 have hf1:=SliceOf.oneCell hF
 refine n107s (R:=retR _) ?_;unfold n107
 simp (disch:=try exact DI) only [↓PR,QR,simprocAttr]
 generalize hW:World.alloc (World.alloc w0 _) _=W
 have e0:Ext w0 W:=by rw [← hW];exact ee
 have o3:W.heap[w0.heap.size+1]?=some (.cells #[.int .i64 0,.int .i64 0] 67 (0,0)):=by rw [← hW];simp (disch:=try exact DI) only [↓PR,QR,simprocAttr]
 clear hW
 rw [run_look (hM.ext e0)]
 have l3:=(Array.getElem?_eq_some_iff.1 o3).1
 simp (disch:=try exact DI) only [↓PR,QR,simprocAttr,(cells_of_heap o3).1,(cells_of_heap o3).2]
 exact ⟨by first | trivial | rfl,ee⟩
theorem MessageX_ret (v:Value) (i:Int) (hd:DefVal w0 v d) (ht:calm d) (hs:Sound d) (hl:d.msgs.length≤1048576):Ret Pg 39 #[v,.int .i64 i] w0 fun r w'=>r=getR (errG d i 0) (msgV d i)∧Ext w0 w':=by
 obtain ⟨mv,rfl,hM⟩:=hd
 have hm1:=SliceOf.oneCell hM
 refine n106s (R:=retR _) ?_;unfold n106
 simp (disch:=try exact DI) only [↓PR,QR,simprocAttr]
 generalize hW:World.alloc (World.alloc w0 _) _=W
 have e0:Ext w0 W:=by rw [← hW];exact ee
 have o6:W.heap[w0.heap.size+1]?=some (.cells #[.int .i64 0,.int .i64 0] 67 (0,0)):=by rw [← hW];simp (disch:=try exact DI) only [↓PR,QR,simprocAttr]
 clear hW
 repeat rw [World.size_alloc]
 refine callK_ret (get_ret _ i 0 ⟨_,rfl,hM.ext e0⟩ ht hs hl _ _ c77 (msgV d i).1 (msgV d i).2 ?_) ?_
 · intro m hm hG w fl mr e hF hMp
   have hV:msgV d i=lookS (spansD d.msgs) m.name:=by unfold msgV;rw [hm]
   rw [hV]
   exact msg1_ret w m fl mr _ hMp hF
 rintro _ w1 ⟨rfl,e1⟩
 have x6:=e1.obj o6
 have E1:=e0.trans e1
 have l6:=(Array.getElem?_eq_some_iff.1 x6).1
 unfold n106c1
 unfold getR
 by_cases hG:errG d i 0=0
 · rw [if_pos hG]
   simp (disch:=try exact DI) only [↓PR,QR,simprocAttr,(cells_of_heap x6).1,(cells_of_heap x6).2]
   exact ⟨by first | trivial | rfl,ee⟩
 · rw [if_neg hG]
   simp (disch:=try exact DI) only [↓PR,QR,simprocAttr,(cells_of_heap x6).1,(cells_of_heap x6).2]
   exact ⟨by first | trivial | rfl,ee⟩
theorem FixedX_ret (v:Value) (i:Int) (hd:DefVal w0 v d) (ht:calm d) (hs:Sound d) (hl:d.msgs.length≤1048576):Ret Pg 41 #[v,.int .i64 i] w0 fun r w'=>r = .tuple #[.bool (errG d i 0 == 0&&(msgV d i).1 == (msgV d i).2),.int .i64 (errG d i 0)]∧Ext w0 w':=by
 obtain ⟨mv,rfl,hM⟩:=hd
 have hm1:=SliceOf.oneCell hM
 refine n103s (R:=retR _) ?_;unfold n103
 simp (disch:=try exact DI) only [↓PR,QR,simprocAttr]
 generalize hW:World.alloc w0 _=W
 have e0:Ext w0 W:=by rw [← hW];exact ee
 clear hW
 refine zcr (MessageX_ret _ i ⟨_,rfl,hM.ext e0⟩ ht hs hl) fun w1 e1=>?_
 have E1:=e0.trans e1
 rw [getR_pk]
 unfold n103c1
 by_cases hG:errG d i 0=0
 · have d1:(errG d i 0 == 0)=true:=by simpa using hG
   rw [show pkR (errG d i 0) (msgV d i)=msgV d i by unfold pkR;rw [if_pos hG]]
   simp (disch:=try exact DI) only [↓PR,QR,simprocAttr,d1]
   exact ⟨by first | trivial | rfl,ee⟩
 · have d1:(errG d i 0 == 0)=false:=by simpa using hG
   simp (disch:=try exact DI) only [↓PR,QR,simprocAttr,d1]
   exact ⟨by first | trivial | rfl,ee⟩
theorem LengthX_ret (v:Value) (i:Int) (hd:DefVal w0 v d) (ht:calm d) (hs:Sound d) (hl:d.msgs.length≤1048576) (hb:errG d i 0=0→(0≤(msgV d i).1∧(msgV d i).1≤1099511627776)∧0≤(msgV d i).2∧(msgV d i).2≤1099511627776):Ret Pg 40 #[v,.int .i64 i] w0 fun r w'=>r=getR (errG d i 0) (((msgV d i).1+7).tdiv 8,((msgV d i).2+7).tdiv 8)∧Ext w0 w':=by
 obtain ⟨mv,rfl,hM⟩:=hd
 have hm1:=SliceOf.oneCell hM
 have hp:(0≤(pkR (errG d i 0) (msgV d i)).1∧(pkR (errG d i 0) (msgV d i)).1≤1099511627776)∧0≤(pkR (errG d i 0) (msgV d i)).2∧(pkR (errG d i 0) (msgV d i)).2≤1099511627776:=by
  unfold pkR
  split
  · rename_i h;exact hb h
  · decide
 have hq:pkR (errG d i 0) (((msgV d i).1+7).tdiv 8,((msgV d i).2+7).tdiv 8)=(((pkR (errG d i 0) (msgV d i)).1+7).tdiv 8,((pkR (errG d i 0) (msgV d i)).2+7).tdiv 8):=by unfold pkR;split<;>rfl
 refine n104s (R:=retR _) ?_;unfold n104
 simp (disch:=try exact DI) only [↓PR,QR,simprocAttr]
 generalize hW:World.alloc (World.alloc w0 _) _=W
 have e0:Ext w0 W:=by rw [← hW];exact ee
 have o4:W.heap[w0.heap.size+1]?=some (.cells #[.int .i64 0,.int .i64 0] 67 (0,0)):=by rw [← hW];simp (disch:=try exact DI) only [↓PR,QR,simprocAttr]
 clear hW
 refine zcr (MessageX_ret _ i ⟨_,rfl,hM.ext e0⟩ ht hs hl) fun w1 e1=>?_
 have E1:=e0.trans e1
 rw [getR_pk,getR_pk,hq]
 generalize pkR (errG d i 0) (msgV d i)=q at hp ⊢
 generalize errG d i 0=e
 obtain ⟨a,b⟩:=q
 dsimp only at hp ⊢
 have x4:=e1.obj o4
 unfold n104c2
 simp (disch:=try exact DI) only [↓PR,QR,simprocAttr]
 generalize hV:World.alloc w1 _=V
 have eV:Ext w1 V:=by rw [← hV];exact ee
 have oV:V.heap[w1.heap.size]?=some (.cells #[.int .i64 a,.int .i64 b] 67 (0,0)):=by rw [← hV];exact heap_new _ _ _
 clear hV
 have z4:=eV.obj x4
 have l4:=(Array.getElem?_eq_some_iff.1 z4).1
 have E2:=E1.trans eV
 refine drawK_intro ?_
 have eD:Ext V V.drew:=(Ext.refl _).wdrew
 simp (disch:=try exact DI) only [↓PR,QR,simprocAttr,(cells_of_heap oV).1]
 refine zcr (same_ret _ 8) fun w2 e2=>?_
 refine ⟨e2,?_⟩
 unfold n104c1
 refine zcr (both_ret _ a b 8 8 _ _ _ c80 (fun w _=>len1_ret w a hp.1) (fun w _=>len1_ret w b hp.2)) fun w3 e3=>?_
 refine ⟨e2.trans e3,?_⟩
 have E3:=((E2.trans eD).trans e2).trans e3
 have y4:=e3.obj (e2.obj (eD.obj z4))
 have l44:=(Array.getElem?_eq_some_iff.1 y4).1
 simp (disch:=try exact DI) only [↓PR,QR,simprocAttr,(cells_of_heap y4).1,(cells_of_heap y4).2]
 refine turnK_intro ?_
 simp (disch:=try exact DI) only [↓PR,QR,simprocAttr,(cells_of_heap y4).1,(cells_of_heap y4).2]
 exact ⟨by first | trivial | rfl,ee⟩
end
theorem spans_take (l:List MsgD) {k:Nat} (hk:k≤l.length):(spansD l).take k=spansD (l.take k):=by
 have key:∀ n,k+n≤l.length→(spansD (l.take (k+n))).take k=spansD (l.take k):=by
  intro n
  induction n with
  | zero =>
   intro _
   rw [Nat.add_zero,List.take_of_length_le]
   rw [spansD_len,List.length_take];omega
  | succ n ih =>
   intro h
   obtain ⟨m,hm⟩:=getElem?_lt (l:=l) (k:=k+n) (by omega)
   rw [← Nat.add_assoc,spansD_step hm,stepM,List.take_append_of_le_length (by rw [spansD_len,List.length_take];omega)]
   exact ih (by omega)
 have:=key (l.length - k) (by omega)
 rwa [show k+(l.length - k)=l.length by omega,List.take_length] at this
theorem look_at {l:List MsgD} (hN:DistM l) {k:Nat} {s:ByteArray} {q:Int×Int} (h:(spansD l)[k]?=some (s,q)):lookS (spansD l) s=q:=by
 have hlen:=spansD_len l
 have hk:=(List.getElem?_eq_some_iff.1 h).1
 have nm:∀ (j:Nat) (q:Int×Int),(spansD l)[j]?=some (s,q)→∃ m,l[j]?=some m∧m.name=s:=by
  intro j q hj
  have:=congrArg (fun x=>x[j]?) (keysP l)
  simp only [List.getElem?_map,hj,Option.map_some] at this
  cases hm:l[j]? with
  | none=>rw [hm] at this;simp at this
  | some m=>rw [hm] at this;simp at this;exact ⟨m,rfl,this.symm⟩
 obtain ⟨m,hm,hn⟩:=nm k q h
 rcases first_last (keysP l) hN s with ⟨_,h2⟩ | ⟨j,b,h1,h2,h3,h4⟩
 · exact absurd rfl (lastP_none.1 h2 _ (List.mem_of_getElem? h))
 · obtain ⟨m',hm',hn'⟩:=nm j b h3
   have hjk:j=k:=by
    rcases Nat.lt_trichotomy j k with hl | hl | hl
    · obtain ⟨h5,h6⟩:=List.getElem?_eq_some_iff.1 hm
      obtain ⟨h7,h8⟩:=List.getElem?_eq_some_iff.1 hm'
      exact absurd (by rw [h8,h6,hn,hn']) (List.pairwise_iff_getElem.1 hN j k h7 h5 hl)
    · exact hl
    · obtain ⟨h5,h6⟩:=List.getElem?_eq_some_iff.1 hm
      obtain ⟨h7,h8⟩:=List.getElem?_eq_some_iff.1 hm'
      exact absurd (by rw [h8,h6,hn,hn']) (List.pairwise_iff_getElem.1 hN k j h5 h7 hl)
   subst hjk
   rw [h] at h3
   injection h3 with h3
   injection h3 with _ h3
   unfold lookS
   rw [show lastR (spansD l) s=some b from h4,h3]
   rfl
theorem dist_take {l:List MsgD} (hN:DistM l) (k:Nat):DistM (l.take k):=List.Pairwise.sublist (List.take_sublist k l) hN
theorem look_more {l:List MsgD} (hN:DistM l) {k:Nat} (hk:k≤l.length) {s:ByteArray} (h:(lastP (depsOf (l.take k)) s).isSome=true):lookS (spansD l) s=lookS (spansD (l.take k)) s:=by
 obtain ⟨j,_,hj,hs⟩:=ref_at (dist_take hN k) h
 rw [← spans_take l hk,List.getElem?_take] at hs
 split at hs
 · rw [look_at hN hs,spans_take l hk]
 · cases hs
theorem span_at {l:List MsgD} {k:Nat} {m:MsgD} (hm:l[k]?=some m):(spansD l)[k]?=some (m.name,posS (spansD (l.take k)) m.fields m.fields.length):=by
 have hk:=(List.getElem?_eq_some_iff.1 hm).1
 have h1:(spansD (l.take (k+1)))[k]?=some (m.name,posS (spansD (l.take k)) m.fields m.fields.length):=by
  rw [spansD_step hm,stepM,List.getElem?_append_right (by rw [spansD_len,List.length_take];omega),spansD_len,List.length_take,Nat.min_eq_left (by omega),Nat.sub_self]
  rfl
 rw [← spans_take l (by omega),List.getElem?_take,if_pos (by omega)] at h1
 exact h1
theorem choice_congr {sp sp':List (ByteArray×Int×Int)} (l:List CaseD) (h:∀ c∈l,lookS sp c.of=lookS sp' c.of):choiceS sp l=choiceS sp' l:=by
 have key:∀ (l:List CaseD) (o:Int×Int),(∀ c∈l,lookS sp c.of=lookS sp' c.of)→l.foldl (stepC sp) o=l.foldl (stepC sp') o:=by
  intro l
  induction l with
  | nil=>intro o _;rfl
  | cons c l ih =>
   intro o h
   rw [List.foldl_cons,List.foldl_cons,show stepC sp o c=stepC sp' o c by unfold stepC;rw [h c (List.mem_cons_self ..)]]
   exact ih _ fun x hx=>h x (List.mem_cons_of_mem _ hx)
 cases l with
 | nil=>rfl
 | cons c l =>
  show (c::l).foldl (stepC sp) (lookS sp c.of)=(c::l).foldl (stepC sp') (lookS sp' c.of)
  rw [h c (List.mem_cons_self ..)]
  exact key _ _ h
theorem spanF_congr {sp sp':List (ByteArray×Int×Int)} {l:List FieldD} {f:FieldD} (h:∀ s∈refsF f,lookS sp s=lookS sp' s):spanF sp l f=spanF sp' l f:=by
 unfold spanF
 by_cases k7:f.kind=7
 · have:=h f.of (by unfold refsF;simp [k7]);simp [k7,this]
 by_cases k8:f.kind=8
 · have:=h f.of (by unfold refsF;simp [k8]);simp [k8,this]
 by_cases k9:f.kind=9
 · have:=choice_congr f.cases fun c hc=>h c.of (by unfold refsF;simp [k9];exact ⟨c,hc,rfl⟩)
   simp [k9,this]
 simp [k7,k8,k9]
theorem posS_congr {sp sp':List (ByteArray×Int×Int)} {l:List FieldD} (h:∀ f∈l,∀ s∈refsF f,lookS sp s=lookS sp' s) (k:Nat):posS sp l k=posS sp' l k:=by
 have key:∀ (r:List FieldD) (o:Int×Int),(∀ f∈r,f∈l)→r.foldl (stepQ sp l) o=r.foldl (stepQ sp' l) o:=by
  intro r
  induction r with
  | nil=>intro o _;rfl
  | cons f r ih =>
   intro o hr
   rw [List.foldl_cons,List.foldl_cons,show stepQ sp l o f=stepQ sp' l o f by unfold stepQ;rw [spanF_congr (h f (hr f (List.mem_cons_self ..)))]]
   exact ih _ fun x hx=>hr x (List.mem_cons_of_mem _ hx)
 exact key _ _ fun f hf=>List.mem_of_mem_take hf
theorem Fine.looks {l:List MsgD} (hf:Fine l) {k:Nat} {m:MsgD} (hm:l[k]?=some m):∀ f∈m.fields,∀ s∈refsF f,lookS (spansD l) s=lookS (spansD (l.take k)) s :=
 fun f hfm s hs=>look_more hf.dist (Nat.le_of_lt (List.getElem?_eq_some_iff.1 hm).1) (((hf.allV k m hm).1 f hfm).refs s hs)
theorem Fine.msgV {d:DefD} (hf:Fine d.msgs) {k:Nat} {m:MsgD} (hm:d.msgs[k]?=some m):msgV d k=posS (spansD (d.msgs.take k)) m.fields m.fields.length:=by
 unfold Go.Proofs.YtdfhjlggcdemhaaGreat.msgV
 rw [Int.toNat_natCast,hm]
 exact look_at hf.dist (span_at hm)
theorem Fine.fieldV {d:DefD} (hf:Fine d.msgs) {k j:Nat} {m:MsgD} {f:FieldD} (hm:d.msgs[k]?=some m) (hj:m.fields[j]?=some f):fieldV d k j=spanF (spansD (d.msgs.take k)) m.fields f:=by
 unfold Go.Proofs.YtdfhjlggcdemhaaGreat.fieldV
 rw [Int.toNat_natCast,hm]
 simp only [Int.toNat_natCast,hj]
 exact spanF_congr (hf.looks hm f (List.mem_of_getElem? hj))
theorem Fine.posV {d:DefD} (hf:Fine d.msgs) {k:Nat} (j:Nat) {m:MsgD} (hm:d.msgs[k]?=some m):posV d k j=posS (spansD (d.msgs.take k)) m.fields j:=by
 unfold Go.Proofs.YtdfhjlggcdemhaaGreat.posV
 rw [Int.toNat_natCast,hm]
 simp only [Int.toNat_natCast]
 exact posS_congr (hf.looks hm) j
theorem errG_0 (d:DefD) (i:Int):errG d i 0=msgE d i:=by
 unfold errG
 by_cases h:msgE d i=0
 · rw [if_neg (by simp [h]),h]
   obtain ⟨hc,k,m,rfl,hk,hm,hL⟩:=msgE_zero h
   rw [hL,if_neg]
   have:=((check_fine hc).2.2.1.allV k m hm).2.1
   omega
 · rw [if_pos h]
def rel (s:Bool) (a b:Int):Prop:=if s then a≤b else b≤a
theorem rel.map {s:Bool} {a b:Int} {f:Int→Int} (hf:∀ x y,x≤y→f x≤f y) (h:rel s a b):rel s (f a) (f b):=by
 cases s
 · exact hf _ _ h
 · exact hf _ _ h
theorem rel.refl (s:Bool) (a:Int):rel s a a:=by cases s<;>exact Int.le_refl a
def R2 (s:Bool) (a b:Int×Int):Prop:=rel s a.1 b.1∧a.2≤b.2
theorem R2.refl (s:Bool) (a:Int×Int):R2 s a a:=⟨rel.refl s _,Int.le_refl _⟩
theorem capF_mono {x y:Int} (h:x≤y):capF x≤capF y:=by unfold capF;split<;>split<;>omega
theorem upI_mono {n x y:Int} (hn:1≤n) (hx:0≤x) (h:x≤y):upI x n≤upI y n:=by
 obtain ⟨q,hq,he,h1,h2⟩:=upI_mul hx hn
 obtain ⟨r,hr,he',h3,h4⟩:=upI_mul (show 0≤y by omega) hn
 rw [he,he']
 refine Int.mul_le_mul_of_nonneg_left ?_ (by omega)
 have h5:n*q < n*(r+1):=by rw [Int.mul_add];omega
 have:=Int.lt_of_mul_lt_mul_left h5 (by omega)
 omega
theorem groupsP_mono:∀ (n x y:Nat),x≤n→x≤y→groupsP x≤groupsP y
 | n,x,y,hn,h=>by
  by_cases hx:x < 128
  · rw [groupsP_small hx];exact groupsP_pos y
  · rw [groupsP_big hx,groupsP_big (v:=y) (by omega)]
    cases n with
    | zero=>omega
    | succ n =>
     have:=groupsP_mono n (x / 128) (y / 128) (by omega) (by omega)
     omega
theorem minI_mono {s:Bool} {a b c d:Int} (h:rel s a b) (k:rel s c d):rel s (minI a c) (minI b d):=by
 unfold minI
 cases s<;>simp only [rel] at * <;> split<;>split<;>simp_all<;>omega
theorem maxI_mono {a b c d:Int} (h:a≤b) (k:c≤d):maxI a c≤maxI b d:=by unfold maxI;split<;>split<;>omega
theorem choice_rel {s:Bool} {sp sp':List (ByteArray×Int×Int)} (h:∀ n,R2 s (lookS sp n) (lookS sp' n)) (l:List CaseD):R2 s (choiceS sp l) (choiceS sp' l):=by
 have key:∀ (l:List CaseD) (o o':Int×Int),R2 s o o'→R2 s (l.foldl (stepC sp) o) (l.foldl (stepC sp') o'):=by
  intro l
  induction l with
  | nil=>exact fun _ _ h=>h
  | cons c l ih=>exact fun o o' ho=>ih _ _ ⟨minI_mono ho.1 (h c.of).1,maxI_mono ho.2 (h c.of).2⟩
 cases l with
 | nil=>exact R2.refl s _
 | cons c l=>exact key _ _ _ (h c.of)
structure FRel (s:Bool) (l l':List FieldD) (f f':FieldD):Prop where
 kind:f'.kind=f.kind
 bits:f'.bits=f.bits
 loose:f'.loose=f.loose
 low:f'.low=f.low
 of:f'.of=f.of
 cases:f'.cases=f.cases
 check:f'.check=f.check
 high:f.high≤f'.high
 iv:f.kind=4∨f.kind=12∨f.kind=7→rel s (ivL l f) (ivL l' f')∧ivH l f≤ivH l' f'
theorem spanF_rel {s:Bool} {sp sp':List (ByteArray×Int×Int)} {deps deps':List (ByteArray×Int)} {l l':List FieldD} {f f':FieldD} (h:∀ n,R2 s (lookS sp n) (lookS sp' n)) (hf:FRel s l l' f f') (hb:BSp sp) (hb':BSp sp') (hv:OkV deps l f) (hv':OkV deps' l' f'):R2 s (spanF sp l f) (spanF sp' l' f'):=by
 obtain ⟨h1,h2,h3,h4,h5,h6,h7,h8,h9⟩:=hf
 have hk:=hv.kind
 have sim:∀ (x y:Int×Int),spanF sp l f=x→spanF sp' l' f'=y→R2 s x y→R2 s (spanF sp l f) (spanF sp' l' f'):=fun x y a b c=>by rw [a,b];exact c
 have hk':f.kind=1∨f.kind=2∨f.kind=3∨f.kind=4∨f.kind=5∨f.kind=6∨f.kind=7∨f.kind=8∨f.kind=9∨f.kind=10∨f.kind=11∨f.kind=12:=by omega
 have iv:f.kind=4∨f.kind=12→R2 s (spanF sp l f) (spanF sp' l' f'):=fun k=>by
  obtain ⟨a,b⟩:=h9 (by omega)
  refine sim (capF (ivL l f*8),capF (ivH l f*8)) (capF (ivL l' f'*8),capF (ivH l' f'*8)) ?_ ?_ ⟨rel.map (f:=fun x=>capF (x*8)) (fun x y hxy=>capF_mono (by omega)) a,capF_mono (by omega)⟩
  · rcases k with k | k<;>(unfold spanF;simp [k])
  · rcases k with k | k<;>(unfold spanF;simp [h1,k])
 rcases hk' with k | k | k | k | k | k | k | k | k | k | k | k
 · exact sim (f.bits,f.bits) (f.bits,f.bits) (by unfold spanF;simp [k]) (by unfold spanF;simp [h1,h2,k]) (R2.refl s _)
 · exact sim (f.bits,f.bits) (f.bits,f.bits) (by unfold spanF;simp [k]) (by unfold spanF;simp [h1,h2,k]) (R2.refl s _)
 · have a:=hv.num k
   have b:=hv'.num (by rw [h1];exact k)
   rw [h4] at b
   refine sim (((groupsP f.low.toNat:Nat):Int)*8,if f.loose then 40 else ((groupsP f.high.toNat:Nat):Int)*8) (((groupsP f.low.toNat:Nat):Int)*8,if f.loose then 40 else ((groupsP f'.high.toNat:Nat):Int)*8) (by unfold spanF;simp [k]) (by unfold spanF;simp [h1,h3,h4,k]) ⟨rel.refl s _,?_⟩
   have:=groupsP_mono f.high.toNat f.high.toNat f'.high.toNat (Nat.le_refl _) (by omega)
   cases f.loose
   · simp only [Bool.false_eq_true,if_false];omega
   · exact Int.le_refl _
 · exact iv (.inl k)
 · exact sim (8,8*(f.high+1)) (8,8*(f'.high+1)) (by unfold spanF;simp [k]) (by unfold spanF;simp [h1,k]) ⟨rel.refl s _,by dsimp only;omega⟩
 · exact sim (16,8*f.high) (16,8*f'.high) (by unfold spanF;simp [k]) (by unfold spanF;simp [h1,k]) ⟨rel.refl s _,by dsimp only;omega⟩
 · obtain ⟨a,b⟩:=h9 (by omega)
   have v:=hv.iv (by omega)
   have v':=hv'.iv (by rw [h1];omega)
   obtain ⟨c,d⟩:=h f.of
   have e:=hb.look f.of
   have e':=hb'.look f.of
   refine sim (capF (ivL l f*(lookS sp f.of).1),capF (ivH l f*(lookS sp f.of).2)) (capF (ivL l' f'*(lookS sp' f.of).1),capF (ivH l' f'*(lookS sp' f.of).2)) (by unfold spanF;simp [k]) (by unfold spanF;simp [h1,h5,k]) ⟨?_,capF_mono (Int.mul_le_mul b d e.2.1 (by omega))⟩
   cases s
   · exact capF_mono (Int.mul_le_mul a c e'.1.1 (by omega))
   · exact capF_mono (Int.mul_le_mul a c e.1.1 (by omega))
 · exact sim (lookS sp f.of) (lookS sp' f.of) (by unfold spanF;simp [k]) (by unfold spanF;simp [h1,h5,k]) (h _)
 · exact sim (choiceS sp f.cases) (choiceS sp' f.cases) (by unfold spanF;simp [k]) (by unfold spanF;simp [h1,h6,k]) (choice_rel h _)
 · exact sim (0,f.bits - 1) (0,f.bits - 1) (by unfold spanF;simp [k]) (by unfold spanF;simp [h1,h2,k]) (R2.refl s _)
 · exact sim (if f.check=3 then (32,32) else (16,16)) (if f.check=3 then (32,32) else (16,16)) (by unfold spanF;simp [k]) (by unfold spanF;simp [h1,h7,k]) (R2.refl s _)
 · exact iv (.inr k)
theorem posS_rel {s:Bool} {sp sp':List (ByteArray×Int×Int)} {deps deps':List (ByteArray×Int)} {l l':List FieldD} (h:∀ n,R2 s (lookS sp n) (lookS sp' n)) (hb:BSp sp) (hb':BSp sp') (ok:OkM sp l) (ok':OkM sp' l') (hv:∀ f∈l,OkV deps l f) (hv':∀ f∈l',OkV deps' l' f) (hl:l.length≤l'.length)
 (hr:∀ (j:Nat) (f f':FieldD),l[j]?=some f→l'[j]?=some f'→FRel s l l' f f'):∀ n,n≤l.length→R2 s (posS sp l n) (posS sp' l' n)
 | 0,_=>R2.refl s _
 | n+1,hn=>by
  obtain ⟨f,hf⟩:=getElem?_lt (l:=l) (k:=n) (by omega)
  obtain ⟨f',hf'⟩:=getElem?_lt (l:=l') (k:=n) (by omega)
  have ih:=posS_rel h hb hb' ok ok' hv hv' hl hr n (by omega)
  have i1:=posS_in ok n
  have i2:=posS_in ok' n
  have hfm:=List.mem_of_getElem? hf
  have hfm':=List.mem_of_getElem? hf'
  have hfr:=hr n f f' hf hf'
  have hs:=spanF_rel h hfr hb hb' (hv f hfm) (hv' f' hfm')
  rw [posS_step hf,posS_step hf']
  unfold stepQ
  rw [hfr.kind,hfr.bits]
  by_cases k:f.kind=10
  · rw [if_pos k,if_pos k]
    have hp:=ok.pad f hfm k
    refine ⟨?_,capF_mono (upI_mono hp.1 i1.2.1 ih.2)⟩
    cases s
    · exact capF_mono (upI_mono hp.1 i2.1.1 ih.1)
    · exact capF_mono (upI_mono hp.1 i1.1.1 ih.1)
  · rw [if_neg k,if_neg k]
    refine ⟨?_,capF_mono (Int.add_le_add ih.2 hs.2)⟩
    cases s
    · exact capF_mono (Int.add_le_add ih.1 hs.1)
    · exact capF_mono (Int.add_le_add ih.1 hs.1)
structure GRel (s:Bool) (g g':FieldD):Prop where
 name:g'.name=g.name
 kind:g'.kind=g.kind
 low:g'.low=g.low
 high:highOf g≤highOf g'
 same:s=true→highOf g'=highOf g
theorem numR_some {l:List FieldD} (hd:Dist l) {g:FieldD} (hg:g∈l) (hn:numberB g=true):lastR (numR l) g.name=some (g.low,highOf g):=by
 cases h:lastR (numR l) g.name with
 | none=>exact absurd (mem_numR.2 ⟨g,hg,hn,rfl,rfl⟩) (lastR_none.1 h _)
 | some q =>
  obtain ⟨x,hx,_,hs,rfl⟩:=mem_numR.1 (lastR_mem h)
  rw [hd.eq hx hg hs]
theorem rng_rel {s:Bool} {l l':List FieldD} (hd:Dist l) (hd':Dist l') (hg:∀ g∈l,∃ g'∈l',GRel s g g') {t:TermD} (h:(lastR (numR l) t.field).isSome=true) :
 (lastR (numR l') t.field).isSome=true∧(rngT (numR l') t).1=(rngT (numR l) t).1∧(rngT (numR l) t).2≤(rngT (numR l') t).2∧(s=true→(rngT (numR l') t).2=(rngT (numR l) t).2):=by
 cases h1:lastR (numR l) t.field with
 | none=>rw [h1] at h;cases h
 | some q =>
  obtain ⟨g,hgl,hn,hs,rfl⟩:=mem_numR.1 (lastR_mem h1)
  obtain ⟨g',hgl',r⟩:=hg g hgl
  have h2:=numR_some hd' hgl' (by unfold numberB at hn ⊢;rw [r.kind];exact hn)
  rw [r.name,hs] at h2
  unfold rngT
  rw [h1,h2]
  exact ⟨rfl,r.low,r.high,r.same⟩
theorem sumT_le {f g:TermD→Int}:∀ (ts:List TermD),(∀ t∈ts,t.factor*f t≤t.factor*g t)→sumT f ts≤sumT g ts
 | [],_=>Int.le_refl _
 | t::ts,h=>by
  have h1:=h t (List.mem_cons_self ..)
  have h2:=sumT_le ts fun x hx=>h x (List.mem_cons_of_mem _ hx)
  simp only [sumT]
  omega
structure OkZ (l:List FieldD) (f:FieldD):Prop where
 size:sizeB f.base f.terms=true
 some:∀ t∈f.terms,(lastR (numR l) t.field).isSome=true
 wide:∀ t∈f.terms,wideB (rngT (numR l) t).1 (rngT (numR l) t).2=true
theorem OkZ.val {l:List FieldD} {f:FieldD} (h:OkZ l f):ivL l f=f.base+sumT (endF (numR l) true) f.terms∧ivH l f=f.base+sumT (endF (numR l) false) f.terms:=by
 obtain ⟨_,he⟩:=iv_fine h.size h.some h.wide
 unfold ivOf at he
 injection he with he
 have he:=congrArg Array.toList he
 simp only [List.cons.injEq,Value.int.injEq,true_and,and_true] at he
 exact ⟨he.1,he.2.1⟩
theorem iv_rel {s:Bool} {l l':List FieldD} {f f':FieldD} (hz:OkZ l f) (hz':OkZ l' f') (hb:f'.base=f.base) (hts:f'.terms=f.terms)
 (hr:∀ t∈f.terms,(rngT (numR l') t).1=(rngT (numR l) t).1∧(rngT (numR l) t).2≤(rngT (numR l') t).2∧(s=true→(rngT (numR l') t).2=(rngT (numR l) t).2)):rel s (ivL l f) (ivL l' f')∧ivH l f≤ivH l' f':=by
 have hs':∀ t∈f.terms,(lastR (numR l') t.field).isSome=true:=by rw [← hts];exact hz'.some
 have key:∀ t∈f.terms,t.factor*endF (numR l') true t≤t.factor*endF (numR l) true t∧t.factor*endF (numR l) false t≤t.factor*endF (numR l') false t∧(s=true→endF (numR l') true t=endF (numR l) true t):=by
  intro t ht
  obtain ⟨r1,r2,r3⟩:=hr t ht
  rw [endF_rng (hs' t ht),endF_rng (hz.some t ht),endF_rng (hs' t ht),endF_rng (hz.some t ht),r1]
  by_cases hp:t.factor > 0
  · rw [decide_eq_true hp]
    refine ⟨Int.le_refl _,?_,fun _=>rfl⟩
    exact Int.mul_le_mul_of_nonneg_left r2 (by omega)
  · rw [decide_eq_false hp]
    refine ⟨?_,Int.le_refl _,fun h=>r3 h⟩
    exact Int.mul_le_mul_of_nonpos_left (by omega) r2
 rw [hz.val.1,hz.val.2,hz'.val.1,hz'.val.2,hb,hts]
 refine ⟨?_,Int.add_le_add_left (sumT_le _ fun t ht=>(key t ht).2.1) _⟩
 cases s
 · exact Int.add_le_add_left (sumT_le _ fun t ht=>(key t ht).1) _
 · rw [sumT_congr fun t ht=>(key t ht).2.2 rfl]
   exact rel.refl _ _
theorem okZ_of {bef l:List FieldD} {deps:List (ByteArray×Int)} {strs:List (ByteArray×Bool)} (hd:Dist l) (hb:∀ g∈bef,g∈l) {f:FieldD} (h:examineC bef (vI deps) (vB strs) f=0) (hk:f.kind=4∨f.kind=12∨f.kind=7):OkZ l f:=by
 obtain ⟨_,_,hc⟩:=exam_all h
 have hz:sizedC (numR bef) f=0:=by
  unfold checkC at hc
  rcases hk with k | k | k<;>simp only [k] at hc
  · exact hc
  · exact (orC_iff.1 (orC_iff.1 hc).2).2
  · exact (orC_iff.1 hc).2
 have hz0:=hz
 unfold sizedC at hz
 simp only [orC_iff,needC_iff (show (9:Int)≠0 by decide)] at hz
 obtain ⟨h1,h2,h3⟩:=hz
 have hin:=names_some h2
 unfold lenB at h3
 simp only [Bool.and_eq_true,beq_iff_eq,decide_eq_true_eq] at h3
 refine ⟨h1,(sized_iv hd hb hz0).2,fun t ht=>?_⟩
 have he:rngT (numR l) t=rngT (numR bef) t:=by unfold rngT;rw [num_more hd hb (hin t ht)]
 rw [he]
 cases hw:wideB (rngT (numR bef) t).1 (rngT (numR bef) t).2 with
 | true=>rfl
 | false =>
  have:=iv_wide h1 hin ht hw
  unfold ivOf at this
  rw [h3.1.1] at this
  injection this with this
  have:=congrArg Array.toList this
  simp at this
theorem Fine.okZ {l:List MsgD} (h:Fine l) {k:Nat} {m:MsgD} (hk:l[k]?=some m):Dist m.fields∧∀ f∈m.fields,f.kind=4∨f.kind=12∨f.kind=7→OkZ m.fields f:=by
 obtain ⟨_,_,h3,h4,_⟩:=next_parts (h.next hk)
 have hF:FineF (depsOf (l.take k)) (strsOf (l.take k)) m.fields:=fun j f hj=>by simpa using fields_all _ _ h4 j f hj
 refine ⟨hF.dist,fun f hf hkk=>?_⟩
 obtain ⟨j,hj⟩:=List.getElem?_of_mem hf
 exact okZ_of hF.dist (fun g hg=>List.mem_of_mem_take hg) (hF j f hj) hkk
theorem look_snoc (sp:List (ByteArray×Int×Int)) (n s:ByteArray) (q:Int×Int):lookS (sp++[(n,q)]) s=if n=s then q else lookS sp s:=by
 unfold lookS
 rw [lastR_snoc]
 split<;>rfl
theorem posS_up {sp:List (ByteArray×Int×Int)} {l:List FieldD} (ok:OkM sp l) {n:Nat} {f:FieldD} (hf:l[n]?=some f):R2 true (posS sp l n) (posS sp l (n+1)):=by
 have hin:=posS_in ok n
 have hm:=List.mem_of_getElem? hf
 have cap:∀ a b:Int,a≤1099511627776→a≤b→a≤capF b:=fun a b h1 h2=>by unfold capF;split<;>omega
 rw [posS_step hf]
 unfold stepQ
 by_cases k:f.kind=10
 · rw [if_pos k]
   have hp:=ok.pad f hm k
   obtain ⟨q,_,he,h1,_⟩:=upI_mul hin.1.1 hp.1
   obtain ⟨r,_,he',h2,_⟩:=upI_mul hin.2.1 hp.1
   exact ⟨cap _ _ hin.1.2 (by rw [he];exact h1),cap _ _ hin.2.2 (by rw [he'];exact h2)⟩
 · rw [if_neg k]
   have hs:=ok.span f hm k
   exact ⟨cap _ _ hin.1.2 (by omega),cap _ _ hin.2.2 (by omega)⟩
theorem posS_more {sp:List (ByteArray×Int×Int)} {l:List FieldD} (ok:OkM sp l) (n:Nat):∀ k,n+k≤l.length→R2 true (posS sp l n) (posS sp l (n+k))
 | 0,_=>R2.refl _ _
 | k+1,h=>by
  obtain ⟨f,hf⟩:=getElem?_lt (l:=l) (k:=n+k) (by omega)
  have h1:=posS_more ok n k (by omega)
  have h2:=posS_up ok hf
  exact ⟨Int.le_trans h1.1 h2.1,Int.le_trans h1.2 h2.2⟩
structure MRel (s:Bool) (m m':MsgD):Prop where
 name:m'.name=m.name
 len:m.fields.length≤m'.fields.length
 tail:s=true∨m'.fields.length=m.fields.length
 fields:∀ (j:Nat) (f f':FieldD),m.fields[j]?=some f→m'.fields[j]?=some f'→FRel s m.fields m'.fields f f'
theorem spans_rel {s:Bool} {l l':List MsgD} (hA:AllV l) (hA':AllV l') (ht:∀ m∈l,∀ f∈m.fields,f.terms.length≤1048576) (ht':∀ m∈l',∀ f∈m.fields,f.terms.length≤1048576) (hlen:l'.length=l.length)
 (hm:∀ (k:Nat) (m m':MsgD),l[k]?=some m→l'[k]?=some m'→MRel s m m'):∀ k,k≤l.length→∀ n,R2 s (lookS (spansD (l.take k)) n) (lookS (spansD (l'.take k)) n)
 | 0,_,n=>R2.refl s _
 | k+1,hk,n=>by
  obtain ⟨m,h1⟩:=getElem?_lt (l:=l) (k:=k) (by omega)
  obtain ⟨m',h2⟩:=getElem?_lt (l:=l') (k:=k) (by omega)
  have ih:=spans_rel hA hA' ht ht' hlen hm k (by omega)
  obtain ⟨r1,r2,r3,r4⟩:=hm k m m' h1 h2
  have hb:=spans_in hA ht k (by omega)
  have hb':=spans_in hA' ht' k (by omega)
  have ok:=okM_of (hA k m h1).1 (ht m (List.mem_of_getElem? h1)) hb
  have ok':=okM_of (hA' k m' h2).1 (ht' m' (List.mem_of_getElem? h2)) hb'
  rw [spansD_step h1,spansD_step h2,stepM,stepM,look_snoc,look_snoc,r1]
  split
  · have hp:=posS_rel ih hb hb' ok ok' (hA k m h1).1 (hA' k m' h2).1 r2 r4 m.fields.length (Nat.le_refl _)
    rcases r3 with rfl | r3
    · have hq:=posS_more ok' m.fields.length (m'.fields.length - m.fields.length) (by omega)
      rw [show m.fields.length+(m'.fields.length - m.fields.length)=m'.fields.length by omega] at hq
      exact ⟨Int.le_trans hp.1 hq.1,Int.le_trans hp.2 hq.2⟩
    · rw [r3];exact hp
  · exact ih n
theorem choice_ord {sp:List (ByteArray×Int×Int)} (h:∀ n,(lookS sp n).1≤(lookS sp n).2) (l:List CaseD):(choiceS sp l).1≤(choiceS sp l).2:=by
 have key:∀ (l:List CaseD) (o:Int×Int),o.1≤o.2→(l.foldl (stepC sp) o).1≤(l.foldl (stepC sp) o).2:=by
  intro l
  induction l with
  | nil=>exact fun _ h=>h
  | cons c l ih =>
   intro o ho
   refine ih _ ?_
   have:=h c.of
   unfold stepC minI maxI
   dsimp only
   split<;>split<;>omega
 cases l with
 | nil=>exact Int.le_refl _
 | cons c l=>exact key _ _ (h c.of)
theorem spanF_ord {sp:List (ByteArray×Int×Int)} {deps:List (ByteArray×Int)} {l:List FieldD} {f:FieldD} (h:∀ n,(lookS sp n).1≤(lookS sp n).2) (hb:BSp sp) (hv:OkV deps l f) (h10:f.kind≠10):(spanF sp l f).1≤(spanF sp l f).2:=by
 have hk:=hv.kind
 have sim:∀ (x:Int×Int),spanF sp l f=x→x.1≤x.2→(spanF sp l f).1≤(spanF sp l f).2:=fun x a c=>by rw [a];exact c
 have hk':f.kind=1∨f.kind=2∨f.kind=3∨f.kind=4∨f.kind=5∨f.kind=6∨f.kind=7∨f.kind=8∨f.kind=9∨f.kind=11∨f.kind=12:=by omega
 rcases hk' with k | k | k | k | k | k | k | k | k | k | k
 · exact sim (f.bits,f.bits) (by unfold spanF;simp [k]) (Int.le_refl _)
 · exact sim (f.bits,f.bits) (by unfold spanF;simp [k]) (Int.le_refl _)
 · have a:=hv.num k
   refine sim (((groupsP f.low.toNat:Nat):Int)*8,if f.loose then 40 else ((groupsP f.high.toNat:Nat):Int)*8) (by unfold spanF;simp [k]) ?_
   have h1:=groupsP_mono f.low.toNat f.low.toNat f.high.toNat (Nat.le_refl _) (by omega)
   have h2:=groupsP_le 5 f.low.toNat (by omega) (by decide)
   cases f.loose
   · simp only [Bool.false_eq_true,if_false];omega
   · simp only [if_true];omega
 · have a:=hv.iv (by omega)
   exact sim (capF (ivL l f*8),capF (ivH l f*8)) (by unfold spanF;simp [k]) (capF_mono (by omega))
 · have a:=hv.high5 k
   exact sim (8,8*(f.high+1)) (by unfold spanF;simp [k]) (by dsimp only;omega)
 · have a:=hv.high6 k
   exact sim (16,8*f.high) (by unfold spanF;simp [k]) (by dsimp only;omega)
 · have a:=hv.iv (by omega)
   have e:=hb.look f.of
   exact sim (capF (ivL l f*(lookS sp f.of).1),capF (ivH l f*(lookS sp f.of).2)) (by unfold spanF;simp [k]) (capF_mono (Int.mul_le_mul a.2.1 (h _) e.1.1 (by omega)))
 · exact sim (lookS sp f.of) (by unfold spanF;simp [k]) (h _)
 · exact sim (choiceS sp f.cases) (by unfold spanF;simp [k]) (choice_ord h _)
 · exact sim (if f.check=3 then (32,32) else (16,16)) (by unfold spanF;simp [k]) (by split<;>exact Int.le_refl _)
 · have a:=hv.iv (by omega)
   exact sim (capF (ivL l f*8),capF (ivH l f*8)) (by unfold spanF;simp [k]) (capF_mono (by omega))
theorem posS_ord {sp:List (ByteArray×Int×Int)} {deps:List (ByteArray×Int)} {l:List FieldD} (h:∀ n,(lookS sp n).1≤(lookS sp n).2) (hb:BSp sp) (ok:OkM sp l) (hv:∀ f∈l,OkV deps l f):∀ n,n≤l.length→(posS sp l n).1≤(posS sp l n).2
 | 0,_=>Int.le_refl _
 | n+1,hn=>by
  obtain ⟨f,hf⟩:=getElem?_lt (l:=l) (k:=n) (by omega)
  have ih:=posS_ord h hb ok hv n (by omega)
  have hm:=List.mem_of_getElem? hf
  have hin:=posS_in ok n
  rw [posS_step hf]
  unfold stepQ
  by_cases k:f.kind=10
  · rw [if_pos k];exact capF_mono (upI_mono (ok.pad f hm k).1 hin.1.1 ih)
  · rw [if_neg k];exact capF_mono (Int.add_le_add ih (spanF_ord h hb (hv f hm) k))
theorem spans_ord {l:List MsgD} (hA:AllV l) (ht:∀ m∈l,∀ f∈m.fields,f.terms.length≤1048576):∀ k,k≤l.length→∀ n,(lookS (spansD (l.take k)) n).1≤(lookS (spansD (l.take k)) n).2
 | 0,_,n=>Int.le_refl _
 | k+1,hk,n=>by
  obtain ⟨m,h1⟩:=getElem?_lt (l:=l) (k:=k) (by omega)
  have ih:=spans_ord hA ht k (by omega)
  have hb:=spans_in hA ht k (by omega)
  rw [spansD_step h1,stepM,look_snoc]
  split
  · exact posS_ord ih hb (okM_of (hA k m h1).1 (ht m (List.mem_of_getElem? h1)) hb) (hA k m h1).1 _ (Nat.le_refl _)
  · exact ih n
theorem FRel.refl (s:Bool) (l:List FieldD) (f:FieldD):FRel s l l f f:=⟨rfl,rfl,rfl,rfl,rfl,rfl,rfl,Int.le_refl _,fun _=>⟨rel.refl _ _,Int.le_refl _⟩⟩
theorem MRel.refl (s:Bool) (m:MsgD):MRel s m m:=⟨rfl,Nat.le_refl _,.inr rfl,fun j f f' h h'=>by rw [h] at h';injection h' with h';subst h';exact FRel.refl s _ _⟩
theorem set_rel {s:Bool} {l:List MsgD} {k:Nat} {m m1:MsgD} (hk:l[k]?=some m) (hr:MRel s m m1):∀ (i:Nat) (a b:MsgD),l[i]?=some a→(l.set k m1)[i]?=some b→MRel s a b:=by
 intro i a b ha hb
 by_cases h:k=i
 · subst h
   rw [hk] at ha
   injection ha with ha
   subst ha
   rw [List.getElem?_set_self (List.getElem?_eq_some_iff.1 hk).1] at hb
   injection hb with hb
   subst hb
   exact hr
 · rw [List.getElem?_set_ne h,ha] at hb
   injection hb with hb
   subst hb
   exact MRel.refl s a
theorem GRel.refl (s:Bool) (g:FieldD):GRel s g g:=⟨rfl,rfl,rfl,Int.le_refl _,fun _=>rfl⟩
theorem more_rel {m:MsgD} {z:FieldD} (hd:Dist m.fields) (hz:∀ f∈m.fields,f.kind=4∨f.kind=12∨f.kind=7→OkZ m.fields f) (hd':Dist (m.fields++[z])) (hz':∀ f∈m.fields++[z],f.kind=4∨f.kind=12∨f.kind=7→OkZ (m.fields++[z]) f):MRel true m ⟨m.name,m.fields++[z]⟩:=by
 refine ⟨rfl,by simp,.inl rfl,fun j f f' hf hf'=>?_⟩
 have hj:=(List.getElem?_eq_some_iff.1 hf).1
 rw [List.getElem?_append_left hj,hf] at hf'
 injection hf' with hf'
 subst hf'
 have hm:=List.mem_of_getElem? hf
 refine ⟨rfl,rfl,rfl,rfl,rfl,rfl,rfl,Int.le_refl _,fun k=>?_⟩
 have hm':f∈m.fields++[z]:=List.mem_append_left _ hm
 exact iv_rel (hz f hm k) (hz' f hm' k) rfl rfl fun t ht=>(rng_rel hd hd' (fun g hg=>⟨g,List.mem_append_left _ hg,GRel.refl true g⟩) ((hz f hm k).some t ht)).2
theorem wide_rel {m:MsgD} {j:Nat} {f f1:FieldD} (hf:m.fields[j]?=some f) (h1:f1={ f with high:=f.high+1 }) (hk:f.kind=1∨f.kind=3∨f.kind=5∨f.kind=6) (hd:Dist m.fields) (hz:∀ f∈m.fields,f.kind=4∨f.kind=12∨f.kind=7→OkZ m.fields f) (hd':Dist (m.fields.set j f1)) (hz':∀ f∈m.fields.set j f1,f.kind=4∨f.kind=12∨f.kind=7→OkZ (m.fields.set j f1) f):MRel false m ⟨m.name,m.fields.set j f1⟩:=by
 have hg:∀ g∈m.fields,∃ g'∈m.fields.set j f1,GRel false g g':=by
  intro g hg
  obtain ⟨i,hi⟩:=List.getElem?_of_mem hg
  by_cases h:j=i
  · subst h
    rw [hf] at hi
    injection hi with hi
    subst hi
    refine ⟨f1,List.mem_of_getElem? (i:=j) (List.getElem?_set_self (List.getElem?_eq_some_iff.1 hf).1),?_⟩
    subst h1
    exact ⟨rfl,rfl,rfl,by unfold highOf;dsimp only;split<;>omega,fun h=>by cases h⟩
  · exact ⟨g,List.mem_of_getElem? (i:=i) (by rw [List.getElem?_set_ne h];exact hi),GRel.refl false g⟩
 refine ⟨rfl,by simp,.inr (by simp),fun i a b ha hb=>?_⟩
 by_cases h:j=i
 · subst h
   rw [hf] at ha
   injection ha with ha
   subst ha
   rw [List.getElem?_set_self (List.getElem?_eq_some_iff.1 hf).1] at hb
   injection hb with hb
   subst hb
   subst h1
   exact ⟨rfl,rfl,rfl,rfl,rfl,rfl,rfl,by dsimp only;omega,fun k=>by omega⟩
 · have hb0:=hb
   rw [List.getElem?_set_ne h,ha] at hb
   injection hb with hb
   subst hb
   have hm:=List.mem_of_getElem? ha
   have hm':=List.mem_of_getElem? hb0
   exact ⟨rfl,rfl,rfl,rfl,rfl,rfl,rfl,Int.le_refl _,fun k=>iv_rel (hz a hm k) (hz' a hm' k) rfl rfl fun t ht=>(rng_rel hd hd' hg ((hz a hm k).some t ht)).2⟩
theorem span_ends {d:DefD} (hc:(checkP d).2.2=0) (ht:calm d) {i:Nat} {a:MsgD} (ha:d.msgs[i]?=some a):0≤(msgV d i).1∧(msgV d i).1≤(msgV d i).2∧(msgV d i).2≤1099511627776:=by
 have hf:=(check_fine hc).2.2.1
 have hterms:∀ m∈d.msgs,∀ f∈m.fields,f.terms.length≤1048576:=fun m hm=>(ht m hm).2
 have h1:=(spans_full hf.allV hterms).look a.name
 have h2:=spans_ord hf.allV hterms d.msgs.length (Nat.le_refl _) a.name
 rw [List.take_length] at h2
 unfold msgV
 rw [Int.toNat_natCast,ha]
 exact ⟨h1.1.1,h2,h1.2.2⟩
theorem spans_grow {s:Bool} {d d':DefD} (hc:(checkP d).2.2=0) (ht:calm d) (hc':(checkP d').2.2=0) (ht':calm d') {k:Nat} {m m1:MsgD} (hk:d.msgs[k]?=some m) (he:d'.msgs=d.msgs.set k m1) (hr:MRel s m m1) {i:Nat} {a:MsgD} (ha:d.msgs[i]?=some a):R2 s (msgV d i) (msgV d' i):=by
 have hf:=(check_fine hc).2.2.1
 have hf':=(check_fine hc').2.2.1
 have hs:=set_rel hk hr
 rw [← he] at hs
 have hlen:d'.msgs.length=d.msgs.length:=by rw [he,List.length_set]
 have h:=spans_rel hf.allV hf'.allV (fun m hm=>(ht m hm).2) (fun m hm=>(ht' m hm).2) hlen hs d.msgs.length (Nat.le_refl _) a.name
 rw [List.take_length,← hlen,List.take_length] at h
 obtain ⟨b,hb⟩:=getElem?_lt (l:=d'.msgs) (k:=i) (by rw [hlen];exact (List.getElem?_eq_some_iff.1 ha).1)
 unfold msgV
 rw [Int.toNat_natCast,ha,hb]
 dsimp only
 rw [(hs i a b ha hb).name]
 exact h
def addM (d:DefD) (n:ByteArray) (x:FieldD):DefD:=⟨d.name,d.msgs++[⟨n,[x]⟩],d.start⟩
theorem span_alone {d:DefD} {n:ByteArray} {x:FieldD} {k:Nat} {m:MsgD} (hk:d.msgs[k]?=some m) (hx8:x.kind=8) (hxo:x.of=m.name) (hc:(checkP (addM d n x)).2.2=0) (ht:calm (addM d n x)):msgV (addM d n x) k=msgV (addM d n x) d.msgs.length:=by
 have hf:=(check_fine hc).2.2.1
 have hterms:∀ m∈(addM d n x).msgs,∀ f∈m.fields,f.terms.length≤1048576:=fun m hm=>(ht m hm).2
 have hkl:=(List.getElem?_eq_some_iff.1 hk).1
 have hk':(addM d n x).msgs[k]?=some m:=(List.getElem?_append_left hkl).trans hk
 have hn':(addM d n x).msgs[d.msgs.length]?=some ⟨n,[x]⟩:=by
  show (d.msgs++[(⟨n,[x]⟩:MsgD)])[d.msgs.length]?=_
  rw [List.getElem?_append_right (Nat.le_refl _),Nat.sub_self];rfl
 have t1:(addM d n x).msgs.take d.msgs.length=d.msgs:=by unfold addM;simp
 have t2:(addM d n x).msgs.take k=d.msgs.take k:=List.take_append_of_le_length (Nat.le_of_lt hkl)
 have e1:=hf.msgV hk'
 have e2:=hf.msgV hn'
 have hN:DistM d.msgs:=by have:=dist_take hf.dist d.msgs.length;rwa [t1] at this
 have hb:=spans_in hf.allV hterms d.msgs.length (by unfold addM;simp)
 rw [t1] at hb e2
 rw [t2] at e1
 have hl:lookS (spansD d.msgs) m.name=posS (spansD (d.msgs.take k)) m.fields m.fields.length:=look_at hN (span_at hk)
 have hin:=hb.look m.name
 have hs:spanF (spansD d.msgs) [x] x=lookS (spansD d.msgs) m.name:=by rw [← hxo];unfold spanF;simp [hx8]
 have hp:posS (spansD d.msgs) [x] (0+1)=stepQ (spansD d.msgs) [x] (posS (spansD d.msgs) [x] 0) x:=posS_step (List.getElem?_cons_zero ..)
 have h00:posS (spansD d.msgs) [x] 0=(0,0):=by unfold posS;rw [List.take_zero,List.foldl_nil]
 have hq:stepQ (spansD d.msgs) [x] (0,0) x=lookS (spansD d.msgs) m.name:=by
  unfold stepQ
  rw [if_neg (by rw [hx8];decide),hs,Int.zero_add,Int.zero_add,capF_low hin.1.2,capF_low hin.2.2]
 simp only [List.length_singleton] at e2
 rw [show (1:Nat)=0+1 from rfl] at e2
 rw [e1,e2,hp,h00,hq,hl]
end Go.Proofs.YtdfhjlggcdemhaaGreat
namespace Go.Sw
open Go.RowKit (Below)
section
variable {P:Program} {N:Nat} {ro:Option Nat} {ρ:Env} {w:World}
theorem sim_dloud4 (i i2 i3 i4:Nat) {ops:Array Oper} {Q:Env→List Deferred→World→Prop} {QP:KP} {C:World→Prop} {fuel:Nat} {done:List Nat} {o o2 o3 o4:Oper} {ds:List Deferred} (hi:ops[i]?=some o) (hi2:ops[i2]?=some o2) (hi3:ops[i3]?=some o3) (hi4:ops[i4]?=some o4) (hr:readyL ops done=[i,i2,i3,i4]) (hg:∀ p q,guardO ops o ρ p q=p) (hg2:∀ p q,guardO ops o2 ρ p q=p) (hg3:∀ p q,guardO ops o3 ρ p q=p) (hg4:∀ p q,guardO ops o4 ρ p q=p)
 (h:denSeq P N ro QP (fun ρ ds w=>∃ C':World→Prop,(∀ x,C' x→C x)∧C' w∧denD P N ro ops Q QP C' fuel (i::done) ρ ds w) [o] ρ ds w)
 (h2:denSeq P N ro QP (fun ρ ds w=>∃ C':World→Prop,(∀ x,C' x→C x)∧C' w∧denD P N ro ops Q QP C' fuel (i2::done) ρ ds w) [o2] ρ ds w)
 (h3:denSeq P N ro QP (fun ρ ds w=>∃ C':World→Prop,(∀ x,C' x→C x)∧C' w∧denD P N ro ops Q QP C' fuel (i3::done) ρ ds w) [o3] ρ ds w)
 (h4:denSeq P N ro QP (fun ρ ds w=>∃ C':World→Prop,(∀ x,C' x→C x)∧C' w∧denD P N ro ops Q QP C' fuel (i4::done) ρ ds w) [o4] ρ ds w):denD P N ro ops Q QP C (fuel+1) done ρ ds w:=by
 intro hcl
 refine ⟨fun h0=>(by rw [hr] at h0;cases h0),fun j hj=>?_⟩
 rw [hr] at hj
 simp only [List.mem_cons,List.not_mem_nil,or_false] at hj
 rcases hj with rfl | rfl | rfl | rfl
 · unfold denOp;rw [hi];simp only;rw [hg];exact denSeq_imp (T':=NX P N ro ops Q QP C fuel done _) h fun ρ ds w ⟨C',k0,k1,k2⟩ => .inr ⟨C',.inr k0,k1,k2 (hcl.step (mem_one hr (by simp)))⟩
 · unfold denOp;rw [hi2];simp only;rw [hg2];exact denSeq_imp (T':=NX P N ro ops Q QP C fuel done _) h2 fun ρ ds w ⟨C',k0,k1,k2⟩ => .inr ⟨C',.inr k0,k1,k2 (hcl.step (mem_one hr (by simp)))⟩
 · unfold denOp;rw [hi3];simp only;rw [hg3];exact denSeq_imp (T':=NX P N ro ops Q QP C fuel done _) h3 fun ρ ds w ⟨C',k0,k1,k2⟩ => .inr ⟨C',.inr k0,k1,k2 (hcl.step (mem_one hr (by simp)))⟩
 · unfold denOp;rw [hi4];simp only;rw [hg4];exact denSeq_imp (T':=NX P N ro ops Q QP C fuel done _) h4 fun ρ ds w ⟨C',k0,k1,k2⟩ => .inr ⟨C',.inr k0,k1,k2 (hcl.step (mem_one hr (by simp)))⟩
end
end Go.Sw
