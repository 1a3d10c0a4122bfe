/-
  phrasebooklaw08.SpanAdds returns true for every definition, and leaves its arguments as they were; no condition is asked.
-/
import Derived.Test.YtdfhjlggcdemhaaGreatSa4
set_option linter.all false
set_option maxHeartbeats 4000000
set_option maxRecDepth 100000
namespace Go.Proofs.YtdfhjlggcdemhaaGreat
open Sw
open Go.RowKit (intOf Below)
def spanF (sp:List (ByteArray×Int×Int)) (l:List FieldD) (f:FieldD):Int×Int :=
 if f.kind=1∨f.kind=2 then (f.bits,f.bits) else
 if f.kind=3 then ((groupsP f.low.toNat:Nat)*8,if f.loose then 40 else (groupsP f.high.toNat:Nat)*8) else
 if f.kind=4∨f.kind=12 then (capF (ivL l f*8),capF (ivH l f*8)) else
 if f.kind=5 then (8,8*(f.high+1)) else
 if f.kind=6 then (16,8*f.high) else
 if f.kind=7 then (capF (ivL l f*(lookS sp f.of).1),capF (ivH l f*(lookS sp f.of).2)) else
 if f.kind=8 then lookS sp f.of else
 if f.kind=9 then choiceS sp f.cases else
 if f.kind=10 then (0,f.bits - 1) else if f.check=3 then (32,32) else (16,16)
structure OkS (sp:List (ByteArray×Int×Int)) (l:List FieldD) (f:FieldD):Prop where
 kind:1≤f.kind∧f.kind≤12
 num:f.kind=3→(0≤f.low∧f.low < 9223372036854775808)∧0≤f.high∧f.high < 9223372036854775808
 iv:f.kind=4∨f.kind=12∨f.kind=7→(0≤ivL l f∧ivL l f≤2097152)∧0≤ivH l f∧ivH l f≤2097152
 high:f.kind=5∨f.kind=6→0≤f.high∧f.high≤1048576
 of:f.kind=7→(0≤(lookS sp f.of).1∧(lookS sp f.of).1≤1099511627776)∧0≤(lookS sp f.of).2∧(lookS sp f.of).2≤1099511627776
 cases:f.kind=9→f.cases≠[]
 bits:f.kind=10→0≤f.bits∧f.bits≤1048576
 terms:f.terms.length≤1048576
theorem kindm_step {w0 w:World} {m c:Nat} {L:List (Int×Value×Nat)} {QP:List PanicEntry→World→Prop} {ku:World→Prop} (hM:MapB w m kindEnc L c) (e:Ext w0 w) (hm:w0.heap.size≤m) (k:Int) (v:Value)
 (h:∀ w' L' c',MapB w' m kindEnc L' c'→(∀ k',Sw.look L' k'=if k'=k then some v else Sw.look L k')→Ext w0 w'→ku w'):opU Pg (Instr.mapUpdate 142 (.map (some m)) (.int .i64 k) v) QP w ku:=by
 rw [op_mapUpdate Tryz.underlying142 (KeyOK.int Tryz.underlying32) hM k v]
 exact h _ _ _ (hM.put k v) (fun k'=>look_put _ _ _ _ _) (e.putObj hm _)
theorem of_ret (w0:World) (m:MsgD) (fl tv cv:Value) (mr:Nat) (f:FieldD) (sp:List (ByteArray×Int×Int)) (hM:MapOf w0 mr (RP sp)) (hF:FieldsOf w0 fl m.fields) (hT:TermsOf w0 tv f.terms) (hC:CasesOf w0 cv f.cases) (ok:OkS sp m.fields f):Ret Pg 67 #[.agg (planCells m fl mr).toArray,.agg (fieldCells f tv cv).toArray] w0 fun r w'=>r=rangeVal (spanF sp m.fields f).1 (spanF sp m.fields f).2∧Ext w0 w':=by
 have ht1:=SliceOf.oneCell hT
 have hc1:=SliceOf.oneCell hC
 have hf1:=SliceOf.oneCell hF
 refine n112s (R:=retR _) ?_;unfold n112
 rw [op_boxA,op_boxA,op_alloc ty67]
 show opV _ _ _ (((w0.alloc (.cells (planCells m fl mr).toArray 105)).alloc (.cells (fieldCells f tv cv).toArray 38)).alloc (.cells #[.int .i64 0,.int .i64 0] 67)) _
 simp only [World.size_alloc]
 generalize hW:(((w0.alloc (.cells (planCells m fl mr).toArray 105)).alloc (.cells (fieldCells f tv cv).toArray 38)).alloc (.cells #[.int .i64 0,.int .i64 0] 67))=W
 have e0:Ext w0 W:=by rw [← hW];exact ee
 have o2:W.heap[w0.heap.size]?=some (.cells (planCells m fl mr).toArray 105 (0,0)):=by rw [← hW];simp (disch:=try exact DI) only [↓PR,QR,simprocAttr]
 have o3:W.heap[w0.heap.size+1]?=some (.cells (fieldCells f tv cv).toArray 38 (0,0)):=by rw [← hW];simp (disch:=try exact DI) only [↓PR,QR,simprocAttr]
 have o4:W.heap[w0.heap.size+1+1]?=some (.cells #[.int .i64 0,.int .i64 0] 67 (0,0)):=by rw [← hW];simp (disch:=try exact DI) only [↓PR,QR,simprocAttr]
 clear hW
 generalize hp4:w0.heap.size+1+1=p4 at o4 ⊢
 generalize hp3:w0.heap.size+1=p3 at o3 hp4 ⊢
 generalize hp2:w0.heap.size=p2 at o2 ⊢
 simp (disch:=try exact DI) only [↓PR,QR,simprocAttr]
 have eM0:Ext W (W.alloc (.map #[] 0)):=ee
 have hM0:MapB (W.alloc (.map #[] 0)) W.heap.size kindEnc [] 0:=MapB.new W _
 have cv_fin:∀ (w:World) (g:FuncId) (first caps:Array Value),Ext W w→Callable Pg g→(Ret Pg g (first ++ #[.agg (fieldCells f tv cv).toArray]++caps) w fun r w'=>r=rangeVal (spanF sp m.fields f).1 (spanF sp m.fields f).2∧Ext w w') →
  callV Pg (.func (.func g) first caps) #[.agg (fieldCells f tv cv).toArray] (panK (retR fun r w'=>r=rangeVal (spanF sp m.fields f).1 (spanF sp m.fields f).2∧Ext w0 w')) w fun t27 w=>opU Pg (Instr.storeAt 67 (.pointer (some ⟨p4,0,none⟩)) t27) (panK (retR fun r w'=>r=rangeVal (spanF sp m.fields f).1 (spanF sp m.fields f).2∧Ext w0 w')) w fun w=>qW Pg 67 (.pointer (some ⟨p4,0,none⟩)) w fun r0=>retR (fun r w'=>r=rangeVal (spanF sp m.fields f).1 (spanF sp m.fields f).2∧Ext w0 w') (.returned r0) w:=by
  intro w g first caps e hg hr
  rw [callV_func hg]
  refine callK_ret hr ?_
  rintro _ w1 ⟨rfl,e1⟩
  have x4:=e1.obj (e.obj o4)
  have E1:=e0.trans (e.trans e1)
  have l4:=(Array.getElem?_eq_some_iff.1 x4).1
  simp (disch:=try exact DI) only [↓PR,QR,simprocAttr,(cells_of_heap x4).1,(cells_of_heap x4).2]
  exact ⟨by first | trivial | rfl,ee⟩
 refine kindm_step hM0 eM0 (Nat.le_refl _) 1 _ (fun w1 L1 c1 hM1 hl1 eM1=>?_)
 try simp (disch:=try exact DI) only [↓PR,QR,simprocAttr,(cells_of_heap (eM1.obj o2)).1]
 refine kindm_step hM1 eM1 (Nat.le_refl _) 2 _ (fun w2 L2 c2 hM2 hl2 eM2=>?_)
 try simp (disch:=try exact DI) only [↓PR,QR,simprocAttr,(cells_of_heap (eM2.obj o2)).1]
 refine kindm_step hM2 eM2 (Nat.le_refl _) 3 _ (fun w3 L3 c3 hM3 hl3 eM3=>?_)
 try simp (disch:=try exact DI) only [↓PR,QR,simprocAttr,(cells_of_heap (eM3.obj o2)).1]
 refine kindm_step hM3 eM3 (Nat.le_refl _) 4 _ (fun w4 L4 c4 hM4 hl4 eM4=>?_)
 try simp (disch:=try exact DI) only [↓PR,QR,simprocAttr,(cells_of_heap (eM4.obj o2)).1]
 refine kindm_step hM4 eM4 (Nat.le_refl _) 5 _ (fun w5 L5 c5 hM5 hl5 eM5=>?_)
 try simp (disch:=try exact DI) only [↓PR,QR,simprocAttr,(cells_of_heap (eM5.obj o2)).1]
 refine kindm_step hM5 eM5 (Nat.le_refl _) 6 _ (fun w6 L6 c6 hM6 hl6 eM6=>?_)
 try simp (disch:=try exact DI) only [↓PR,QR,simprocAttr,(cells_of_heap (eM6.obj o2)).1]
 refine kindm_step hM6 eM6 (Nat.le_refl _) 7 _ (fun w7 L7 c7 hM7 hl7 eM7=>?_)
 try simp (disch:=try exact DI) only [↓PR,QR,simprocAttr,(cells_of_heap (eM7.obj o2)).1]
 refine kindm_step hM7 eM7 (Nat.le_refl _) 8 _ (fun w8 L8 c8 hM8 hl8 eM8=>?_)
 try simp (disch:=try exact DI) only [↓PR,QR,simprocAttr,(cells_of_heap (eM8.obj o2)).1]
 refine kindm_step hM8 eM8 (Nat.le_refl _) 9 _ (fun w9 L9 c9 hM9 hl9 eM9=>?_)
 try simp (disch:=try exact DI) only [↓PR,QR,simprocAttr,(cells_of_heap (eM9.obj o2)).1]
 refine kindm_step hM9 eM9 (Nat.le_refl _) 10 _ (fun w10 L10 c10 hM10 hl10 eM10=>?_)
 try simp (disch:=try exact DI) only [↓PR,QR,simprocAttr,(cells_of_heap (eM10.obj o2)).1]
 refine kindm_step hM10 eM10 (Nat.le_refl _) 11 _ (fun w11 L11 c11 hM11 hl11 eM11=>?_)
 try simp (disch:=try exact DI) only [↓PR,QR,simprocAttr,(cells_of_heap (eM11.obj o2)).1]
 refine kindm_step hM11 eM11 (Nat.le_refl _) 12 _ (fun w12 L12 c12 hM12 hl12 eM12=>?_)
 have hlk:=fun (QP:List PanicEntry→World→Prop) (K:Value→World→Prop)=>op_lookup1 (k':=K) (QP:=QP) Tryz.underlying142 (KeyOK.int Tryz.underlying32) ty106 hM12 f.kind
 have hn:∀ k,Sw.look ([]:List (Int×Value×Nat)) k=none:=fun _=>rfl
 have E:=e0.trans eM12
 have hF':=hF.ext E
 have hT':=hT.ext E
 have hC':=hC.ext E
 have hMp:=hM.ext E
 have hk12:f.kind=1∨f.kind=2∨f.kind=3∨f.kind=4∨f.kind=5∨f.kind=6∨f.kind=7∨f.kind=8∨f.kind=9∨f.kind=10∨f.kind=11∨f.kind=12:=by have:=ok.kind;omega
 rcases hk12 with hk | hk | hk | hk | hk | hk | hk | hk | hk | hk | hk | hk
 · have hlook:Sw.look L12 f.kind=some (.func (.func 101) #[] #[]):=by
    rw [hk,hl12,hl11,hl10,hl9,hl8,hl7,hl6,hl5,hl4,hl3,hl2,hl1]
    rw [if_neg (by decide)];rw [if_neg (by decide)];rw [if_neg (by decide)];rw [if_neg (by decide)];rw [if_neg (by decide)];rw [if_neg (by decide)];rw [if_neg (by decide)];rw [if_neg (by decide)];rw [if_neg (by decide)];rw [if_neg (by decide)];rw [if_neg (by decide)];rw [if_pos rfl]
   have hS:spanF sp m.fields f=(f.bits,f.bits):=by unfold spanF;simp [hk]
   rw [hlook] at hlk
   simp (disch:=try exact DI) only [↓PR,QR,simprocAttr,(cells_of_heap (eM12.obj o3)).1,hlk,Option.getD_some]
   refine cv_fin _ _ _ _ eM12 c101 ?_
   rw [hS]
   exact of1_ret _ tv cv f hT' hC'
 · have hlook:Sw.look L12 f.kind=some (.func (.func 101) #[] #[]):=by
    rw [hk,hl12,hl11,hl10,hl9,hl8,hl7,hl6,hl5,hl4,hl3,hl2]
    rw [if_neg (by decide)];rw [if_neg (by decide)];rw [if_neg (by decide)];rw [if_neg (by decide)];rw [if_neg (by decide)];rw [if_neg (by decide)];rw [if_neg (by decide)];rw [if_neg (by decide)];rw [if_neg (by decide)];rw [if_neg (by decide)];rw [if_pos rfl]
   have hS:spanF sp m.fields f=(f.bits,f.bits):=by unfold spanF;simp [hk]
   rw [hlook] at hlk
   simp (disch:=try exact DI) only [↓PR,QR,simprocAttr,(cells_of_heap (eM12.obj o3)).1,hlk,Option.getD_some]
   refine cv_fin _ _ _ _ eM12 c101 ?_
   rw [hS]
   exact of1_ret _ tv cv f hT' hC'
 · have hlook:Sw.look L12 f.kind=some (.func (.func 102) #[.agg (planCells m fl mr).toArray] #[]):=by
    rw [hk,hl12,hl11,hl10,hl9,hl8,hl7,hl6,hl5,hl4,hl3]
    rw [if_neg (by decide)];rw [if_neg (by decide)];rw [if_neg (by decide)];rw [if_neg (by decide)];rw [if_neg (by decide)];rw [if_neg (by decide)];rw [if_neg (by decide)];rw [if_neg (by decide)];rw [if_neg (by decide)];rw [if_pos rfl]
   have hS:spanF sp m.fields f=(((groupsP f.low.toNat:Nat):Int)*8,if f.loose then 40 else ((groupsP f.high.toNat:Nat):Int)*8):=by unfold spanF;simp [hk]
   rw [hlook] at hlk
   simp (disch:=try exact DI) only [↓PR,QR,simprocAttr,(cells_of_heap (eM12.obj o3)).1,hlk,Option.getD_some]
   refine cv_fin _ _ _ _ eM12 c102 ?_
   rw [hS]
   exact numberS_ret hf1 hT' hC' (ok.num hk).1 (ok.num hk).2
 · have hlook:Sw.look L12 f.kind=some (.func (.func 103) #[.agg (planCells m fl mr).toArray] #[]):=by
    rw [hk,hl12,hl11,hl10,hl9,hl8,hl7,hl6,hl5,hl4]
    rw [if_neg (by decide)];rw [if_neg (by decide)];rw [if_neg (by decide)];rw [if_neg (by decide)];rw [if_neg (by decide)];rw [if_neg (by decide)];rw [if_neg (by decide)];rw [if_neg (by decide)];rw [if_pos rfl]
   have hS:spanF sp m.fields f=(capF (ivL m.fields f*8),capF (ivH m.fields f*8)):=by unfold spanF;simp [hk]
   rw [hlook] at hlk
   simp (disch:=try exact DI) only [↓PR,QR,simprocAttr,(cells_of_heap (eM12.obj o3)).1,hlk,Option.getD_some]
   refine cv_fin _ _ _ _ eM12 c103 ?_
   rw [hS]
   exact bytesS_ret _ m fl tv cv mr f hF' hT' hC' ok.terms (ok.iv (by omega)).1 (ok.iv (by omega)).2
 · have hlook:Sw.look L12 f.kind=some (.func (.func 104) #[] #[]):=by
    rw [hk,hl12,hl11,hl10,hl9,hl8,hl7,hl6,hl5]
    rw [if_neg (by decide)];rw [if_neg (by decide)];rw [if_neg (by decide)];rw [if_neg (by decide)];rw [if_neg (by decide)];rw [if_neg (by decide)];rw [if_neg (by decide)];rw [if_pos rfl]
   have hS:spanF sp m.fields f=(8,8*(f.high+1)):=by unfold spanF;simp [hk]
   rw [hlook] at hlk
   simp (disch:=try exact DI) only [↓PR,QR,simprocAttr,(cells_of_heap (eM12.obj o3)).1,hlk,Option.getD_some]
   refine cv_fin _ _ _ _ eM12 c104 ?_
   rw [hS]
   exact of2_ret _ tv cv f hT' hC' (ok.high (by omega))
 · have hlook:Sw.look L12 f.kind=some (.func (.func 105) #[] #[]):=by
    rw [hk,hl12,hl11,hl10,hl9,hl8,hl7,hl6]
    rw [if_neg (by decide)];rw [if_neg (by decide)];rw [if_neg (by decide)];rw [if_neg (by decide)];rw [if_neg (by decide)];rw [if_neg (by decide)];rw [if_pos rfl]
   have hS:spanF sp m.fields f=(16,8*f.high):=by unfold spanF;simp [hk]
   rw [hlook] at hlk
   simp (disch:=try exact DI) only [↓PR,QR,simprocAttr,(cells_of_heap (eM12.obj o3)).1,hlk,Option.getD_some]
   refine cv_fin _ _ _ _ eM12 c105 ?_
   rw [hS]
   exact of3_ret _ tv cv f hT' hC' (ok.high (by omega))
 · have hlook:Sw.look L12 f.kind=some (.func (.func 106) #[.agg (planCells m fl mr).toArray] #[]):=by
    rw [hk,hl12,hl11,hl10,hl9,hl8,hl7]
    rw [if_neg (by decide)];rw [if_neg (by decide)];rw [if_neg (by decide)];rw [if_neg (by decide)];rw [if_neg (by decide)];rw [if_pos rfl]
   have hS:spanF sp m.fields f=(capF (ivL m.fields f*(lookS sp f.of).1),capF (ivH m.fields f*(lookS sp f.of).2)):=by unfold spanF;simp [hk]
   rw [hlook] at hlk
   simp (disch:=try exact DI) only [↓PR,QR,simprocAttr,(cells_of_heap (eM12.obj o3)).1,hlk,Option.getD_some]
   refine cv_fin _ _ _ _ eM12 c106 ?_
   rw [hS]
   exact listS_ret _ m fl tv cv mr f sp hMp hF' hT' hC' ok.terms (ok.iv (by omega)).1 (ok.iv (by omega)).2 (ok.of hk).1 (ok.of hk).2
 · have hlook:Sw.look L12 f.kind=some (.func (.func 107) #[] #[.pointer (some ⟨p2,0,none⟩)]):=by
    rw [hk,hl12,hl11,hl10,hl9,hl8]
    rw [if_neg (by decide)];rw [if_neg (by decide)];rw [if_neg (by decide)];rw [if_neg (by decide)];rw [if_pos rfl]
   have hS:spanF sp m.fields f=lookS sp f.of:=by unfold spanF;simp [hk]
   rw [hlook] at hlk
   simp (disch:=try exact DI) only [↓PR,QR,simprocAttr,(cells_of_heap (eM12.obj o3)).1,hlk,Option.getD_some]
   refine cv_fin _ _ _ _ eM12 c107 ?_
   rw [hS]
   exact of4_ret _ m fl tv cv mr f sp p2 hMp (eM12.obj o2) hT' hC'
 · have hlook:Sw.look L12 f.kind=some (.func (.func 108) #[.agg (planCells m fl mr).toArray] #[]):=by
    rw [hk,hl12,hl11,hl10,hl9]
    rw [if_neg (by decide)];rw [if_neg (by decide)];rw [if_neg (by decide)];rw [if_pos rfl]
   have hS:spanF sp m.fields f=choiceS sp f.cases:=by unfold spanF;simp [hk]
   rw [hlook] at hlk
   simp (disch:=try exact DI) only [↓PR,QR,simprocAttr,(cells_of_heap (eM12.obj o3)).1,hlk,Option.getD_some]
   refine cv_fin _ _ _ _ eM12 c108 ?_
   rw [hS]
   exact choiceF_ret sp hMp hf1 hT' hC' (ok.cases hk)
 · have hlook:Sw.look L12 f.kind=some (.func (.func 109) #[] #[]):=by
    rw [hk,hl12,hl11,hl10]
    rw [if_neg (by decide)];rw [if_neg (by decide)];rw [if_pos rfl]
   have hS:spanF sp m.fields f=(0,f.bits - 1):=by unfold spanF;simp [hk]
   rw [hlook] at hlk
   simp (disch:=try exact DI) only [↓PR,QR,simprocAttr,(cells_of_heap (eM12.obj o3)).1,hlk,Option.getD_some]
   refine cv_fin _ _ _ _ eM12 c109 ?_
   rw [hS]
   exact of5_ret _ tv cv f hT' hC' (ok.bits hk)
 · have hlook:Sw.look L12 f.kind=some (.func (.func 110) #[.agg (planCells m fl mr).toArray] #[]):=by
    rw [hk,hl12,hl11]
    rw [if_neg (by decide)];rw [if_pos rfl]
   have hS:spanF sp m.fields f=if f.check=3 then (32,32) else (16,16):=by unfold spanF;simp [hk]
   rw [hlook] at hlk
   simp (disch:=try exact DI) only [↓PR,QR,simprocAttr,(cells_of_heap (eM12.obj o3)).1,hlk,Option.getD_some]
   refine cv_fin _ _ _ _ eM12 c110 ?_
   rw [hS]
   have:=checkS_ret _ m fl tv cv mr f hf1 hT' hC'
   by_cases h3:f.check=3
   · rw [if_pos h3] at this;rw [if_pos h3];exact this
   · rw [if_neg h3] at this;rw [if_neg h3];exact this
 · have hlook:Sw.look L12 f.kind=some (.func (.func 103) #[.agg (planCells m fl mr).toArray] #[]):=by
    rw [hk,hl12]
    rw [if_pos rfl]
   have hS:spanF sp m.fields f=(capF (ivL m.fields f*8),capF (ivH m.fields f*8)):=by unfold spanF;simp [hk]
   rw [hlook] at hlk
   simp (disch:=try exact DI) only [↓PR,QR,simprocAttr,(cells_of_heap (eM12.obj o3)).1,hlk,Option.getD_some]
   refine cv_fin _ _ _ _ eM12 c103 ?_
   rw [hS]
   exact bytesS_ret _ m fl tv cv mr f hF' hT' hC' ok.terms (ok.iv (by omega)).1 (ok.iv (by omega)).2
def EFieldW (_:World) (cs:List Value) (f:FieldD):Prop:=∃ tv cv,cs=fieldCells f tv cv∧tv.oneCell'=true∧cv.oneCell'=true
theorem keptFieldW:Kept EFieldW:=fun _ _ _ _ _ h=>h
def FieldsW (w:World) (v:Value) (l:List FieldD):Prop:=SliceOf w 15 EFieldW v l
theorem FieldsW.ext {w w':World} {v:Value} {l:List FieldD} (h:FieldsW w v l) (e:Ext w w'):FieldsW w' v l:=SliceOf.ext keptFieldW h e
def OffAt (pb:Nat) (v:Value) (l:List FieldD) (w:World):Prop:=w.heap[pb]?=some (.cells #[v] 42 (0,0))∧FieldsW w v l
theorem OffAt.ext {pb:Nat} {v:Value} {l:List FieldD} {w w':World} (h:OffAt pb v l w) (e:Ext w w'):OffAt pb v l w':=⟨e.obj h.1,h.2.ext e⟩
theorem ElemAt.of_heap {w:World} {b:Nat} {cs:List Value} {T:TypeId} (h:w.heap[b]?=some (.cells cs.toArray T (0,0))):ElemAt w b 0 cs:=fun j v hv=>by
 rw [Nat.zero_add,(cells_of_heap h).1];simpa using hv
theorem outs_marks {L:List (Option TypeId×Value)} {R:RT} {bs:List Nat}:∀ {w w0:World},bs.Nodup→(∀ b∈bs,MarkAt b w∧w0.heap.size≤b)→Ext w0 w →
 (∀ w',Ext w0 w'→(∀ (b:Nat) (o:Obj),(∀ d,o ≠ .deferred d)→w.heap[b]?=some o→w'.heap[b]?=some o)→outX Pg [] L R w')→outX Pg (bs.map Sw.mark) L R w:=by
 induction bs with
 | nil=>exact fun _ _ e h=>h _ e fun _ _ _ h=>h
 | cons b bs ih =>
  intro w w0 hn hm e h
  obtain ⟨hb,hn'⟩:=List.nodup_cons.1 hn
  have hmb:=hm b (List.mem_cons_self ..)
  refine outX_mark hmb.1 (ih (w0:=w0) hn' (fun c hc=>⟨?_,(hm c (List.mem_cons_of_mem _ hc)).2⟩) (e.putObj hmb.2 _) (fun w' e' h'=>h w' e' (fun c o ho hc=>h' c o ho ((World.putObj_heap_other ?_).trans hc))))
  · exact (World.putObj_heap_other (fun (e:c=b)=>hb (by rw [← e];exact hc))).trans (hm c (List.mem_cons_of_mem _ hc)).1
  · rintro rfl
    have:=hmb.1
    unfold MarkAt at this
    rw [hc] at this
    injection this with this
    exact ho _ this
theorem has_nd {T:TypeId} {cs:Array Value}:∀ d,Obj.cells cs T (0,0) ≠ .deferred d:=fun _ h=>by cases h
def stepQ (sp:List (ByteArray×Int×Int)) (l:List FieldD) (a:Int×Int) (f:FieldD):Int×Int :=
 if f.kind=10 then (capF (upI a.1 f.bits),capF (upI a.2 f.bits)) else (capF (a.1+(spanF sp l f).1),capF (a.2+(spanF sp l f).2))
def posS (sp:List (ByteArray×Int×Int)) (l:List FieldD) (k:Nat):Int×Int:=(l.take k).foldl (stepQ sp l) (0,0)
theorem posS_step {sp:List (ByteArray×Int×Int)} {l:List FieldD} {k:Nat} {f:FieldD} (h:l[k]?=some f):posS sp l (k+1)=stepQ sp l (posS sp l k) f:=by unfold posS;rw [take_snoc h,List.foldl_append];rfl
structure OkM (sp:List (ByteArray×Int×Int)) (l:List FieldD):Prop where
 ok:∀ f∈l,OkS sp l f
 pad:∀ f∈l,f.kind=10→1≤f.bits∧f.bits≤512
 span:∀ f∈l,f.kind≠10→(0≤(spanF sp l f).1∧(spanF sp l f).1≤1099511627776)∧0≤(spanF sp l f).2∧(spanF sp l f).2≤1099511627776
theorem upI_nonneg {v n:Int} (hv:0≤v) (hn:1≤n):0≤upI v n:=by
 obtain ⟨q,hq,he,h1,h2⟩:=upI_mul hv hn
 rw [he];omega
theorem posS_in {sp:List (ByteArray×Int×Int)} {l:List FieldD} (ok:OkM sp l):∀ k,(0≤(posS sp l k).1∧(posS sp l k).1≤1099511627776)∧0≤(posS sp l k).2∧(posS sp l k).2≤1099511627776
 | 0=>by simp [posS]
 | k+1=>by
  by_cases hk:k < l.length
  · obtain ⟨f,hf⟩:=getElem?_lt hk
    have hm:=List.mem_of_getElem? hf
    obtain ⟨⟨a1,a2⟩,b1,b2⟩:=posS_in ok k
    rw [posS_step hf]
    unfold stepQ
    split
    · rename_i h10
      have hb:=ok.pad f hm h10
      exact ⟨capF_in (upI_nonneg a1 hb.1),capF_in (upI_nonneg b1 hb.1)⟩
    · rename_i h10
      have hb:=ok.span f hm h10
      exact ⟨capF_in (by omega),capF_in (by omega)⟩
  · have:posS sp l (k+1)=posS sp l k:=by unfold posS;rw [List.take_of_length_le (by omega),List.take_of_length_le (by omega)]
    rw [this];exact posS_in ok k
def PosAt (pb:Nat) (m:MsgD) (fl:Value) (mr:Nat) (sp:List (ByteArray×Int×Int)) (w:World):Prop:=w.heap[pb]?=some (.cells (planCells m fl mr).toArray 105 (0,0))∧FieldsOf w fl m.fields∧MapOf w mr (RP sp)
theorem PosAt.ext {pb:Nat} {m:MsgD} {fl:Value} {mr:Nat} {sp:List (ByteArray×Int×Int)} {w w':World} (h:PosAt pb m fl mr sp w) (e:Ext w w'):PosAt pb m fl mr sp w':=⟨e.obj h.1,FieldsOf.ext h.2.1 e,h.2.2.ext e⟩
theorem positions_ret (w0:World) (m:MsgD) (fl:Value) (mr:Nat) (sp:List (ByteArray×Int×Int)) (hM:MapOf w0 mr (RP sp)) (hF:FieldsOf w0 fl m.fields):Ret Pg 111 #[.agg (planCells m fl mr).toArray] w0 fun r w'=>∃ pb,r = .func (.func 135) #[] #[.pointer (some ⟨pb,0,none⟩)]∧PosAt pb m fl mr sp w'∧w0.heap.size≤pb∧pb < w'.heap.size∧Ext w0 w':=by
 have hf1:=SliceOf.oneCell hF
 refine n118s (R:=retR _) ?_;unfold n118
 simp (disch:=try exact DI) only [↓PR,QR,simprocAttr]
 have e0:Ext w0 (w0.alloc (.cells (planCells m fl mr).toArray 105)):=ee
 exact ⟨_,rfl,⟨heap_new _ _ _,hF.ext e0,hM.ext e0⟩,Nat.le_refl _,by simp,e0⟩
theorem positions_seq {wB:World} (pb:Nat) (m:MsgD) (fl:Value) (mr:Nat) (sp:List (ByteArray×Int×Int)) (ok:OkM sp m.fields) (hF:FieldsOf wB fl m.fields) (hMp:MapOf wB mr (RP sp)) :
 SeqIt3 Pg 135 #[.pointer (some ⟨pb,0,none⟩)] (m.fields.length+1) (fun k => .int .i64 k) (fun k=>rangeVal (posS sp m.fields k).1 (posS sp m.fields k).2) (fun w=>w.heap[pb]?=some (.cells (planCells m fl mr).toArray 105 (0,0))∧Ext wB w):=by
 intro yv J Jx Jp w hy hFP hJl hJx hJp hstep h0
 obtain ⟨A,c,rfl,hlc,hcm,hlm,hel⟩:=SliceOf.open hF
 obtain ⟨ho,eB⟩:=hFP 0 w h0
 have sB:=eB.size
 refine n119s (t0:=yv) (t1 := .pointer (some ⟨pb,0,none⟩)) ?_
 unfold n119
 have lpb:=(Array.getElem?_eq_some_iff.1 ho).1
 simp (disch:=try exact DI) only [↓PR,QR,simprocAttr,(cells_of_heap ho).1]
 have eX:Ext w (w.alloc (.cells #[.int .i64 0,.int .i64 0] 67)):=ee
 have oX:=heap_new w #[.int .i64 0,.int .i64 0] 67
 have hJ0:=(hJl 0).ext h0 eX
 generalize (w.alloc (.cells #[.int .i64 0,.int .i64 0] 67))=X at eX oX hJ0 ⊢
 generalize hpx:w.heap.size=px at oX ⊢
 refine loop1_intro (fun i w'=>∃ k:Nat,i = .int .i64 k∧k≤m.fields.length∧J k w'∧w'.heap[px]?=some (.cells #[.int .i64 (posS sp m.fields k).1,.int .i64 (posS sp m.fields k).2] 67 (0,0))) (fun i _=>m.fields.length - (intOf i).toNat) ⟨0,rfl,by omega,hJ0,oX⟩ ?_
 rintro _ w' ⟨k,rfl,hk,hJ,xX⟩
 obtain ⟨ho',e'⟩:=hFP k w' hJ
 have lX:=(Array.getElem?_eq_some_iff.1 xX).1
 have hin:=posS_in ok k
 rcases drop_cases hk with ⟨x,hx,hd,hlt,hdec⟩ | ⟨hk,hd,hdec⟩
 · obtain ⟨b,o,cs,rfl,hl,hA,hE⟩:=hel k x hx
   obtain ⟨tv,cv,rfl,hT,hC,ht1,hc1⟩:=hE.op
   have hm:=List.mem_of_getElem? hx
   have okx:=ok.ok x hm
   have hstp:=posS_step (sp:=sp) hx
   simp (disch:=try exact DI) only [↓PR,QR,simprocAttr,hdec]
   unfold n119c7
   try unfold X0
   try unfold L0
   rw [op_indexN Tryz.underlying42 ty38 _ _ _ _ _ k hlt,op_load ((hA.ext e').loads ty38 rfl)]
   simp (disch:=try exact DI) only [↓PR,QR,simprocAttr,(cells_of_heap xX).1]
   have eW:Ext w' (w'.alloc (.cells (fieldCells x tv cv).toArray 38)):=ee
   have oW:=heap_new w' (fieldCells x tv cv).toArray 38
   have xW:=eW.obj xX
   generalize (w'.alloc (.cells (fieldCells x tv cv).toArray 38))=W at eW oW xW ⊢
   generalize hpf:w'.heap.size=pf at oW lX ⊢
   have hs:=hstep k (by omega) (fun u=>u.heap[pf]?=some (.cells (fieldCells x tv cv).toArray 38 (0,0))∧u.heap[px]?=some (.cells #[.int .i64 (posS sp m.fields k).1,.int .i64 (posS sp m.fields k).2] 67 (0,0))) ((Firm.has (by omega) (by simp)).and (Firm.has (by omega) (by simp))) W ((hJl k).ext hJ eW) ⟨oW,xW⟩
   refine callV_mono hs (fun ch w h=>h.2) ?_
   rintro v w2 ⟨⟨o2,x2⟩,⟨rfl,h2⟩ | ⟨rfl,h2⟩⟩
   · obtain ⟨ho2,e2⟩:=hFP (k+1) w2 h2
     have l2:=(Array.getElem?_eq_some_iff.1 x2).1
     simp (disch:=try exact DI) only [↓PR,QR,simprocAttr]
     unfold n119c5
     have fin:∀ (w3:World) (a b:Int),Ext w2 w3→(a,b)=posS sp m.fields (k+1)→opU Pg (Instr.storeAt 67 (.pointer (some ⟨px,0,none⟩)) (rangeVal a b)) (panK fun e w'=>match e with | .returned _=>J (m.fields.length+1) w'∨Jx w' | .panicked ch=>Jp ch w' | .outgrown=>False) w3 fun w=>turnK w fun _ w=>opV Pg (binS .add 3 true (.int .i64 (k:Int)) (.int .i64 1)) (panK fun e w'=>match e with | .returned _=>J (m.fields.length+1) w'∨Jx w' | .panicked ch=>Jp ch w' | .outgrown=>False) w fun t33 w=>(∃ k:Nat,t33 = .int .i64 k∧k≤m.fields.length∧J k w∧w.heap[px]?=some (.cells #[.int .i64 (posS sp m.fields k).1,.int .i64 (posS sp m.fields k).2] 67 (0,0)))∧m.fields.length - (intOf t33).toNat < m.fields.length - (intOf (Value.int .i64 (k:Int))).toNat:=by
      intro w3 a b e3 hab
      have x3:=e3.obj x2
      have l3:=(Array.getElem?_eq_some_iff.1 x3).1
      simp (disch:=try exact DI) only [↓PR,QR,simprocAttr,(cells_of_heap x3).1,(cells_of_heap x3).2]
      refine turnK_intro ?_
      simp (disch:=try exact DI) only [↓PR,QR,simprocAttr]
      refine ⟨⟨k+1,rfl,by omega,?_,?_⟩,meas_lt hlt⟩
      · exact (hJl (k+1)).cell ((hJl (k+1)).cell ((hJl (k+1)).ext h2 e3) (by omega) 0 (.int .i64 a)) (by omega) 1 (.int .i64 b)
      · rw [← hab]
        simpa using heap_set (o:=1) (heap_set (o:=0) x3 (.int .i64 a)) (.int .i64 b)
     by_cases h10:x.kind=10
     · have d:(x.kind == 10)=true:=by simp [h10]
       have hp:=ok.pad x hm h10
       simp (disch:=try exact DI) only [↓PR,QR,simprocAttr,(cells_of_heap o2).1,d]
       refine drawK_intro ?_
       have eD:Ext w2 w2.drew:=(Ext.refl _).wdrew
       unfold n119c2
       simp (disch:=try exact DI) only [↓PR,QR,simprocAttr,(cells_of_heap o2).1,(cells_of_heap x2).1]
       refine zcr (same_ret _ x.bits) fun w3 e3=>?_
       unfold n119c1
       refine ⟨e3,?_⟩
       refine zcr (both_ret w3 _ _ _ _ _ _ _ c136 (fun w _=>upS_ret w _ _ hin.1 hp) (fun w _=>upS_ret w _ _ hin.2 hp)) fun w4 e4=>?_
       refine ⟨e3.trans e4,?_⟩
       refine fin w4 _ _ (eD.trans (e3.trans e4)) ?_
       rw [hstp];unfold stepQ;rw [if_pos h10]
     · have d:(x.kind == 10)=false:=by simp [h10]
       have hp:=ok.span x hm h10
       simp (disch:=try exact DI) only [↓PR,QR,simprocAttr,(cells_of_heap o2).1,d]
       refine drawK_intro ?_
       have eD:Ext w2 w2.drew:=(Ext.refl _).wdrew
       unfold n119c4
       simp (disch:=try exact DI) only [↓PR,QR,simprocAttr,(cells_of_heap o2).1,(cells_of_heap x2).1,(cells_of_heap ho2).1]
       have E:=e2.trans eD
       refine zcr (of_ret _ m _ tv cv mr x sp (hMp.ext E) (hF.ext E) (hT.ext E) (hC.ext E) okx) fun w3 e3=>?_
       unfold n119c3
       refine ⟨e3,?_⟩
       refine zcr (both_ret w3 _ _ _ _ _ _ _ c137 (fun w _=>plus_ret w _ _ hin.1 hp.1) (fun w _=>plus_ret w _ _ hin.2 hp.2)) fun w4 e4=>?_
       refine ⟨e3.trans e4,?_⟩
       refine fin w4 _ _ (eD.trans (e3.trans e4)) ?_
       rw [hstp];unfold stepQ;rw [if_neg h10]
   · simp (disch:=try exact DI) only [↓PR,QR,simprocAttr]
     exact .inr h2
 · subst hk
   simp (disch:=try exact DI) only [↓PR,QR,simprocAttr,hdec]
   unfold n119c6
   simp (disch:=try exact DI) only [↓PR,QR,simprocAttr,(cells_of_heap ho').1,(cells_of_heap xX).1]
   have hs:=hstep m.fields.length (by omega) _ Firm.true _ hJ trivial
   refine callV_mono hs (fun ch w h=>h.2) ?_
   rintro v w2 ⟨_,⟨rfl,h2⟩ | ⟨rfl,h2⟩⟩
   · simp (disch:=try exact DI) only [↓PR,QR,simprocAttr]
     exact .inl h2
   · simp (disch:=try exact DI) only [↓PR,QR,simprocAttr]
     exact .inr h2
theorem atS_ret (w0:World) (m:MsgD) (fl:Value) (mr:Nat) (sp:List (ByteArray×Int×Int)) (hM:MapOf w0 mr (RP sp)) (hF:FieldsOf w0 fl m.fields) (ok:OkM sp m.fields) (i:Nat) (hi:i≤m.fields.length) (hl:m.fields.length≤1048576):Ret Pg 69 #[.agg (planCells m fl mr).toArray,.int .i64 (i:Int)] w0 fun r w'=>r=rangeVal (posS sp m.fields i).1 (posS sp m.fields i).2∧Ext w0 w':=by
 have hf1:=SliceOf.oneCell hF
 refine n105s (R:=retR _) ?_;unfold n105
 dsimp only
 simp (disch:=try exact DI) only [↓PR,QR,simprocAttr]
 generalize hW:World.alloc (World.alloc (World.alloc w0 _) _) _=W
 have e0:Ext w0 W:=by rw [← hW];exact ee
 have o3:W.heap[w0.heap.size+1]?=some (.cells #[.int .i64 (i:Int)] 3 (0,0)):=by rw [← hW];simp (disch:=try exact DI) only [↓PR,QR,simprocAttr]
 have o4:W.heap[w0.heap.size+1+1]?=some (.cells #[.int .i64 0,.int .i64 0] 67 (0,0)):=by rw [← hW];simp (disch:=try exact DI) only [↓PR,QR,simprocAttr]
 clear hW
 generalize hp4:w0.heap.size+1+1=p4 at o4 ⊢
 generalize hp3:w0.heap.size+1=p3 at o3 hp4 ⊢
 refine callK_ret (positions_ret W m fl mr sp (hM.ext e0) (hF.ext e0)) ?_
 rintro _ w1 ⟨pb,rfl,⟨hob,_,_⟩,hb1,hb2,e1⟩
 have x3:=e1.obj o3
 have x4:=e1.obj o4
 have l4:=(Array.getElem?_eq_some_iff.1 o4).1
 have s1:=e1.size
 have E1:=e0.trans e1
 unfold n105c5
 repeat rw [World.size_alloc]
 rw [hp3,hp4]
 have s0:=e0.size
 let I:Nat→World→Prop:=fun k w'=>k≤i∧Ext w0 w'∧w'.heap[pb]?=some (.cells (planCells m fl mr).toArray 105 (0,0))∧w'.heap[p3]?=some (.cells #[.int .i64 (i:Int)] 3 (0,0))∧∃ a b:Int,w'.heap[p4]?=some (.cells #[.int .i64 a,.int .i64 b] 67 (0,0))
 let Ix:Nat→World→Prop:=fun c w'=>c=0∧Ext w0 w'∧w'.heap[p4]?=some (.cells #[.int .i64 (posS sp m.fields i).1,.int .i64 (posS sp m.fields i).2] 67 (0,0))
 have hLI:∀ k,Lasts3 w1.heap.size (I k):=fun k=>(Lasts3.const _ _).and ((Lasts3.from E1.size).and ((Lasts3.low hb2 _).and ((Lasts3.low (by omega) _).and (.ex fun a => .ex fun b=>Lasts3.low (by omega) _))))
 have hLX:∀ c,Lasts3 w1.heap.size (Ix c):=fun c=>(Lasts3.const _ _).and ((Lasts3.from E1.size).and (Lasts3.low (by omega) _))
 refine ⟨_,_,m.fields.length+1,(fun k => .int .i64 k),(fun k=>rangeVal (posS sp m.fields k).1 (posS sp m.fields k).2),_,I,Ix,fun _ _=>False,rfl,c135,positions_seq pb m fl mr sp ok hF hM,⟨Nat.zero_le _,E1,hob,x3,0,0,x4⟩,fun k w h=>⟨h.2.2.1,h.2.1⟩,hLI,hLX,fun _=>Lasts3.const _ _,?_,?_,?_,?_⟩
 · intro Rk hRk j w2 hj hI2 hR2 hlt hready
   unfold n105c2
   have eA:Ext w2 (w2.alloc (.cells #[.int .i64 (posS sp m.fields j).1,.int .i64 (posS sp m.fields j).2] 67)):=ee
   have oA:=heap_new w2 #[.int .i64 (posS sp m.fields j).1,.int .i64 (posS sp m.fields j).2] 67
   have hR3:=hRk _ _ (KR.of eA) hR2
   have hI3:=(hLI j).ext hI2 eA
   have hrd:ReadyAt (w1.heap.size+1) (w2.alloc (.cells #[.int .i64 (posS sp m.fields j).1,.int .i64 (posS sp m.fields j).2] 67)):=by obtain ⟨r,h1,h2⟩:=hready;exact ⟨r,eA.obj h1,h2⟩
   simp (disch:=try exact DI) only [↓PR,QR,simprocAttr]
   generalize (w2.alloc (.cells #[.int .i64 (posS sp m.fields j).1,.int .i64 (posS sp m.fields j).2] 67))=X at oA hR3 hI3 hrd ⊢
   generalize w2.heap.size=q at oA ⊢
   refine ⟨hrd,fun w4 hbz=>?_⟩
   have hR4:=hRk _ _ (KR.busied hbz) hR3
   obtain ⟨hji,e4,y5,y3,a,b,y4⟩:=(hLI j).busied hbz (Nat.le_succ _) hI3
   have oq:w4.heap[q]?=some (.cells #[.int .i64 (posS sp m.fields j).1,.int .i64 (posS sp m.fields j).2] 67 (0,0)):=by
    obtain ⟨r,hr,rfl⟩:=hbz
    rw [World.putObj_heap_other (by rintro rfl;rw [oA] at hr;cases hr)]
    exact oA
   have l4':=(Array.getElem?_eq_some_iff.1 y4).1
   have n34:p3≠p4:=by omega
   unfold n105c1
   have hb4:p4 < w1.heap.size+1+1:=by omega
   have z4:((w4.setCell ⟨p4,0,none⟩ (.int .i64 (posS sp m.fields j).1)).setCell ⟨p4,1,none⟩ (.int .i64 (posS sp m.fields j).2)).heap[p4]?=some (.cells #[.int .i64 (posS sp m.fields j).1,.int .i64 (posS sp m.fields j).2] 67 (0,0)):=by simpa using heap_set (o:=1) (heap_set (o:=0) y4 (.int .i64 (posS sp m.fields j).1)) (.int .i64 (posS sp m.fields j).2)
   have only:∀ g,g≠p4→((w4.setCell ⟨p4,0,none⟩ (.int .i64 (posS sp m.fields j).1)).setCell ⟨p4,1,none⟩ (.int .i64 (posS sp m.fields j).2)).heap[g]?=w4.heap[g]?:=fun g hg=>(Only.setCell _ p4 1 _ g hg).trans (Only.setCell w4 p4 0 _ g hg)
   have hR5:=hRk _ _ ((KR.setCell (KR.refl _ w4) p4 0 (.int .i64 (posS sp m.fields j).1) (.inl hb4)).setCell p4 1 (.int .i64 (posS sp m.fields j).2) (.inl hb4)) hR4
   have e5:Ext w0 ((w4.setCell ⟨p4,0,none⟩ (.int .i64 (posS sp m.fields j).1)).setCell ⟨p4,1,none⟩ (.int .i64 (posS sp m.fields j).2)):=(e4.setCell (p:=⟨p4,0,none⟩) (by show w0.heap.size≤p4;omega) _).setCell (p:=⟨p4,1,none⟩) (by show w0.heap.size≤p4;omega) _
   by_cases hji':j=i
   · subst hji'
     have d:((j:Int) == (j:Int))=true:=by simp
     simp (disch:=try exact DI) only [↓PR,QR,simprocAttr,(cells_of_heap oq).1,(cells_of_heap y4).1,(cells_of_heap y4).2,(cells_of_heap y3).1,d]
     exact ⟨hR5,rfl,e5,z4⟩
   · have d:((j:Int) == (i:Int))=false:=by simp;omega
     simp (disch:=try exact DI) only [↓PR,QR,simprocAttr,(cells_of_heap oq).1,(cells_of_heap y4).1,(cells_of_heap y4).2,(cells_of_heap y3).1,d]
     exact ⟨hR5,by omega,e5,(only pb (by omega)).trans y5,(only p3 n34).trans y3,_,_,z4⟩
 · rintro w3 ⟨h,_⟩ hmk
   exact absurd h (by omega)
 · rintro c w3 ⟨rfl,e3,y4⟩ hmk
   have l4':=(Array.getElem?_eq_some_iff.1 y4).1
   show n105c4 _ _ _ _
   unfold n105c4
   have z4:((w3.setCell ⟨p4,0,none⟩ (.int .i64 (posS sp m.fields i).1)).setCell ⟨p4,1,none⟩ (.int .i64 (posS sp m.fields i).2)).heap[p4]?=some (.cells #[.int .i64 (posS sp m.fields i).1,.int .i64 (posS sp m.fields i).2] 67 (0,0)):=by simpa using heap_set (o:=1) (heap_set (o:=0) y4 (.int .i64 (posS sp m.fields i).1)) (.int .i64 (posS sp m.fields i).2)
   have e5:Ext w0 ((w3.setCell ⟨p4,0,none⟩ (.int .i64 (posS sp m.fields i).1)).setCell ⟨p4,1,none⟩ (.int .i64 (posS sp m.fields i).2)):=(e3.setCell (p:=⟨p4,0,none⟩) (by show w0.heap.size≤p4;omega) _).setCell (p:=⟨p4,1,none⟩) (by show w0.heap.size≤p4;omega) _
   have hmk':=(hmk.setCell ⟨p4,0,none⟩ (.int .i64 (posS sp m.fields i).1)).setCell ⟨p4,1,none⟩ (.int .i64 (posS sp m.fields i).2)
   simp (disch:=try exact DI) only [↓PR,QR,simprocAttr,(cells_of_heap y4).1,(cells_of_heap y4).2]
   refine outs_marks (bs:=[w1.heap.size]) (w0:=w0) (by simp) (fun b hb=>?_) e5 (fun w' e' hh=>?_)
   · obtain rfl:=List.mem_singleton.1 hb
     exact ⟨hmk',E1.size⟩
   · have z8:=hh _ _ has_nd z4
     simp (disch:=try exact DI) only [↓PR,QR,simprocAttr,outX_nil,retV,resOne,(cells_of_heap z8).1]
     exact ⟨by trivial,e'⟩
 · rintro ch w3 h
   exact h.elim
def stepM (sp:List (ByteArray×Int×Int)) (m:MsgD):List (ByteArray×Int×Int):=sp++[(m.name,posS sp m.fields m.fields.length)]
def spansD (l:List MsgD):List (ByteArray×Int×Int):=l.foldl stepM []
theorem spansD_step {l:List MsgD} {k:Nat} {m:MsgD} (h:l[k]?=some m):spansD (l.take (k+1))=stepM (spansD (l.take k)) m:=by unfold spansD;rw [take_snoc h,List.foldl_append];rfl
def OkD (l:List MsgD):Prop:=∀ k m,l[k]?=some m→OkM (spansD (l.take k)) m.fields∧m.fields.length≤40
theorem OwnE.others {α:Type} {w w':World} {lo n:Nat} {T:TypeId} {enc:α→List Value} {v:Value} {l:List α} (h:OwnE w lo T n enc v l) (hh:∀ (g:Nat) (cur:Array Value) (T:TypeId) (fr:Nat×Nat),w.heap[g]?=some (.cells cur T fr)→w'.heap[g]?=w.heap[g]?):OwnE w' lo T n enc v l:=by
 refine ⟨h.1,?_⟩
 rcases h.2 with h2 | ⟨g,cap,cur,h1,h2,h3,h4⟩
 · exact .inl h2
 · exact .inr ⟨g,cap,cur,h1,h2,(hh _ _ _ _ h3).trans h3,h4⟩
theorem RP_snoc (sp:List (ByteArray×Int×Int)) (p:ByteArray×Int×Int):RP (sp++[p])=RP sp++[(p.1,rangeVal p.2.1 p.2.2)]:=by unfold RP;simp
abbrev plE (mr:Nat) (x:Cs 2):List Value:=x.1++[.map (some mr)]
theorem plE_len (mr:Nat) (x:Cs 2):(plE mr x).length=3:=by simp [plE,x.2]
theorem plans_ret (w0:World) (v:Value) (d:DefD) (mv:Value) (css:List (Cs 2)) (hv:v = .agg (defCells d mv).toArray) (hraw:SliceOf w0 2 (fun _ cs (x:Cs 2)=>cs=x.1) mv css) (hmates:Mates 2 (EMsg w0) css d.msgs) (ok:OkD d.msgs) (hl:d.msgs.length≤1048576):Ret Pg 130 #[v] w0 fun r w'=>∃ mr,OwnE w' w0.heap.size 105 3 (plE mr) r css∧w0.heap.size≤mr∧MapOf w' mr (RP (spansD d.msgs))∧Ext w0 w':=by
 subst hv
 have hlen:css.length=d.msgs.length:=hmates.1
 have hm1:=SliceOf.oneCell hraw
 obtain ⟨A,c,rfl,hlc,hcm,hlm,hel⟩:=SliceOf.open hraw
 refine n122s (R:=retR _) ?_;unfold n122
 simp (disch:=try exact DI) only [↓PR,QR,simprocAttr]
 have e0:Ext w0 ((w0.alloc (.cells (defCells d (.slice A css.length c)).toArray 24)).alloc (.map #[] 0)):=ee
 have hM0:MapOf ((w0.alloc (.cells (defCells d (.slice A css.length c)).toArray 24)).alloc (.map #[] 0)) (w0.heap.size+1) []:=by have:=MapOf.new (w0.alloc (.cells (defCells d (.slice A css.length c)).toArray 24));rwa [World.size_alloc] at this
 generalize ((w0.alloc (.cells (defCells d (.slice A css.length c)).toArray 24)).alloc (.map #[] 0))=W at e0 hM0 ⊢
 generalize hmr:w0.heap.size+1=mr at hM0 ⊢
 refine loop2_intro (fun o i w=>∃ k:Nat,i = .int .i64 k∧k≤css.length∧OwnE w w0.heap.size 105 3 (plE mr) o (css.take k)∧MapOf w mr (RP (spansD (d.msgs.take k)))∧Ext w0 w) (fun _ i _=>css.length - (intOf i).toNat) ⟨0,rfl,by omega,OwnE.nil _ _ _ _ _,hM0,e0⟩ ?_
 rintro o _ w ⟨k,rfl,hk,hO,hM,e⟩
 rcases drop_cases hk with ⟨x,hx,hd,hlt,hdec⟩ | ⟨hk,hd,hdec⟩
 · obtain ⟨b,ob,cs,rfl,hl2,hA,rfl⟩:=hel k x hx
   obtain ⟨m,hm⟩:=getElem?_lt (l:=d.msgs) (k:=k) (by omega)
   obtain ⟨fl,hxe,hF⟩:=hmates.2 k m x hm hx
   obtain ⟨okm,h40⟩:=ok k m hm
   have hf1:=SliceOf.oneCell hF
   obtain ⟨A2,c2,rfl,_,_,_,_⟩:=SliceOf.open hF
   rw [hxe] at hA
   simp (disch:=try exact DI) only [↓PR,QR,simprocAttr,hdec]
   unfold n122c3
   try unfold X0
   try unfold L0
   rw [op_indexN Tryz.underlying22 ty44 _ _ _ _ _ k hlt,op_load ((hA.ext e).loads ty44 rfl)]
   simp (disch:=try exact DI) only [↓PR,QR,simprocAttr]
   repeat rw [World.size_setCell]
   repeat rw [World.size_alloc]
   rw [hmr]
   have eX:Ext w ((w.alloc (.cells #[.string m.name,.slice A2 m.fields.length c2] 44)).alloc (.cells #[.string m.name,.slice A2 m.fields.length c2,.map (some mr)] 105)):=ee
   have o6:((w.alloc (.cells #[.string m.name,.slice A2 m.fields.length c2] 44)).alloc (.cells #[.string m.name,.slice A2 m.fields.length c2,.map (some mr)] 105)).heap[w.heap.size]?=some (.cells #[.string m.name,.slice A2 m.fields.length c2] 44 (0,0)):=by simp (disch:=try exact DI) only [↓PR,QR,simprocAttr]
   have o7:((w.alloc (.cells #[.string m.name,.slice A2 m.fields.length c2] 44)).alloc (.cells #[.string m.name,.slice A2 m.fields.length c2,.map (some mr)] 105)).heap[w.heap.size+1]?=some (.cells (planCells m (.slice A2 m.fields.length c2) mr).toArray 105 (0,0)):=by simp (disch:=try exact DI) only [↓PR,QR,simprocAttr]
   generalize ((w.alloc (.cells #[.string m.name,.slice A2 m.fields.length c2] 44)).alloc (.cells #[.string m.name,.slice A2 m.fields.length c2,.map (some mr)] 105))=X at eX o6 o7 ⊢
   have hlm':=hM.lt
   generalize hp7:w.heap.size+1=p7 at o7 ⊢
   refine drawK_intro ?_
   have eD:Ext X X.drew:=(Ext.refl _).wdrew
   have E:=e.trans (eX.trans eD)
   unfold n122c2
   simp (disch:=try exact DI) only [↓PR,QR,simprocAttr,(cells_of_heap o6).1,(cells_of_heap o7).1]
   refine zcr (atS_ret _ m _ mr _ (hM.ext (eX.trans eD)) (hF.ext E) okm m.fields.length (Nat.le_refl _) (by omega)) fun w2 e2=>?_
   refine ⟨e2,?_⟩
   have E2:=eX.trans (eD.trans e2)
   have hM2:=hM.ext E2
   rw [op_updateO Tryz.underlying103 Tryz.underlying9 hM2]
   refine turnK_intro ?_
   have hM3:=hM2.put m.name (rangeVal (posS (spansD (d.msgs.take k)) m.fields m.fields.length).1 (posS (spansD (d.msgs.take k)) m.fields m.fields.length).2)
   rw [← RP_snoc _ (m.name,posS (spansD (d.msgs.take k)) m.fields m.fields.length)] at hM3
   have hst:=spansD_step hm
   have x7:=(putW_heap (r:=mr) (ps:=RP (spansD (d.msgs.take k))) (k:=m.name) (v:=rangeVal (posS (spansD (d.msgs.take k)) m.fields m.fields.length).1 (posS (spansD (d.msgs.take k)) m.fields m.fields.length).2) (w:=w2) (b:=p7) (by omega)).trans (e2.obj (eD.obj o7))
   have E3:Ext w0 (putW w2 mr (RP (spansD (d.msgs.take k))) m.name (rangeVal (posS (spansD (d.msgs.take k)) m.fields m.fields.length).1 (posS (spansD (d.msgs.take k)) m.fields m.fields.length).2)):=Ext.putW (e.trans E2) (by omega) _ _
   have hO3:OwnE (putW w2 mr (RP (spansD (d.msgs.take k))) m.name (rangeVal (posS (spansD (d.msgs.take k)) m.fields m.fields.length).1 (posS (spansD (d.msgs.take k)) m.fields m.fields.length).2)) w0.heap.size 105 3 (plE mr) o (css.take k):=OwnE.others (hO.ext E2) fun g cur T fr hg=>putW_heap (by rintro rfl;rw [hM2.obj] at hg;cases hg)
   unfold n122c1
   simp (disch:=try exact DI) only [↓PR,QR,simprocAttr,(cells_of_heap x7).1]
   have sY:(putW w2 mr (RP (spansD (d.msgs.take k))) m.name (rangeVal (posS (spansD (d.msgs.take k)) m.fields m.fields.length).1 (posS (spansD (d.msgs.take k)) m.fields m.fields.length).2)).heap.size=w2.heap.size:=putW_size
   generalize (putW w2 mr (RP (spansD (d.msgs.take k))) m.name (rangeVal (posS (spansD (d.msgs.take k)) m.fields m.fields.length).1 (posS (spansD (d.msgs.take k)) m.fields m.fields.length).2))=Y at hM3 x7 E3 hO3 sY ⊢
   have eY:Ext Y (Y.alloc (.cells #[.string m.name,.slice A2 m.fields.length c2,.map (some mr)] 105)):=ee
   have oY:=heap_new Y #[.string m.name,.slice A2 m.fields.length c2,.map (some mr)] 105
   rw [sY] at oY
   have hM4:=hM3.ext eY
   have hO4:=hO3.ext eY
   have E4:=E3.trans eY
   have hxc:plE mr x=[.string m.name,.slice A2 m.fields.length c2,.map (some mr)]:=by unfold plE;rw [hxe];rfl
   generalize (Y.alloc (.cells #[.string m.name,.slice A2 m.fields.length c2,.map (some mr)] 105))=Z at oY hM4 hO4 E4 ⊢
   refine op_appendE (l':=[x]) Tryz.underlying165 ty105 rfl (by decide) (plE_len mr) (fun y hy u hu=>?_) hO4 (fun j y hy=>?_) E4.size (Nat.le_trans (Nat.mul_le_mul (show (css.take k).length+1≤1048577 by rw [List.length_take];omega) by105) (by decide)) (by rw [List.length_take];simp;omega) ?_
   · simp only [List.mem_singleton] at hy
     subst hy
     rw [hxc] at hu
     simp only [List.mem_cons,List.not_mem_nil,or_false] at hu
     rcases hu with rfl | rfl | rfl<;>rfl
   · cases j with
     | succ j=>simp at hy
     | zero =>
      simp at hy;subst hy
      rw [hxc]
      exact ElemAt.of_heap oY
   · rintro v' w4 hO5 hg5
     have E5:Ext w0 w4:=E4.grown hg5 fun g hg=>(World.ownsRow.lt hO4 g hg).1
     have hM5:MapOf w4 mr (RP (spansD (d.msgs.take k)++[(m.name,posS (spansD (d.msgs.take k)) m.fields m.fields.length)])):=by
      have hb:=hg5.block mr hM4.lt (fun hh=>by
       rcases hO4.2 with ⟨hx,_⟩ | ⟨g,cap,cur,h1,_,h3,_⟩
       · rw [hx] at hh;cases hh
       · rw [h1] at hh
         injection hh with hh
         subst hh
         rw [hM4.obj] at h3;cases h3)
      exact MapB.of_obj hM4 hb
     have hw:IntKind.i64.wrap ((k:Int)+1)=((k+1:Nat):Int):=by rw [wrap_ok (by omega) (by omega)];omega
     simp (disch:=try exact DI) only [↓PR,QR,simprocAttr,hw]
     refine ⟨⟨k+1,rfl,by omega,by rw [take_snoc hx];exact hO5,by rw [hst];exact hM5,E5⟩,meas_lt hlt⟩
 · subst hk
   simp (disch:=try exact DI) only [↓PR,QR,simprocAttr,hdec]
   rw [List.take_length] at hO
   rw [hlen,List.take_length] at hM
   exact ⟨mr,hO,by omega,hM,e⟩
def msgE (d:DefD) (i:Int):Int:=if (checkP d).2.2≠0 then 2 else if i < 0∨d.msgs.length≤i then 3 else 0
def msgL (d:DefD) (i:Int):List FieldD:=if msgE d i=0 then (match d.msgs[i.toNat]? with
 | some m=>m.fields
 | none=>[]) else []
theorem msgE_zero {d:DefD} {i:Int} (h:msgE d i=0):(checkP d).2.2=0∧∃ (k:Nat) (m:MsgD),i=k∧k < d.msgs.length∧d.msgs[k]?=some m∧msgL d i=m.fields:=by
 have h':=h
 unfold msgE at h
 split at h
 · exact absurd h (by decide)
 · rename_i h0
   split at h
   · exact absurd h (by decide)
   · rename_i h1
     obtain ⟨k,rfl⟩:∃ k:Nat,i=k:=⟨i.toNat,by omega⟩
     have hk:k < d.msgs.length:=by omega
     obtain ⟨m,hm⟩:=getElem?_lt hk
     refine ⟨Decidable.not_not.1 h0,k,m,rfl,hk,hm,?_⟩
     unfold msgL
     rw [if_pos h',Int.toNat_natCast,hm]
section
variable {w0:World}
def padOK (n p:Int):Prop:=(n=2∨n=4∨(8≤n∧n≤512∧n.tmod 8=0))∧0≤p∧p≤335544320
instance (n p:Int):Decidable (padOK n p):=by unfold padOK;infer_instance
end
structure Sound (d:DefD):Prop where
 each:(checkP d).2.2=0→OkD d.msgs
 full:(checkP d).2.2=0→∀ m∈d.msgs,OkM (spansD d.msgs) m.fields
section
variable {w0:World} {d:DefD}
theorem planned_ret (v:Value) (i:Int) (hd:DefVal w0 v d) (ht:calm d) (hs:Sound d) (hl:d.msgs.length≤1048576):Ret Pg 100 #[v,.int .i64 i] w0 fun r w' =>
 (msgE d i≠0∧r = .tuple #[.agg #[.string ByteArray.empty,.slice none 0 0,.map none],.int .i64 (msgE d i)] ∨
  ∃ m fl mr,msgE d i=0∧d.msgs[i.toNat]?=some m∧r = .tuple #[.agg (planCells m fl mr).toArray,.int .i64 0]∧FieldsOf w0 fl m.fields∧MapOf w' mr (RP (spansD d.msgs)))∧Ext w0 w':=by
 obtain ⟨mv,rfl,hM⟩:=hd
 have hm1:=SliceOf.oneCell hM
 refine n121s (R:=retR _) ?_;unfold n121
 rw [op_boxA,op_alloc ty105]
 generalize hΦ:(fun (r:Value) (w':World)=>(msgE d i≠0∧r = .tuple #[.agg #[.string ByteArray.empty,.slice none 0 0,.map none],.int .i64 (msgE d i)]∨∃ m fl mr,msgE d i=0∧d.msgs[i.toNat]?=some m∧r = .tuple #[.agg (planCells m fl mr).toArray,.int .i64 0]∧FieldsOf w0 fl m.fields∧MapOf w' mr (RP (spansD d.msgs)))∧Ext w0 w')=Φ
 show opV _ _ _ ((w0.alloc (.cells (defCells d mv).toArray 24)).alloc (.cells #[.string ByteArray.empty,.slice none 0 0,.map none] 105)) _
 simp only [World.size_alloc]
 generalize hW:((w0.alloc (.cells (defCells d mv).toArray 24)).alloc (.cells #[.string ByteArray.empty,.slice none 0 0,.map none] 105))=W
 have e0:Ext w0 W:=by rw [← hW];exact ee
 have o2:W.heap[w0.heap.size]?=some (.cells (defCells d mv).toArray 24 (0,0)):=by rw [← hW];simp (disch:=try exact DI) only [↓PR,QR,simprocAttr]
 have o4:W.heap[w0.heap.size+1]?=some (.cells #[.string ByteArray.empty,.slice none 0 0,.map none] 105 (0,0)):=by rw [← hW];simp (disch:=try exact DI) only [↓PR,QR,simprocAttr]
 clear hW
 generalize hp4:w0.heap.size+1=p4 at o4 ⊢
 simp (disch:=try exact DI) only [↓PR,QR,simprocAttr,(cells_of_heap o2).1]
 refine zcr (Valid_ret' _ d ⟨_,rfl,hM.ext e0⟩ ht) fun w1 e1=>?_
 have E1:=e0.trans e1
 have x4:=e1.obj o4
 have x2:=e1.obj o2
 have l4:=(Array.getElem?_eq_some_iff.1 x4).1
 have bad:∀ (c:Int),msgE d i=c→c≠0→∀ w,Ext w0 w→w.heap[p4]?=some (.cells #[.string ByteArray.empty,.slice none 0 0,.map none] 105 (0,0))→qW Pg 105 (.pointer (some ⟨p4,0,none⟩)) w fun r0=>retR Φ (.returned (.tuple #[r0,.int .i64 c])) w:=by
  intro c hc hc0 w e x
  simp (disch:=try exact DI) only [↓PR,QR,simprocAttr,(cells_of_heap x).1]
  rw [← hΦ]
  exact ⟨.inl ⟨by rw [hc];exact hc0,by rw [hc]⟩,e⟩
 have y4:∀ w:World,w.heap[p4]?=some (.cells #[.string ByteArray.empty,.slice none 0 0,.map none] 105 (0,0))→(((w.setCell ⟨p4,0,none⟩ (.string ByteArray.empty)).setCell ⟨p4,1,none⟩ (.slice none 0 0)).setCell ⟨p4,2,none⟩ (.map none)).heap[p4]?=some (.cells #[.string ByteArray.empty,.slice none 0 0,.map none] 105 (0,0)):=fun w x=>by
  simpa using heap_set (o:=2) (heap_set (o:=1) (heap_set (o:=0) x (.string ByteArray.empty)) (.slice none 0 0)) (.map none)
 have e4:∀ (w:World) (u0 u1 u2:Value),Ext w0 w→Ext w0 (((w.setCell ⟨p4,0,none⟩ u0).setCell ⟨p4,1,none⟩ u1).setCell ⟨p4,2,none⟩ u2):=fun w u0 u1 u2 e=>((e.setCell (p:=⟨p4,0,none⟩) (by show w0.heap.size≤p4;omega) _).setCell (p:=⟨p4,1,none⟩) (by show w0.heap.size≤p4;omega) _).setCell (p:=⟨p4,2,none⟩) (by show w0.heap.size≤p4;omega) _
 by_cases hf:(checkP d).2.2=0
 case neg =>
  have hfb:flawedB d=true:=by unfold flawedB;simp [hf]
  have hE:msgE d i=2:=by unfold msgE;rw [if_pos hf]
  rw [hfb]
  simp (disch:=try exact DI) only [↓PR,QR,simprocAttr,↓n121c4,(cells_of_heap x4).1,(cells_of_heap x4).2]
  first
  | exact bad 2 hE (by decide) _ (e4 _ _ _ _ E1) (y4 _ x4)
  | (rw [← hΦ];exact ⟨.inl ⟨by rw [hE];decide,by rw [hE]⟩,e4 _ _ _ _ E1⟩)
 have hfb:flawedB d=false:=by unfold flawedB;simp [hf]
 rw [hfb]
 obtain ⟨css,hraw,hmates⟩:=SliceOf.raw hM
 obtain ⟨A,c,rfl,hlc,hcm,hlm,hel⟩:=SliceOf.open hM
 by_cases hi:i < 0
 · have d1:decide (i < 0)=true:=decide_eq_true hi
   have hE:msgE d i=3:=by unfold msgE;rw [if_neg (by simp [hf]),if_pos (.inl hi)]
   simp (disch:=try exact DI) only [↓PR,QR,simprocAttr,d1,↓n121c5,↓n121c3,↓n121c2,(cells_of_heap x4).1,(cells_of_heap x4).2]
   first
   | exact bad 3 hE (by decide) _ (e4 _ _ _ _ E1) (y4 _ x4)
   | (rw [← hΦ];exact ⟨.inl ⟨by rw [hE];decide,by rw [hE]⟩,e4 _ _ _ _ E1⟩)
 have d1:decide (i < 0)=false:=decide_eq_false hi
 by_cases hh:(d.msgs.length:Int)≤i
 · have d2:decide (i≥(d.msgs.length:Int))=true:=decide_eq_true hh
   have hE:msgE d i=3:=by unfold msgE;rw [if_neg (by simp [hf]),if_pos (.inr hh)]
   simp (disch:=try exact DI) only [↓PR,QR,simprocAttr,d1,d2,↓n121c5,↓n121c3,↓n121c2,(cells_of_heap x2).1,(cells_of_heap x4).1,(cells_of_heap x4).2]
   first
   | exact bad 3 hE (by decide) _ (e4 _ _ _ _ E1) (y4 _ x4)
   | (rw [← hΦ];exact ⟨.inl ⟨by rw [hE];decide,by rw [hE]⟩,e4 _ _ _ _ E1⟩)
 have d2:decide (i≥(d.msgs.length:Int))=false:=decide_eq_false hh
 have hE:msgE d i=0:=by unfold msgE;rw [if_neg (by simp [hf]),if_neg (by omega)]
 obtain ⟨k,rfl⟩:∃ k:Nat,i=k:=⟨i.toNat,by omega⟩
 obtain ⟨m,hm⟩:=getElem?_lt (l:=d.msgs) (k:=k) (by omega)
 obtain ⟨x,hx⟩:=getElem?_lt (l:=css) (k:=k) (by rw [hmates.1];omega)
 obtain ⟨fl,hxe,hF⟩:=hmates.2 k m x hm hx
 have hf1:=SliceOf.oneCell hF
 simp (disch:=try exact DI) only [↓PR,QR,simprocAttr,d1,d2,↓n121c5,↓n121c3,(cells_of_heap x2).1]
 have hms:Mates 2 (EMsg w1) css d.msgs:=hmates.imp fun cs x hx=>keptMsg _ _ _ _ E1 hx
 refine callK_ret (plans_ret w1 _ d _ css rfl (hraw.ext keptRaw E1) hms (hs.each hf) hl) ?_
 rintro v2 w2 ⟨mr,hO,hmr,hM2,e2⟩
 obtain ⟨g,cap,rfl,hg0,hgl,hT,hfz,hrow⟩:=hO.row (plE_len mr) (by rw [hmates.1];omega)
 have hEk:=hrow k x hx
 rw [show plE mr x=planCells m fl mr by unfold plE;rw [hxe];rfl] at hEk
 have z4:=e2.obj x4
 have l44:=(Array.getElem?_eq_some_iff.1 z4).1
 have E2:=E1.trans e2
 unfold n121c1
 try unfold X0
 try unfold L0
 rw [op_indexN Tryz.underlying165 ty105 _ _ _ _ _ k (by rw [hmates.1];omega),Nat.zero_add,op_load (hEk.loads ty105 rfl)]
 have nm:mr≠p4:=by omega
 have w4:(((w2.setCell ⟨p4,0,none⟩ (.string m.name)).setCell ⟨p4,1,none⟩ fl).setCell ⟨p4,2,none⟩ (.map (some mr))).heap[p4]?=some (.cells (planCells m fl mr).toArray 105 (0,0)):=by simpa using heap_set (o:=2) (heap_set (o:=1) (heap_set (o:=0) z4 (.string m.name)) fl) (.map (some mr))
 simp (disch:=try exact DI) only [↓PR,QR,simprocAttr,(cells_of_heap z4).1,(cells_of_heap z4).2]
 rw [← hΦ]
 exact ⟨.inr ⟨m,fl,mr,hE,by rw [Int.toNat_natCast];exact hm,rfl,hF,((hM2.setCell _ _).setCell _ _).setCell _ _⟩,e4 _ _ _ _ E2⟩
def errG (d:DefD) (i fld:Int):Int:=if msgE d i≠0 then msgE d i else if fld < 0∨(msgL d i).length≤fld then 3 else 0
theorem get_ret (v:Value) (i fld:Int) (hd:DefVal w0 v d) (ht:calm d) (hs:Sound d) (hl:d.msgs.length≤1048576) (g:FuncId) (caps:Array Value) (hg:Callable Pg g) (A B:Int)
 (hc:∀ m,d.msgs[i.toNat]?=some m→errG d i fld=0→∀ w fl mr,Ext w0 w→FieldsOf w fl m.fields→MapOf w mr (RP (spansD d.msgs))→Ret Pg g (#[] ++ #[.agg (planCells m fl mr).toArray]++caps) w fun r w'=>r=rangeVal A B∧Ext w w') :
 Ret Pg 65 #[v,.int .i64 i,.int .i64 fld,.func (.func g) #[] caps] w0 fun r w'=>r=(if errG d i fld=0 then .tuple #[rangeVal A B,.int .i64 0] else .tuple #[rangeVal 0 0,.int .i64 (errG d i fld)])∧Ext w0 w':=by
 obtain ⟨mv,rfl,hM⟩:=hd
 have hm1:=SliceOf.oneCell hM
 refine n103s (R:=retR _) ?_;unfold n103
 rw [op_boxA,op_alloc ty67]
 generalize hΦ:(fun (r:Value) (w':World)=>r=(if errG d i fld=0 then .tuple #[rangeVal A B,.int .i64 0] else .tuple #[rangeVal 0 0,.int .i64 (errG d i fld)])∧Ext w0 w')=Φ
 show opV _ _ _ ((w0.alloc (.cells (defCells d mv).toArray 24)).alloc (.cells #[.int .i64 0,.int .i64 0] 67)) _
 simp only [World.size_alloc]
 generalize hW:((w0.alloc (.cells (defCells d mv).toArray 24)).alloc (.cells #[.int .i64 0,.int .i64 0] 67))=W
 have e0:Ext w0 W:=by rw [← hW];exact ee
 have o2:W.heap[w0.heap.size]?=some (.cells (defCells d mv).toArray 24 (0,0)):=by rw [← hW];simp (disch:=try exact DI) only [↓PR,QR,simprocAttr]
 have o8:W.heap[w0.heap.size+1]?=some (.cells #[.int .i64 0,.int .i64 0] 67 (0,0)):=by rw [← hW];simp (disch:=try exact DI) only [↓PR,QR,simprocAttr]
 clear hW
 generalize hp8:w0.heap.size+1=p8 at o8 ⊢
 simp (disch:=try exact DI) only [↓PR,QR,simprocAttr,(cells_of_heap o2).1]
 refine callK_ret (planned_ret _ i ⟨_,rfl,hM.ext e0⟩ ht hs hl) ?_
 rintro r1 w1 ⟨hr,e1⟩
 have E1:=e0.trans e1
 have x8:=e1.obj o8
 have s1:=E1.size
 unfold n103c5
 have e8:∀ (w:World) (u0 u1:Value),Ext w0 w→Ext w0 ((w.setCell ⟨p8,0,none⟩ u0).setCell ⟨p8,1,none⟩ u1):=fun w u0 u1 e=>(e.setCell (p:=⟨p8,0,none⟩) (by show w0.heap.size≤p8;omega) _).setCell (p:=⟨p8,1,none⟩) (by show w0.heap.size≤p8;omega) _
 rcases hr with ⟨hE,rfl⟩ | ⟨m,fl,mr,hE,hm,rfl,hF,hMp⟩
 · have hG:errG d i fld=msgE d i:=by unfold errG;rw [if_pos hE]
   have d1:(msgE d i == 0)=false:=by simpa using hE
   have d2:(msgE d i != 0)=true:=by simpa using hE
   have eX:Ext w1 (w1.alloc (.cells #[.string ByteArray.empty,.slice none 0 0,.map none] 105)):=ee
   have y8:=eX.obj x8
   have l8:=(Array.getElem?_eq_some_iff.1 y8).1
   simp (disch:=try exact DI) only [↓PR,QR,simprocAttr,d1,d2,↓n103c4,↓n103c3,↓n103c2,(cells_of_heap y8).1,(cells_of_heap y8).2,(cells_of_heap x8).1,(cells_of_heap x8).2]
   rw [← hΦ]
   exact ⟨by rw [hG,if_neg hE],ee⟩
 · have hF0:=hF
   obtain ⟨A',c',rfl,hlc',hcm',hlm',_⟩:=SliceOf.open hF
   have hL:msgL d i=m.fields:=by unfold msgL;rw [if_pos hE,hm]
   have eX:Ext w1 (w1.alloc (.cells (planCells m (.slice A' m.fields.length c') mr).toArray 105)):=ee
   have oX:=heap_new w1 (planCells m (.slice A' m.fields.length c') mr).toArray 105
   have y8:=eX.obj x8
   have l8:=(Array.getElem?_eq_some_iff.1 y8).1
   have l88:=(Array.getElem?_eq_some_iff.1 x8).1
   by_cases hfl:fld < 0
   · have d1:decide (fld < 0)=true:=decide_eq_true hfl
     have hG:errG d i fld=3:=by unfold errG;rw [if_neg (by simp [hE]),if_pos (.inl hfl)]
     simp (disch:=try exact DI) only [↓PR,QR,simprocAttr,d1,↓n103c4,↓n103c3,↓n103c2,(cells_of_heap y8).1,(cells_of_heap y8).2,(cells_of_heap x8).1,(cells_of_heap x8).2]
     rw [← hΦ]
     exact ⟨by rw [hG];rfl,ee⟩
   have d1:decide (fld < 0)=false:=decide_eq_false hfl
   by_cases hfh:(m.fields.length:Int)≤fld
   · have d2:decide (fld≥(m.fields.length:Int))=true:=decide_eq_true hfh
     have hG:errG d i fld=3:=by unfold errG;rw [if_neg (by simp [hE]),hL,if_pos (.inr hfh)]
     simp (disch:=try exact DI) only [↓PR,QR,simprocAttr,d1,d2,↓n103c4,↓n103c3,↓n103c2,(cells_of_heap y8).1,(cells_of_heap y8).2,(cells_of_heap x8).1,(cells_of_heap x8).2]
     rw [← hΦ]
     exact ⟨by rw [hG];rfl,ee⟩
   have d2:decide (fld≥(m.fields.length:Int))=false:=decide_eq_false hfh
   have hG:errG d i fld=0:=by unfold errG;rw [if_neg (by simp [hE]),hL,if_neg (by omega)]
   have hcc:=hc m hm hG _ _ mr (E1.trans eX) (hF0.ext (e1.trans eX)) (hMp.ext eX)
   simp (disch:=try exact DI) only [↓PR,QR,simprocAttr,d1,d2,↓n103c4,↓n103c3,↓n103c2,↓n103c1]
   rw [callV_func hg]
   refine callK_ret hcc ?_
   rintro _ w2 ⟨rfl,e2⟩
   have z8:=e2.obj y8
   have l9:=(Array.getElem?_eq_some_iff.1 z8).1
   have E2:=(E1.trans eX).trans e2
   simp (disch:=try exact DI) only [↓PR,QR,simprocAttr,(cells_of_heap z8).1,(cells_of_heap z8).2]
   rw [← hΦ]
   exact ⟨by rw [hG];rfl,ee⟩
end
def BSp (sp:List (ByteArray×Int×Int)):Prop:=∀ p∈sp,0≤p.2.1∧p.2.1≤1099511627776∧0≤p.2.2∧p.2.2≤1099511627776
theorem lastR_mem {sp:List (ByteArray×Int×Int)} {s:ByteArray} {q:Int×Int} (h:lastR sp s=some q):(s,q)∈sp:=lastP_mem h
theorem BSp.look {sp:List (ByteArray×Int×Int)} (h:BSp sp) (s:ByteArray):(0≤(lookS sp s).1∧(lookS sp s).1≤1099511627776)∧0≤(lookS sp s).2∧(lookS sp s).2≤1099511627776:=by
 unfold lookS
 cases hl:lastR sp s with
 | none=>decide
 | some q=>have:=h _ (lastR_mem hl);exact ⟨⟨this.1,this.2.1⟩,this.2.2⟩
theorem BSp.choice {sp:List (ByteArray×Int×Int)} (h:BSp sp) (l:List CaseD):(0≤(choiceS sp l).1∧(choiceS sp l).1≤1099511627776)∧0≤(choiceS sp l).2∧(choiceS sp l).2≤1099511627776:=by
 have key:∀ (l:List CaseD) (o:Int×Int),((0≤o.1∧o.1≤1099511627776)∧0≤o.2∧o.2≤1099511627776)→(0≤(l.foldl (stepC sp) o).1∧(l.foldl (stepC sp) o).1≤1099511627776)∧0≤(l.foldl (stepC sp) o).2∧(l.foldl (stepC sp) o).2≤1099511627776:=by
  intro l
  induction l with
  | nil=>exact fun o h=>h
  | cons c l ih =>
   intro o ho
   refine ih _ ?_
   have:=h.look c.of
   unfold stepC minI maxI
   dsimp only
   refine ⟨⟨?_,?_⟩,?_,?_⟩<;>split<;>omega
 cases l with
 | nil=>simp [choiceS]
 | cons c l=>exact key _ _ (h.look c.of)
structure OkV (deps:List (ByteArray×Int)) (l:List FieldD) (f:FieldD):Prop where
 kind:1≤f.kind∧f.kind≤12
 bits:f.kind=1∨f.kind=2→1≤f.bits∧f.bits≤32
 pad:f.kind=10→padB f=true
 num:f.kind=3→0≤f.low∧f.low≤f.high∧f.high≤34359738367
 high5:f.kind=5→0≤f.high∧f.high≤1048576
 high6:f.kind=6→2≤f.high∧f.high≤1048576
 iv:f.kind=4∨f.kind=12∨f.kind=7→0≤ivL l f∧ivL l f≤ivH l f∧ivH l f≤1048576
 terms:∀ t∈f.terms,(lastR (numR l) t.field).isSome=true
 refs:∀ s∈refsF f,(lastP deps s).isSome=true
 cases:f.kind=9→f.cases≠[]
theorem withinS {hi lo n:Int} {l:List Int} (h:withinC hi lo (n::l)=0):lo≤n∧n≤hi∧withinC hi n l=0:=by
 rw [withinC,orC_iff,needC_iff (by decide)] at h
 simp only [Bool.and_eq_true,decide_eq_true_eq] at h
 exact ⟨h.1.1,h.1.2,h.2⟩
theorem names_some {rp:List (ByteArray×Int×Int)} {ts:List TermD} (h:namesC rp ts=0):∀ t∈ts,(lastR rp t.field).isSome=true:=by
 intro t ht
 cases hl:lastR rp t.field with
 | some q=>rfl
 | none=>have:=namesC_bad ht hl;omega
theorem num_more {l bef:List FieldD} (hd:Dist l) (hb:∀ g∈bef,g∈l) {s:ByteArray} (h:(lastR (numR bef) s).isSome=true):lastR (numR bef) s=lastR (numR l) s:=by
 cases h1:lastR (numR bef) s with
 | none=>rw [h1] at h;cases h
 | some q =>
  obtain ⟨g,hg,hn,hs,rfl⟩:=mem_numR.1 (lastR_mem h1)
  cases h2:lastR (numR l) s with
  | none=>exact absurd (mem_numR.2 ⟨g,hb g hg,hn,hs,rfl⟩) (lastR_none.1 h2 _)
  | some q' =>
   obtain ⟨g',hg',hn',hs',rfl⟩:=mem_numR.1 (lastR_mem h2)
   rw [hd.eq (hb g hg) hg' (by rw [hs,hs'])]
theorem iv_order {base:Int} {ts:List TermD} {rp:List (ByteArray×Int×Int)} (hs:sizeB base ts=true) (hin:∀ t∈ts,(lastR rp t.field).isSome=true) (h0:intervalE base ts rp=0):intervalL base ts rp≤intervalH base ts rp:=by
 have hw:∀ t∈ts,wideB (rngT rp t).1 (rngT rp t).2=true:=by
  intro t ht
  cases hw:wideB (rngT rp t).1 (rngT rp t).2 with
  | true=>rfl
  | false =>
   have:=iv_wide hs hin ht hw
   unfold ivOf at this
   rw [h0] at this
   injection this with this
   have:=congrArg Array.toList this
   simp at this
 obtain ⟨h4,he⟩:=iv_fine hs hin hw
 unfold ivOf at he
 injection he with he
 have he:=congrArg Array.toList he
 simp only [List.cons.injEq,Value.int.injEq,true_and,and_true] at he
 obtain ⟨h1,⟨mix,_,h2⟩,_⟩:=mix_least (ts:=ts) (rp:=rp) fun t ht=>⟨hin t ht,h4 t ht⟩
 have:=h1 mix
 rw [h2] at this
 rw [he.1,he.2.1]
 omega
theorem exam_all {bef:List FieldD} {deps:List (ByteArray×Int)} {strs:List (ByteArray×Bool)} {f:FieldD} (h:examineC bef (vI deps) (vB strs) f=0):(1≤f.kind∧f.kind≤12)∧clearK f=bareF f∧checkC bef (vI deps) (vB strs) f=0:=by
 unfold examineC at h
 simp only [orC_iff,needC_iff (show (4:Int)≠0 by decide),needC_iff (show (5:Int)≠0 by decide),decide_eq_true_eq] at h
 exact h.2.2
theorem sized_iv {bef l:List FieldD} (hd:Dist l) (hb:∀ g∈bef,g∈l) {f:FieldD} (h:sizedC (numR bef) f=0):(0≤ivL l f∧ivL l f≤ivH l f∧ivH l f≤1048576)∧∀ t∈f.terms,(lastR (numR l) t.field).isSome=true:=by
 unfold sizedC at h
 simp only [orC_iff,needC_iff (show (9:Int)≠0 by decide)] at h
 obtain ⟨h1,h2,h3⟩:=h
 have hin:=names_some h2
 have hc:=iv_congr (base:=f.base) (fun t ht=>num_more hd hb (hin t ht))
 unfold lenB at h3
 simp only [Bool.and_eq_true,beq_iff_eq,decide_eq_true_eq] at h3
 have ho:=iv_order h1 hin h3.1.1
 unfold ivL ivH
 rw [← hc.2.1,← hc.2.2]
 exact ⟨⟨h3.1.2,ho,h3.2⟩,fun t ht=>by rw [← num_more hd hb (hin t ht)];exact hin t ht⟩
theorem okV_of {bef l:List FieldD} {deps:List (ByteArray×Int)} {strs:List (ByteArray×Bool)} (hds:∀ s,(lastP strs s).isSome=true→(lastP deps s).isSome=true) (hd:Dist l) (hb:∀ g∈bef,g∈l) {f:FieldD} (h:examineC bef (vI deps) (vB strs) f=0):OkV deps l f:=by
 obtain ⟨hk,hcl,hc⟩:=exam_all h
 have hrefs:=examine_refs hds h
 have hA:=okA_of h
 have none:(clearK f).terms=f.terms→∀ t∈f.terms,(lastR (numR l) t.field).isSome=true:=by
  intro he t ht
  rw [← he,hcl] at ht
  cases ht
 have siz:sizedC (numR bef) f=0→(0≤ivL l f∧ivL l f≤ivH l f∧ivH l f≤1048576)∧∀ t∈f.terms,(lastR (numR l) t.field).isSome=true:=sized_iv hd hb
 have hk':f.kind=1∨f.kind=2∨f.kind=3∨f.kind=4∨f.kind=5∨f.kind=6∨f.kind=7∨f.kind=8∨f.kind=9∨f.kind=10∨f.kind=11∨f.kind=12:=by omega
 unfold checkC at hc
 rcases hk' with k | k | k | k | k | k | k | k | k | k | k | k
 · exact ⟨hk,hA.1,hA.2,by omega,by omega,by omega,by omega,none (by unfold clearK;simp [k,clear1]),hrefs,by omega⟩
 · exact ⟨hk,hA.1,hA.2,by omega,by omega,by omega,by omega,none (by unfold clearK;simp [k,clear2]),hrefs,by omega⟩
 · simp only [k] at hc
   obtain ⟨a1,a2,hc⟩:=withinS hc
   obtain ⟨b1,b2,_⟩:=withinS hc
   exact ⟨hk,hA.1,hA.2,fun _=>⟨a1,b1,b2⟩,by omega,by omega,by omega,none (by unfold clearK;simp [k,clear3]),hrefs,by omega⟩
 · simp only [k] at hc
   exact ⟨hk,hA.1,hA.2,by omega,by omega,by omega,fun _=>(siz hc).1,(siz hc).2,hrefs,by omega⟩
 · simp only [k] at hc
   have hc:=(orC_iff.1 hc).2
   obtain ⟨a1,a2,hc⟩:=withinS hc
   exact ⟨hk,hA.1,hA.2,by omega,fun _=>⟨a1,a2⟩,by omega,by omega,none (by unfold clearK;simp [k,clear5]),hrefs,by omega⟩
 · simp only [k] at hc
   obtain ⟨a1,a2,hc⟩:=withinS hc
   exact ⟨hk,hA.1,hA.2,by omega,by omega,fun _=>⟨a1,a2⟩,by omega,none (by unfold clearK;simp [k,clear6]),hrefs,by omega⟩
 · simp only [k] at hc
   have hc:=(orC_iff.1 hc).2
   exact ⟨hk,hA.1,hA.2,by omega,by omega,by omega,fun _=>(siz hc).1,(siz hc).2,hrefs,by omega⟩
 · exact ⟨hk,hA.1,hA.2,by omega,by omega,by omega,by omega,none (by unfold clearK;simp [k,clear8]),hrefs,by omega⟩
 · simp only [k] at hc
   have hc:=(orC_iff.1 (show casesC bef (vI deps) f=0 from hc)).2
   have hc:=(needC_iff (by decide)).1 (orC_iff.1 hc).1
   simp only [Bool.and_eq_true,decide_eq_true_eq] at hc
   exact ⟨hk,hA.1,hA.2,by omega,by omega,by omega,by omega,none (by unfold clearK;simp [k,clear9]),hrefs,fun _ h=>by rw [h] at hc;simp at hc⟩
 · exact ⟨hk,hA.1,hA.2,by omega,by omega,by omega,by omega,none (by unfold clearK;simp [k,clear10]),hrefs,by omega⟩
 · exact ⟨hk,hA.1,hA.2,by omega,by omega,by omega,by omega,none (by unfold clearK;simp [k,clear11]),hrefs,by omega⟩
 · simp only [k] at hc
   have hc:=(orC_iff.1 (orC_iff.1 hc).2).2
   exact ⟨hk,hA.1,hA.2,by omega,by omega,by omega,fun _=>(siz hc).1,(siz hc).2,hrefs,by omega⟩
theorem OkV.okS {deps:List (ByteArray×Int)} {l:List FieldD} {f:FieldD} (h:OkV deps l f) (ht:f.terms.length≤1048576) {sp:List (ByteArray×Int×Int)} (hb:BSp sp):OkS sp l f:=by
 refine ⟨h.kind,fun k=>?_,fun k=>?_,fun k=>?_,fun _=>hb.look _,h.cases,fun k=>?_,ht⟩
 · have:=h.num k;omega
 · have:=h.iv k;omega
 · rcases k with k | k
   · exact h.high5 k
   · have:=h.high6 k;omega
 · have:=padB_bits (h.pad k);omega
theorem groups_in {v:Int} (h0:0≤v) (h:v≤34359738367):0≤((groupsP v.toNat:Nat):Int)*8∧((groupsP v.toNat:Nat):Int)*8≤1099511627776:=by
 have:=groupsP_le 6 v.toNat (by omega) (by decide)
 omega
theorem OkV.span {deps:List (ByteArray×Int)} {l:List FieldD} {f:FieldD} (h:OkV deps l f) {sp:List (ByteArray×Int×Int)} (hb:BSp sp) (h10:f.kind≠10):(0≤(spanF sp l f).1∧(spanF sp l f).1≤1099511627776)∧0≤(spanF sp l f).2∧(spanF sp l f).2≤1099511627776:=by
 unfold spanF
 split
 · rename_i k;have:=h.bits k;dsimp only;omega
 · split
   · rename_i k
     have:=h.num k
     refine ⟨groups_in (by omega) (by omega),?_⟩
     dsimp only
     split
     · decide
     · exact groups_in (by omega) (by omega)
   · split
     · rename_i k
       have:=h.iv (by omega)
       exact ⟨capF_in (by omega),capF_in (by omega)⟩
     · split
       · rename_i k;have:=h.high5 k;dsimp only;omega
       · split
         · rename_i k;have:=h.high6 k;dsimp only;omega
         · split
           · rename_i k
             have:=h.iv (by omega)
             have hl:=hb.look f.of
             exact ⟨capF_in (Int.mul_nonneg (by omega) hl.1.1),capF_in (Int.mul_nonneg (by omega) hl.2.1)⟩
           · split
             · exact hb.look _
             · split
               · exact hb.choice _
               · split<;>decide
theorem okM_of {deps:List (ByteArray×Int)} {l:List FieldD} (h:∀ f∈l,OkV deps l f) (ht:∀ f∈l,f.terms.length≤1048576) {sp:List (ByteArray×Int×Int)} (hb:BSp sp):OkM sp l :=
 ⟨fun f hf=>(h f hf).okS (ht f hf) hb,fun f hf k=>by have:=padB_bits ((h f hf).pad k);omega,fun f hf k=>(h f hf).span hb k⟩
def AllV (l:List MsgD):Prop:=∀ k m,l[k]?=some m→(∀ f∈m.fields,OkV (depsOf (l.take k)) m.fields f)∧1≤m.fields.length∧m.fields.length≤40
theorem Fine.allV {l:List MsgD} (h:Fine l):AllV l:=by
 intro k m hk
 obtain ⟨_,_,h3,h4,_⟩:=next_parts (h.next hk)
 have hF:FineF (depsOf (l.take k)) (strsOf (l.take k)) m.fields:=fun j f hj=>by simpa using fields_all _ _ h4 j f hj
 refine ⟨fun f hf=>?_,h3⟩
 obtain ⟨j,hj⟩:=List.getElem?_of_mem hf
 exact okV_of (ds_of _) hF.dist (fun g hg=>List.mem_of_mem_take hg) (hF j f hj)
theorem spans_in {l:List MsgD} (h:AllV l) (ht:∀ m∈l,∀ f∈m.fields,f.terms.length≤1048576):∀ k,k≤l.length→BSp (spansD (l.take k))
 | 0,_=>fun p hp=>by simp [spansD] at hp
 | k+1,hk=>by
  obtain ⟨m,hm⟩:=getElem?_lt (l:=l) (k:=k) (by omega)
  rw [spansD_step hm]
  intro p hp
  rcases List.mem_append.1 hp with hp | hp
  · exact spans_in h ht k (by omega) p hp
  · simp only [List.mem_singleton] at hp
    subst hp
    have:=posS_in (okM_of (h k m hm).1 (ht m (List.mem_of_getElem? hm)) (spans_in h ht k (by omega))) m.fields.length
    exact ⟨this.1.1,this.1.2,this.2⟩
theorem okD_of {l:List MsgD} (h:AllV l) (ht:∀ m∈l,∀ f∈m.fields,f.terms.length≤1048576):OkD l:=fun k m hm =>
 ⟨okM_of (h k m hm).1 (ht m (List.mem_of_getElem? hm)) (spans_in h ht k (Nat.le_of_lt (List.getElem?_eq_some_iff.1 hm).1)),(h k m hm).2.2⟩
theorem spans_full {l:List MsgD} (h:AllV l) (ht:∀ m∈l,∀ f∈m.fields,f.terms.length≤1048576):BSp (spansD l):=by simpa using spans_in h ht l.length (Nat.le_refl _)
theorem sound_of (d:DefD) (ht:calm d):Sound d :=
 have hc:∀ m∈d.msgs,∀ f∈m.fields,f.terms.length≤1048576:=fun m hm=>(ht m hm).2
 ⟨fun h=>okD_of (check_fine h).2.2.1.allV hc,fun h m hm=>by
  have hV:=(check_fine h).2.2.1.allV
  obtain ⟨k,hk⟩:=List.getElem?_of_mem hm
  exact okM_of (hV k m hk).1 (hc m hm) (spans_full hV hc)⟩
def n98c1 (t4 t8:Value) (R:RT) (w:World):Prop :=
 opV Pg (Instr.extract t8 0) (panK R) w fun t9 w =>
 opV Pg (Instr.extract t8 1) (panK R) w fun t10 w =>
 opU Pg (Instr.storeAt 67 t4 t9) (panK R) w fun w =>
 qW Pg 67 t4 w fun r0 =>
 R (.returned (.tuple #[r0,t10])) w
def n98 (t0 t1:Value) (R:RT) (w:World):Prop :=
 opV Pg (Instr.box 24 t0) (panK R) w fun t2 w =>
 opV Pg (Instr.alloc 67 true (.tuple #[])) (panK R) w fun t4 w =>
 L0 24 t2 R w fun t6 w =>
 callK Pg 65 #[t6,t1,(.int .i64 0),(.func (.func 77) #[] #[])] (panK R) w fun t8 w =>
 n98c1 t4 t8 R w
theorem n98s {t0 t1:Value} {R:RT} {w:World} (h:n98 t0 t1 R w):Calls Pg 39 #[t0,t1] w R:=by
 refine yD Tryz.func39 ?_
 refine zs<|zr<|yv h fun _ w h=>yv h fun _ w h=>zm<|zn<|zk<|zs<|zr<|yv h fun _ w h=>zm<|yc h c65 fun _ w h=>yv h fun _ w h=>yv h fun _ w h=>yu h fun w h=>?_
 exact zm<|zn<|zk<|sim_ret<|body_retCT rfl rfl rfl h
def n96c1 (t4 t13 t14 t15:Value) (C1:World→Prop) (R:RT) (w:World):Prop :=
 callK Pg 78 #[t14,t15,(.func (.func 80) #[] #[])] (panK R) w fun t16 w =>
 C1 w∧(
 opU Pg (Instr.storeAt 67 t4 t16) (panK R) w fun w =>
 turnK w fun C2 w =>
 qW Pg 67 t4 w fun r0 =>
 R (.returned (.tuple #[r0,t13])) w)
def n96c2 (t4 t11:Value) (R:RT) (w:World):Prop :=
 opV Pg (Instr.extract t11 0) (panK R) w fun t12 w =>
 opV Pg (Instr.extract t11 1) (panK R) w fun t13 w =>
 opV Pg (Instr.alloc 67 true (.tuple #[])) (panK R) w fun t6 w =>
 opU Pg (Instr.storeAt 67 t6 t12) (panK R) w fun w =>
 drawK w fun C1 w =>
 qV Pg C1 (Instr.loadAt 67 t6) fun t14 =>
 C0 79 #[(.int .i64 8)] R w fun t15 w =>
 C1 w∧(
 n96c1 t4 t13 t14 t15 C1 R w)
def n96 (t0 t1:Value) (R:RT) (w:World):Prop :=
 opV Pg (Instr.box 24 t0) (panK R) w fun t2 w =>
 opV Pg (Instr.alloc 67 true (.tuple #[])) (panK R) w fun t4 w =>
 L0 24 t2 R w fun t9 w =>
 C0 39 #[t9,t1] R w fun t11 w =>
 n96c2 t4 t11 R w
theorem n96s {t0 t1:Value} {R:RT} {w:World} (h:n96 t0 t1 R w):Calls Pg 40 #[t0,t1] w R:=by
 refine yD Tryz.func40 ?_
 refine zs<|zr<|yv h fun _ w h=>yv h fun _ w h=>zm<|zn<|zk<|zs<|zr<|yv h fun _ w h=>zm<|yc h c39 fun _ w h=>zm<|yv h fun _ w h=>yv h fun _ w h=>?_
 refine yv h fun _ w h=>yu h fun w h=>zm<|zn<|zk<|zs<|yh [5,14,15,16,17] h fun C hC h=>ye 0 hC h fun _ h=>?_
 refine yw 3 hC ?_
 refine yo 1 ?_
 refine yc h c79 fun _ w h=>zn ?_
 obtain ⟨hC,h⟩:=h
 refine ⟨hC,?_⟩
 refine yo 2 ?_
 refine yc h c78 fun _ w h=>zn ?_
 obtain ⟨hC,h⟩:=h
 refine ⟨hC,?_⟩
 refine yq 4 1 ?_
 refine yu h fun w h=>zn ?_
 obtain ⟨C2,hC,h⟩:=h
 refine ⟨C2,hC,?_⟩
 refine yw 5 hC ?_
 exact yz<|zk<|sim_ret<|body_retCT rfl rfl rfl h
def n95c1 (t11:Value) (R:RT) (w:World):Prop :=
 opV Pg (Instr.extract t11 0) (panK R) w fun t12 w =>
 opV Pg (Instr.extract t11 1) (panK R) w fun t13 w =>
 opV Pg (Instr.alloc 67 true (.tuple #[])) (panK R) w fun t6 w =>
 opU Pg (Instr.storeAt 67 t6 t12) (panK R) w fun w =>
 B0 .eql 52 true t13 (.int .i64 0) R w fun t15 w =>
 joinK (fun (t21:Value) (w:World) =>
 pickK t15 t21 (.bool false) fun t22 =>
 R (.returned (.tuple #[t22,t13])) w) fun K1 =>
 guardP t15 true (
 F0 67 t6 0 R w fun t17 w =>
 L0 3 t17 R w fun t18 w =>
 F0 67 t6 1 R w fun t19 w =>
 L0 3 t19 R w fun t20 w =>
 B0 .eql 3 false t18 t20 R w fun t21 w =>
 K1 t21 w) (
 K1 undef w)
def n95 (t0 t1:Value) (R:RT) (w:World):Prop :=
 opV Pg (Instr.box 24 t0) (panK R) w fun t2 w =>
 L0 24 t2 R w fun t9 w =>
 C0 39 #[t9,t1] R w fun t11 w =>
 n95c1 t11 R w
theorem n95s {t0 t1:Value} {R:RT} {w:World} (h:n95 t0 t1 R w):Calls Pg 41 #[t0,t1] w R:=by
 refine yD Tryz.func41 ?_
 refine zs<|zr<|yv h fun _ w h=>zm<|zm<|zn<|zk<|zs<|zr<|yv h fun _ w h=>zm<|yc h c39 fun _ w h=>zm<|yv h fun _ w h=>yv h fun _ w h=>?_
 refine yv h fun _ w h=>yu h fun w h=>zm<|zn<|zk<|zs<|sim_regionG<|yG 3<|zm<|yb h fun _ w h=>zm<|zn<|yg1 5 2 true [17,18,19,20,21] 21 h (fun _ T hT h=>?_) fun σ w h=>?_
 · refine yv h fun _ w h=>yv h fun _ w h=>yv h fun _ w h=>yv h fun _ w h=>yb h fun _ w h=>zn ?_
   exact zt hT h
 exact yG 4<|yp h fun _ h=>zm<|zm<|zm<|zn<|sim_end<|zk<|sim_ret<|body_ret2 rfl rfl rfl h
abbrev spCells (p:ByteArray×Int×Int):List Value:=[.int .i64 p.2.1,.int .i64 p.2.2]
def ESp (_:World) (cs:List Value) (p:ByteArray×Int×Int):Prop:=cs=spCells p
theorem keptSp:Kept ESp:=fun _ _ _ _ _ h=>h
def SpsOf (w:World) (v:Value) (l:List (ByteArray×Int×Int)):Prop:=SliceOf w 2 ESp v l
theorem SpsOf.ext {w w':World} {v:Value} {l:List (ByteArray×Int×Int)} (h:SpsOf w v l) (e:Ext w w'):SpsOf w' v l:=SliceOf.ext keptSp h e
theorem keysP (l:List MsgD):(spansD l).map (·.1)=l.map (·.name):=by
 have key:∀ (l:List MsgD) (a:List (ByteArray×Int×Int)),(l.foldl stepM a).map (·.1)=a.map (·.1)++l.map (·.name):=by
  intro l
  induction l with
  | nil=>intro a;simp
  | cons m l ih=>intro a;rw [List.foldl_cons,ih,stepM,List.map_append];simp
 unfold spansD
 rw [key]
 rfl
theorem spansD_len (l:List MsgD):(spansD l).length=l.length:=by simpa using congrArg List.length (keysP l)
theorem ref_at {l:List MsgD} (hN:DistM l) {s:ByteArray} (h:(lastP (depsOf l) s).isSome=true):∃ j:Nat,idx (fun m=>decide (m.name=s)) l=j∧j < l.length∧(spansD l)[j]?=some (s,lookS (spansD l) s):=by
 rcases first_last (keysP l) hN s with ⟨_,h2⟩ | ⟨k,b,h1,h2,h3,h4⟩
 · obtain ⟨m,hm,hn⟩:=isD.1 h
   have hmem:s∈(spansD l).map (·.1):=by rw [keysP,← hn];exact List.mem_map.2 ⟨m,hm,rfl⟩
   obtain ⟨p,hp,hps⟩:=List.mem_map.1 hmem
   exact absurd hps (lastP_none.1 h2 p hp)
 · refine ⟨k,h1,h2,?_⟩
   have:lookS (spansD l) s=b:=by unfold lookS;rw [show lastR (spansD l) s=some b from h4];rfl
   rw [this]
   exact h3
def n11c1 (t58 t60:Value) (R:RT) (w:World):Prop :=
 pickK t58 t60 (.bool false) fun t61 =>
 joinK (fun (t63:Value) (w:World) =>
 pickK t61 t63 (.bool false) fun t64 =>
 R (.returned t64) w) fun K9 =>
 guardP t61 true (
 C0 62 #[(.int .i64 1),(.int .i64 3),(.int .i64 8),(.int .i64 96)] R w fun t63 w =>
 K9 t63 w) (
 K9 undef w)
def n11c2 (t55 t57:Value) (R:RT) (w:World):Prop :=
 pickK t55 t57 (.bool false) fun t58 =>
 joinK (fun (t60:Value) (w:World) =>
 n11c1 t58 t60 R w) fun K8 =>
 guardP t58 true (
 C0 62 #[(.int .i64 1),(.int .i64 2),(.int .i64 8),(.int .i64 16)] R w fun t60 w =>
 K8 t60 w) (
 K8 undef w)
def n11c3 (t52 t54:Value) (R:RT) (w:World):Prop :=
 pickK t52 t54 (.bool false) fun t55 =>
 joinK (fun (t57:Value) (w:World) =>
 n11c2 t55 t57 R w) fun K7 =>
 guardP t55 true (
 C0 64 #[(.int .i64 1),(.int .i64 2),(.int .i64 8),(.int .i64 8)] R w fun t57 w =>
 K7 t57 w) (
 K7 undef w)
def n11c4 (t48 t51:Value) (R:RT) (w:World):Prop :=
 pickK t48 t51 (.bool false) fun t52 =>
 joinK (fun (t54:Value) (w:World) =>
 n11c3 t52 t54 R w) fun K6 =>
 guardP t52 true (
 C0 64 #[(.int .i64 1),(.int .i64 1),(.int .i64 3),(.int .i64 3)] R w fun t54 w =>
 K6 t54 w) (
 K6 undef w)
def n11c5 (t28 t44 t47:Value) (R:RT) (w:World):Prop :=
 pickK t44 t47 (.bool false) fun t48 =>
 joinK (fun (t51:Value) (w:World) =>
 n11c4 t48 t51 R w) fun K5 =>
 guardP t48 true (
 B0 .eql 52 true t28 (.int .i64 0) R w fun t51 w =>
 K5 t51 w) (
 K5 undef w)
def n11c6 (t27 t28 t39 t43:Value) (R:RT) (w:World):Prop :=
 pickK t39 t43 (.bool false) fun t44 =>
 joinK (fun (t47:Value) (w:World) =>
 n11c5 t28 t44 t47 R w) fun K4 =>
 guardP t44 true (
 opV Pg (Op.unary .not t27) (panK R) w fun t47 w =>
 K4 t47 w) (
 K4 undef w)
def n11c7 (t5 t23 t27 t28 t34 t38:Value) (R:RT) (w:World):Prop :=
 pickK t34 t38 (.bool false) fun t39 =>
 joinK (fun (t43:Value) (w:World) =>
 n11c6 t27 t28 t39 t43 R w) fun K3 =>
 guardP t39 true (
 L0 67 t5 R w fun t41 w =>
 C0 63 #[t41,t23,(.int .i64 56),(.int .i64 152)] R w fun t43 w =>
 K3 t43 w) (
 K3 undef w)
def n11c8 (t3 t5 t18 t23 t27 t28 t29 t33:Value) (R:RT) (w:World):Prop :=
 pickK t29 t33 (.bool false) fun t34 =>
 joinK (fun (t38:Value) (w:World) =>
 n11c7 t5 t23 t27 t28 t34 t38 R w) fun K2 =>
 guardP t34 true (
 L0 67 t3 R w fun t36 w =>
 C0 63 #[t36,t18,(.int .i64 1),(.int .i64 4)] R w fun t38 w =>
 K2 t38 w) (
 K2 undef w)
def n11c9 (t1 t3 t5 t13 t18 t23 t27 t28 t29:Value) (R:RT) (w:World):Prop :=
 joinK (fun (t33:Value) (w:World) =>
 n11c8 t3 t5 t18 t23 t27 t28 t29 t33 R w) fun K1 =>
 guardP t29 true (
 L0 67 t1 R w fun t31 w =>
 C0 63 #[t31,t13,(.int .i64 8),(.int .i64 32)] R w fun t33 w =>
 K1 t33 w) (
 K1 undef w)
def n11c10 (t1 t3 t5 t13 t18 t23 t26:Value) (R:RT) (w:World):Prop :=
 opV Pg (Instr.extract t26 0) (panK R) w fun t27 w =>
 opV Pg (Instr.extract t26 1) (panK R) w fun t28 w =>
 C0 62 #[(.int .i64 0),(.int .i64 1),(.int .i64 0),(.int .i64 24)] R w fun t29 w =>
 n11c9 t1 t3 t5 t13 t18 t23 t27 t28 t29 R w
def n11c11 (t1 t3 t13 t18 t21:Value) (R:RT) (w:World):Prop :=
 opV Pg (Instr.extract t21 0) (panK R) w fun t22 w =>
 opV Pg (Instr.extract t21 1) (panK R) w fun t23 w =>
 opV Pg (Instr.alloc 67 true (.tuple #[])) (panK R) w fun t5 w =>
 opU Pg (Instr.storeAt 67 t5 t22) (panK R) w fun w =>
 C0 61 #[] R w fun t25 w =>
 C0 41 #[t25,(.int .i64 0)] R w fun t26 w =>
 n11c10 t1 t3 t5 t13 t18 t23 t26 R w
def n11c12 (t1 t13 t16:Value) (R:RT) (w:World):Prop :=
 opV Pg (Instr.extract t16 0) (panK R) w fun t17 w =>
 opV Pg (Instr.extract t16 1) (panK R) w fun t18 w =>
 opV Pg (Instr.alloc 67 true (.tuple #[])) (panK R) w fun t3 w =>
 opU Pg (Instr.storeAt 67 t3 t17) (panK R) w fun w =>
 C0 61 #[] R w fun t20 w =>
 C0 39 #[t20,(.int .i64 1)] R w fun t21 w =>
 n11c11 t1 t3 t13 t18 t21 R w
def n11c13 (t11:Value) (R:RT) (w:World):Prop :=
 opV Pg (Instr.extract t11 0) (panK R) w fun t12 w =>
 opV Pg (Instr.extract t11 1) (panK R) w fun t13 w =>
 opV Pg (Instr.alloc 67 true (.tuple #[])) (panK R) w fun t1 w =>
 opU Pg (Instr.storeAt 67 t1 t12) (panK R) w fun w =>
 C0 61 #[] R w fun t15 w =>
 C0 40 #[t15,(.int .i64 0)] R w fun t16 w =>
 n11c12 t1 t13 t16 R w
def n11 (R:RT) (w:World):Prop :=
 C0 61 #[] R w fun t10 w =>
 C0 39 #[t10,(.int .i64 0)] R w fun t11 w =>
 n11c13 t11 R w
theorem n11s {R:RT} {w:World} (h:n11 R w):Calls Pg 32 #[] w R:=by
 refine yD Tryz.func32 ?_
 refine zs<|zr<|zm<|zn<|zk<|zs<|zr<|yc h c61 fun _ w h=>yc h c39 fun _ w h=>zm<|yv h fun _ w h=>yv h fun _ w h=>yv h fun _ w h=>yu h fun w h=>zm ?_
 refine zn<|zk<|zs<|zr<|yc h c61 fun _ w h=>yc h c40 fun _ w h=>zm<|yv h fun _ w h=>yv h fun _ w h=>yv h fun _ w h=>yu h fun w h=>zm<|zn<|zk<|zs ?_
 refine zr<|yc h c61 fun _ w h=>yc h c39 fun _ w h=>zm<|yv h fun _ w h=>yv h fun _ w h=>yv h fun _ w h=>yu h fun w h=>zm<|zn<|zk<|zs<|zr<|yc h c61 fun _ w h=>yc h c41 fun _ w h=>?_
 refine zm<|yv h fun _ w h=>yv h fun _ w h=>zm<|zm<|zn<|zk<|zs<|sim_regionG<|yG 2<|yc h c62 fun _ w h=>zm<|zn<|yg1 3 1 true [31,32,33] 33 h (fun _ T hT h=>?_) fun σ w h=>?_
 · refine yv h fun _ w h=>zm<|yc h c63 fun _ w h=>zn ?_
   exact zt hT h
 refine yG 2<|yp h fun _ h=>zm<|zn<|yg1 3 6 true [36,37,38] 38 h (fun _ T hT h=>?_) fun σ w h=>?_
 · refine yv h fun _ w h=>zm<|yc h c63 fun _ w h=>zn ?_
   exact zt hT h
 refine yG 2<|yp h fun _ h=>zm<|zn<|yg1 3 11 true [41,42,43] 43 h (fun _ T hT h=>?_) fun σ w h=>?_
 · refine yv h fun _ w h=>zm<|yc h c63 fun _ w h=>zn ?_
   exact zt hT h
 refine yG 2<|yp h fun _ h=>zm<|zn<|yg1 2 16 true [46,47] 47 h (fun _ T hT h=>?_) fun σ w h=>?_
 · refine zm<|yv h fun _ w h=>zn ?_
   exact zt hT h
 refine yG 2<|yp h fun _ h=>zm<|zn<|yg1 2 20 true [50,51] 51 h (fun _ T hT h=>?_) fun σ w h=>?_
 · refine zm<|yb h fun _ w h=>zn ?_
   exact zt hT h
 refine yG 2<|yp h fun _ h=>zm<|zn<|yg1 1 24 true [54] 54 h (fun _ T hT h=>?_) fun σ w h=>?_
 · refine yc h c64 fun _ w h=>zn ?_
   exact zt hT h
 refine yG 2<|yp h fun _ h=>zm<|zn<|yg1 1 27 true [57] 57 h (fun _ T hT h=>?_) fun σ w h=>?_
 · refine yc h c64 fun _ w h=>zn ?_
   exact zt hT h
 refine yG 2<|yp h fun _ h=>zm<|zn<|yg1 1 30 true [60] 60 h (fun _ T hT h=>?_) fun σ w h=>?_
 · refine yc h c62 fun _ w h=>zn ?_
   exact zt hT h
 refine yG 2<|yp h fun _ h=>zm<|zn<|yg1 1 33 true [63] 63 h (fun _ T hT h=>?_) fun σ w h=>?_
 · refine yc h c62 fun _ w h=>zn ?_
   exact zt hT h
 exact yG 2<|yp h fun _ h=>zm<|zn<|sim_end<|zk<|sim_ret<|body_ret1 rfl rfl h
def n93c1 (t6 t12:Value) (R:RT) (w:World):Prop :=
 opV Pg (Instr.extract t12 0) (panK R) w fun t13 w =>
 opV Pg (Instr.extract t12 1) (panK R) w fun t14 w =>
 opU Pg (Instr.storeAt 67 t6 t13) (panK R) w fun w =>
 qW Pg 67 t6 w fun r0 =>
 R (.returned (.tuple #[r0,t14])) w
def n93 (t0 t1 t2:Value) (R:RT) (w:World):Prop :=
 opV Pg (Instr.box 24 t0) (panK R) w fun t3 w =>
 opV Pg (Instr.box 3 t2) (panK R) w fun t5 w =>
 opV Pg (Instr.alloc 67 true (.tuple #[])) (panK R) w fun t6 w =>
 L0 24 t3 R w fun t8 w =>
 L0 3 t5 R w fun t10 w =>
 opV Pg (Instr.makeFunc (.func 66) #[] #[t5]) (panK R) w fun t11 w =>
 C0 65 #[t8,t1,t10,t11] R w fun t12 w =>
 n93c1 t6 t12 R w
theorem n93s {t0 t1 t2:Value} {R:RT} {w:World} (h:n93 t0 t1 t2 R w):Calls Pg 33 #[t0,t1,t2] w R:=by
 refine yD Tryz.func33 ?_
 refine zs<|zr<|yv h fun _ w h=>yv h fun _ w h=>yv h fun _ w h=>zm<|zn<|zk<|zs<|zr<|yv h fun _ w h=>zm<|yv h fun _ w h=>yF h fun _ w h=>yc h c65 fun _ w h=>?_
 exact yv h fun _ w h=>yv h fun _ w h=>yu h fun w h=>zm<|zn<|zk<|sim_ret<|body_retCT rfl rfl rfl h
def n100c1 (t6 t12:Value) (R:RT) (w:World):Prop :=
 opV Pg (Instr.extract t12 0) (panK R) w fun t13 w =>
 opV Pg (Instr.extract t12 1) (panK R) w fun t14 w =>
 opU Pg (Instr.storeAt 67 t6 t13) (panK R) w fun w =>
 qW Pg 67 t6 w fun r0 =>
 R (.returned (.tuple #[r0,t14])) w
def n100 (t0 t1 t2:Value) (R:RT) (w:World):Prop :=
 opV Pg (Instr.box 24 t0) (panK R) w fun t3 w =>
 opV Pg (Instr.box 3 t2) (panK R) w fun t5 w =>
 opV Pg (Instr.alloc 67 true (.tuple #[])) (panK R) w fun t6 w =>
 L0 24 t3 R w fun t8 w =>
 L0 3 t5 R w fun t10 w =>
 opV Pg (Instr.makeFunc (.func 68) #[] #[t5]) (panK R) w fun t11 w =>
 C0 65 #[t8,t1,t10,t11] R w fun t12 w =>
 n100c1 t6 t12 R w
theorem n100s {t0 t1 t2:Value} {R:RT} {w:World} (h:n100 t0 t1 t2 R w):Calls Pg 34 #[t0,t1,t2] w R:=by
 refine yD Tryz.func34 ?_
 refine zs<|zr<|yv h fun _ w h=>yv h fun _ w h=>yv h fun _ w h=>zm<|zn<|zk<|zs<|zr<|yv h fun _ w h=>zm<|yv h fun _ w h=>yF h fun _ w h=>yc h c65 fun _ w h=>?_
 exact yv h fun _ w h=>yv h fun _ w h=>yu h fun w h=>zm<|zn<|zk<|sim_ret<|body_retCT rfl rfl rfl h
theorem OwnE.below {α:Type} {w w':World} {lo n:Nat} {T:TypeId} {enc:α→List Value} {v:Value} {l:List α} (h:OwnE w lo T n enc v l) (hh:∀ g:Nat,lo≤g→w'.heap[g]?=w.heap[g]?):OwnE w' lo T n enc v l:=by
 refine ⟨h.1,?_⟩
 rcases h.2 with h2 | ⟨g,cap,cur,h1,h2,h3,h4⟩
 · exact .inl h2
 · exact .inr ⟨g,cap,cur,h1,h2,(hh _ h2).trans h3,h4⟩
theorem OwnE.under {α:Type} {w:World} {lo n:Nat} {T:TypeId} {enc:α→List Value} {v x y:Value} {p o o':Nat} {l:List α} (h:OwnE w lo T n enc v l) (hp:p < lo):OwnE ((w.setCell ⟨p,o,none⟩ x).setCell ⟨p,o',none⟩ y) lo T n enc v l :=
 OwnE.below h fun g hg=>by rw [heap_setE (by omega),heap_setE (by omega)]
def fieldV (d:DefD) (i fld:Int):Int×Int:=match d.msgs[i.toNat]? with
 | none=>(0,0)
 | some m=>match m.fields[fld.toNat]? with
  | none=>(0,0)
  | some f=>spanF (spansD d.msgs) m.fields f
def posV (d:DefD) (i fld:Int):Int×Int:=match d.msgs[i.toNat]? with
 | none=>(0,0)
 | some m=>posS (spansD d.msgs) m.fields fld.toNat
def msgV (d:DefD) (i:Int):Int×Int:=match d.msgs[i.toNat]? with
 | none=>(0,0)
 | some m=>lookS (spansD d.msgs) m.name
def getR (e:Int) (r:Int×Int):Value:=if e=0 then .tuple #[rangeVal r.1 r.2,.int .i64 0] else .tuple #[rangeVal 0 0,.int .i64 e]
theorem errG_zero {d:DefD} {i fld:Int} (h:errG d i fld=0):(checkP d).2.2=0∧∃ (k j:Nat) (m:MsgD) (f:FieldD),i=k∧fld=j∧d.msgs[k]?=some m∧m.fields[j]?=some f:=by
 unfold errG at h
 by_cases hE:msgE d i=0
 · rw [if_neg (by simp [hE])] at h
   obtain ⟨hc,k,m,rfl,hk,hm,hL⟩:=msgE_zero hE
   rw [hL] at h
   by_cases hf:fld < 0∨(m.fields.length:Int)≤fld
   · rw [if_pos hf] at h;exact absurd h (by decide)
   · obtain ⟨f,hfj⟩:=getElem?_lt (l:=m.fields) (k:=fld.toNat) (by omega)
     exact ⟨hc,k,fld.toNat,m,f,rfl,by omega,hm,hfj⟩
 · rw [if_pos hE] at h;exact absurd h hE
section
variable {w0:World} {d:DefD}
theorem field1_ret (w0:World) (m:MsgD) (fl:Value) (mr:Nat) (sp:List (ByteArray×Int×Int)) (p5 j:Nat) (f:FieldD) (hM:MapOf w0 mr (RP sp)) (hF:FieldsOf w0 fl m.fields) (hj:m.fields[j]?=some f) (ok:OkS sp m.fields f) (h5:w0.heap[p5]?=some (.cells #[.int .i64 (j:Int)] 3 (0,0))):Ret Pg 66 #[.agg (planCells m fl mr).toArray,.pointer (some ⟨p5,0,none⟩)] w0 fun r w'=>r=rangeVal (spanF sp m.fields f).1 (spanF sp m.fields f).2∧Ext w0 w':=by
 have hf1:=SliceOf.oneCell hF
 obtain ⟨A,c,rfl,hlc,hcm,hlm,hel⟩:=SliceOf.open hF
 obtain ⟨b,o,cs,rfl,hl,hA,hE⟩:=hel j f hj
 obtain ⟨tv,cv,rfl,hT,hC,ht1,hc1⟩:=hE.op
 have hjl:=(List.getElem?_eq_some_iff.1 hj).1
 have l5:=(Array.getElem?_eq_some_iff.1 h5).1
 refine n94s (R:=retR _) ?_;unfold n94
 simp (disch:=try exact DI) only [↓PR,QR,simprocAttr]
 generalize hW:World.alloc (World.alloc w0 _) _=W
 have e0:Ext w0 W:=by rw [← hW];exact ee
 have o2:W.heap[w0.heap.size]?=some (.cells (planCells m (.slice (some ⟨b,o,none⟩) m.fields.length c) mr).toArray 105 (0,0)):=by rw [← hW];simp (disch:=try exact DI) only [↓PR,QR,simprocAttr]
 have o3:W.heap[w0.heap.size+1]?=some (.cells #[.int .i64 0,.int .i64 0] 67 (0,0)):=by rw [← hW];simp (disch:=try exact DI) only [↓PR,QR,simprocAttr]
 clear hW
 refine drawK_intro ?_
 have eD:Ext W W.drew:=(Ext.refl _).wdrew
 have E:=e0.trans eD
 have x5:=e0.obj h5
 have qi:∀ K:Value→Prop,qV Pg (EC W.drew) (Instr.indexAt 42 (.slice (some ⟨b,o,none⟩) m.fields.length c) (.int .i64 (j:Int))) K=K (.pointer (some ⟨b,o+j*15,none⟩)):=fun K=>qV_of fun QP w' k=>op_indexN Tryz.underlying42 ty38 b o m.fields.length c .i64 j hjl
 have ql:∀ K:Value→Prop,qV Pg (EC W.drew) (Instr.loadAt 38 (.pointer (some ⟨b,o+j*15,none⟩))) K=K (.agg (fieldCells f tv cv).toArray):=fun K=>qV_eqC fun w' e=>run_of_op fun QP k=>op_load ((hA.ext (E.trans e)).loads ty38 rfl)
 unfold n94c1
 simp (disch:=try exact DI) only [↓PR,QR,simprocAttr,(cells_of_heap o2).1,(cells_of_heap x5).1,(cells_of_heap h5).1,qi,hA.c15 e0]
 refine zcr (of_ret _ m _ tv cv mr f sp (hM.ext E) (hF.ext E) (hT.ext E) (hC.ext E) ok) fun w1 e1=>?_
 refine ⟨e1,?_⟩
 have E1:=E.trans e1
 have x3:=e1.obj (eD.obj o3)
 have l3:=(Array.getElem?_eq_some_iff.1 x3).1
 simp (disch:=try exact DI) only [↓PR,QR,simprocAttr,(cells_of_heap x3).1,(cells_of_heap x3).2]
 refine turnK_intro ?_
 simp (disch:=try exact DI) only [↓PR,QR,simprocAttr,(cells_of_heap x3).1]
 exact ⟨by first | trivial | rfl,ee⟩
theorem FieldX_ret (v:Value) (i fld:Int) (hd:DefVal w0 v d) (ht:calm d) (hs:Sound d) (hl:d.msgs.length≤1048576):Ret Pg 33 #[v,.int .i64 i,.int .i64 fld] w0 fun r w'=>r=getR (errG d i fld) (fieldV d i fld)∧Ext w0 w':=by
 obtain ⟨mv,rfl,hM⟩:=hd
 have hm1:=SliceOf.oneCell hM
 refine n93s (R:=retR _) ?_;unfold n93
 simp (disch:=try exact DI) only [↓PR,QR,simprocAttr]
 generalize hW:World.alloc (World.alloc (World.alloc w0 _) _) _=W
 have e0:Ext w0 W:=by rw [← hW];exact ee
 have o5:W.heap[w0.heap.size+1]?=some (.cells #[.int .i64 fld] 3 (0,0)):=by rw [← hW];simp (disch:=try exact DI) only [↓PR,QR,simprocAttr]
 have o6:W.heap[w0.heap.size+1+1]?=some (.cells #[.int .i64 0,.int .i64 0] 67 (0,0)):=by rw [← hW];simp (disch:=try exact DI) only [↓PR,QR,simprocAttr]
 clear hW
 repeat rw [World.size_alloc]
 refine callK_ret (get_ret _ i fld ⟨_,rfl,hM.ext e0⟩ ht hs hl _ _ c66 (fieldV d i fld).1 (fieldV d i fld).2 ?_) ?_
 · intro m hm hG w fl mr e hF hMp
   obtain ⟨hck,k,j,m',f,rfl,rfl,hm',hf⟩:=errG_zero hG
   rw [Int.toNat_natCast] at hm
   rw [hm] at hm'
   injection hm' with hm'
   subst hm'
   have hV:fieldV d k j=spanF (spansD d.msgs) m.fields f:=by unfold fieldV;rw [Int.toNat_natCast,hm];simp only [Int.toNat_natCast,hf]
   rw [hV]
   exact field1_ret w m fl mr _ _ j f hMp hF hf ((hs.full hck m (List.mem_of_getElem? hm)).ok f (List.mem_of_getElem? hf)) (e.obj o5)
 rintro _ w1 ⟨rfl,e1⟩
 have x6:=e1.obj o6
 have E1:=e0.trans e1
 have l6:=(Array.getElem?_eq_some_iff.1 x6).1
 unfold n93c1
 unfold getR
 by_cases hG:errG d i fld=0
 · rw [if_pos hG]
   simp (disch:=try exact DI) only [↓PR,QR,simprocAttr,(cells_of_heap x6).1,(cells_of_heap x6).2]
   exact ⟨by first | trivial | rfl,ee⟩
 · rw [if_neg hG]
   simp (disch:=try exact DI) only [↓PR,QR,simprocAttr,(cells_of_heap x6).1,(cells_of_heap x6).2]
   exact ⟨by first | trivial | rfl,ee⟩
end
def pkR (e:Int) (r:Int×Int):Int×Int:=if e=0 then r else (0,0)
theorem getR_pk (e:Int) (r:Int×Int):getR e r = .tuple #[rangeVal (pkR e r).1 (pkR e r).2,.int .i64 e]:=by
 unfold getR pkR
 by_cases h:e=0
 · rw [if_pos h,if_pos h,h]
 · rw [if_neg h,if_neg h]
section
variable {w0:World} {d:DefD}
theorem pos1_ret (w0:World) (m:MsgD) (fl:Value) (mr:Nat) (sp:List (ByteArray×Int×Int)) (p5 j:Nat) (hM:MapOf w0 mr (RP sp)) (hF:FieldsOf w0 fl m.fields) (hj:j≤m.fields.length) (hl:m.fields.length≤1048576) (ok:OkM sp m.fields) (h5:w0.heap[p5]?=some (.cells #[.int .i64 (j:Int)] 3 (0,0))):Ret Pg 68 #[.agg (planCells m fl mr).toArray,.pointer (some ⟨p5,0,none⟩)] w0 fun r w'=>r=rangeVal (posS sp m.fields j).1 (posS sp m.fields j).2∧Ext w0 w':=by
 have hf1:=SliceOf.oneCell hF
 have l5:=(Array.getElem?_eq_some_iff.1 h5).1
 refine n101s (R:=retR _) ?_;unfold n101
 simp (disch:=try exact DI) only [↓PR,QR,simprocAttr]
 generalize hW:World.alloc (World.alloc w0 _) _=W
 have e0:Ext w0 W:=by rw [← hW];exact ee
 have o3:W.heap[w0.heap.size+1]?=some (.cells #[.int .i64 0,.int .i64 0] 67 (0,0)):=by rw [← hW];simp (disch:=try exact DI) only [↓PR,QR,simprocAttr]
 clear hW
 have x5:=e0.obj h5
 simp (disch:=try exact DI) only [↓PR,QR,simprocAttr,(cells_of_heap x5).1,(cells_of_heap h5).1]
 refine zcr (atS_ret _ m fl mr sp (hM.ext e0) (hF.ext e0) ok j hj hl) fun w1 e1=>?_
 have E1:=e0.trans e1
 have x3:=e1.obj o3
 have l3:=(Array.getElem?_eq_some_iff.1 x3).1
 simp (disch:=try exact DI) only [↓PR,QR,simprocAttr,(cells_of_heap x3).1,(cells_of_heap x3).2]
 exact ⟨by first | trivial | rfl,ee⟩
theorem PositionX_ret (v:Value) (i fld:Int) (hd:DefVal w0 v d) (ht:calm d) (hs:Sound d) (hl:d.msgs.length≤1048576) (hlf:∀ m∈d.msgs,m.fields.length≤1048576):Ret Pg 34 #[v,.int .i64 i,.int .i64 fld] w0 fun r w'=>r=getR (errG d i fld) (posV d i fld)∧Ext w0 w':=by
 obtain ⟨mv,rfl,hM⟩:=hd
 have hm1:=SliceOf.oneCell hM
 refine n100s (R:=retR _) ?_;unfold n100
 simp (disch:=try exact DI) only [↓PR,QR,simprocAttr]
 generalize hW:World.alloc (World.alloc (World.alloc w0 _) _) _=W
 have e0:Ext w0 W:=by rw [← hW];exact ee
 have o5:W.heap[w0.heap.size+1]?=some (.cells #[.int .i64 fld] 3 (0,0)):=by rw [← hW];simp (disch:=try exact DI) only [↓PR,QR,simprocAttr]
 have o6:W.heap[w0.heap.size+1+1]?=some (.cells #[.int .i64 0,.int .i64 0] 67 (0,0)):=by rw [← hW];simp (disch:=try exact DI) only [↓PR,QR,simprocAttr]
 clear hW
 repeat rw [World.size_alloc]
 refine callK_ret (get_ret _ i fld ⟨_,rfl,hM.ext e0⟩ ht hs hl _ _ c68 (posV d i fld).1 (posV d i fld).2 ?_) ?_
 · intro m hm hG w fl mr e hF hMp
   obtain ⟨hck,k,j,m',f,rfl,rfl,hm',hf⟩:=errG_zero hG
   rw [Int.toNat_natCast] at hm
   rw [hm] at hm'
   injection hm' with hm'
   subst hm'
   have hV:posV d k j=posS (spansD d.msgs) m.fields j:=by unfold posV;rw [Int.toNat_natCast,hm];simp only [Int.toNat_natCast]
   rw [hV]
   have hj:=(List.getElem?_eq_some_iff.1 hf).1
   exact pos1_ret w m fl mr _ _ j hMp hF (by omega) (hlf m (List.mem_of_getElem? hm)) (hs.full hck m (List.mem_of_getElem? hm)) (e.obj o5)
 rintro _ w1 ⟨rfl,e1⟩
 have x6:=e1.obj o6
 have E1:=e0.trans e1
 have l6:=(Array.getElem?_eq_some_iff.1 x6).1
 unfold n100c1
 unfold getR
 by_cases hG:errG d i fld=0
 · rw [if_pos hG]
   simp (disch:=try exact DI) only [↓PR,QR,simprocAttr,(cells_of_heap x6).1,(cells_of_heap x6).2]
   exact ⟨by first | trivial | rfl,ee⟩
 · rw [if_neg hG]
   simp (disch:=try exact DI) only [↓PR,QR,simprocAttr,(cells_of_heap x6).1,(cells_of_heap x6).2]
   exact ⟨by first | trivial | rfl,ee⟩
theorem msg1_ret (w0:World) (m:MsgD) (fl:Value) (mr:Nat) (sp:List (ByteArray×Int×Int)) (hM:MapOf w0 mr (RP sp)) (hF:FieldsOf w0 fl m.fields):Ret Pg 77 #[.agg (planCells m fl mr).toArray] w0 fun r w'=>r=rangeVal (lookS sp m.name).1 (lookS sp m.name).2∧Ext w0 w':=by
 have hf1:=SliceOf.oneCell hF
 refine n99s (R:=retR _) ?_;unfold n99
 simp (disch:=try exact DI) only [↓PR,QR,simprocAttr]
 generalize hW:World.alloc (World.alloc w0 _) _=W
 have e0:Ext w0 W:=by rw [← hW];exact ee
 have o3:W.heap[w0.heap.size+1]?=some (.cells #[.int .i64 0,.int .i64 0] 67 (0,0)):=by rw [← hW];simp (disch:=try exact DI) only [↓PR,QR,simprocAttr]
 clear hW
 rw [run_look (hM.ext e0)]
 have l3:=(Array.getElem?_eq_some_iff.1 o3).1
 simp (disch:=try exact DI) only [↓PR,QR,simprocAttr,(cells_of_heap o3).1,(cells_of_heap o3).2]
 exact ⟨by first | trivial | rfl,ee⟩
theorem MessageX_ret (v:Value) (i:Int) (hd:DefVal w0 v d) (ht:calm d) (hs:Sound d) (hl:d.msgs.length≤1048576):Ret Pg 39 #[v,.int .i64 i] w0 fun r w'=>r=getR (errG d i 0) (msgV d i)∧Ext w0 w':=by
 obtain ⟨mv,rfl,hM⟩:=hd
 have hm1:=SliceOf.oneCell hM
 refine n98s (R:=retR _) ?_;unfold n98
 simp (disch:=try exact DI) only [↓PR,QR,simprocAttr]
 generalize hW:World.alloc (World.alloc w0 _) _=W
 have e0:Ext w0 W:=by rw [← hW];exact ee
 have o6:W.heap[w0.heap.size+1]?=some (.cells #[.int .i64 0,.int .i64 0] 67 (0,0)):=by rw [← hW];simp (disch:=try exact DI) only [↓PR,QR,simprocAttr]
 clear hW
 repeat rw [World.size_alloc]
 refine callK_ret (get_ret _ i 0 ⟨_,rfl,hM.ext e0⟩ ht hs hl _ _ c77 (msgV d i).1 (msgV d i).2 ?_) ?_
 · intro m hm hG w fl mr e hF hMp
   have hV:msgV d i=lookS (spansD d.msgs) m.name:=by unfold msgV;rw [hm]
   rw [hV]
   exact msg1_ret w m fl mr _ hMp hF
 rintro _ w1 ⟨rfl,e1⟩
 have x6:=e1.obj o6
 have E1:=e0.trans e1
 have l6:=(Array.getElem?_eq_some_iff.1 x6).1
 unfold n98c1
 unfold getR
 by_cases hG:errG d i 0=0
 · rw [if_pos hG]
   simp (disch:=try exact DI) only [↓PR,QR,simprocAttr,(cells_of_heap x6).1,(cells_of_heap x6).2]
   exact ⟨by first | trivial | rfl,ee⟩
 · rw [if_neg hG]
   simp (disch:=try exact DI) only [↓PR,QR,simprocAttr,(cells_of_heap x6).1,(cells_of_heap x6).2]
   exact ⟨by first | trivial | rfl,ee⟩
theorem FixedX_ret (v:Value) (i:Int) (hd:DefVal w0 v d) (ht:calm d) (hs:Sound d) (hl:d.msgs.length≤1048576):Ret Pg 41 #[v,.int .i64 i] w0 fun r w'=>r = .tuple #[.bool (errG d i 0 == 0&&(msgV d i).1 == (msgV d i).2),.int .i64 (errG d i 0)]∧Ext w0 w':=by
 obtain ⟨mv,rfl,hM⟩:=hd
 have hm1:=SliceOf.oneCell hM
 refine n95s (R:=retR _) ?_;unfold n95
 simp (disch:=try exact DI) only [↓PR,QR,simprocAttr]
 generalize hW:World.alloc w0 _=W
 have e0:Ext w0 W:=by rw [← hW];exact ee
 clear hW
 refine zcr (MessageX_ret _ i ⟨_,rfl,hM.ext e0⟩ ht hs hl) fun w1 e1=>?_
 have E1:=e0.trans e1
 rw [getR_pk]
 unfold n95c1
 by_cases hG:errG d i 0=0
 · have d1:(errG d i 0 == 0)=true:=by simpa using hG
   rw [show pkR (errG d i 0) (msgV d i)=msgV d i by unfold pkR;rw [if_pos hG]]
   simp (disch:=try exact DI) only [↓PR,QR,simprocAttr,d1]
   exact ⟨by first | trivial | rfl,ee⟩
 · have d1:(errG d i 0 == 0)=false:=by simpa using hG
   simp (disch:=try exact DI) only [↓PR,QR,simprocAttr,d1]
   exact ⟨by first | trivial | rfl,ee⟩
theorem LengthX_ret (v:Value) (i:Int) (hd:DefVal w0 v d) (ht:calm d) (hs:Sound d) (hl:d.msgs.length≤1048576) (hb:errG d i 0=0→(0≤(msgV d i).1∧(msgV d i).1≤1099511627776)∧0≤(msgV d i).2∧(msgV d i).2≤1099511627776):Ret Pg 40 #[v,.int .i64 i] w0 fun r w'=>r=getR (errG d i 0) (((msgV d i).1+7).tdiv 8,((msgV d i).2+7).tdiv 8)∧Ext w0 w':=by
 obtain ⟨mv,rfl,hM⟩:=hd
 have hm1:=SliceOf.oneCell hM
 have hp:(0≤(pkR (errG d i 0) (msgV d i)).1∧(pkR (errG d i 0) (msgV d i)).1≤1099511627776)∧0≤(pkR (errG d i 0) (msgV d i)).2∧(pkR (errG d i 0) (msgV d i)).2≤1099511627776:=by
  unfold pkR
  split
  · rename_i h;exact hb h
  · decide
 have hq:pkR (errG d i 0) (((msgV d i).1+7).tdiv 8,((msgV d i).2+7).tdiv 8)=(((pkR (errG d i 0) (msgV d i)).1+7).tdiv 8,((pkR (errG d i 0) (msgV d i)).2+7).tdiv 8):=by unfold pkR;split<;>rfl
 refine n96s (R:=retR _) ?_;unfold n96
 simp (disch:=try exact DI) only [↓PR,QR,simprocAttr]
 generalize hW:World.alloc (World.alloc w0 _) _=W
 have e0:Ext w0 W:=by rw [← hW];exact ee
 have o4:W.heap[w0.heap.size+1]?=some (.cells #[.int .i64 0,.int .i64 0] 67 (0,0)):=by rw [← hW];simp (disch:=try exact DI) only [↓PR,QR,simprocAttr]
 clear hW
 refine zcr (MessageX_ret _ i ⟨_,rfl,hM.ext e0⟩ ht hs hl) fun w1 e1=>?_
 have E1:=e0.trans e1
 rw [getR_pk,getR_pk,hq]
 generalize pkR (errG d i 0) (msgV d i)=q at hp ⊢
 generalize errG d i 0=e
 obtain ⟨a,b⟩:=q
 dsimp only at hp ⊢
 have x4:=e1.obj o4
 unfold n96c2
 simp (disch:=try exact DI) only [↓PR,QR,simprocAttr]
 generalize hV:World.alloc w1 _=V
 have eV:Ext w1 V:=by rw [← hV];exact ee
 have oV:V.heap[w1.heap.size]?=some (.cells #[.int .i64 a,.int .i64 b] 67 (0,0)):=by rw [← hV];exact heap_new _ _ _
 clear hV
 have z4:=eV.obj x4
 have l4:=(Array.getElem?_eq_some_iff.1 z4).1
 have E2:=E1.trans eV
 refine drawK_intro ?_
 have eD:Ext V V.drew:=(Ext.refl _).wdrew
 simp (disch:=try exact DI) only [↓PR,QR,simprocAttr,(cells_of_heap oV).1]
 refine zcr (same_ret _ 8) fun w2 e2=>?_
 refine ⟨e2,?_⟩
 unfold n96c1
 refine zcr (both_ret _ a b 8 8 _ _ _ c80 (fun w _=>len1_ret w a hp.1) (fun w _=>len1_ret w b hp.2)) fun w3 e3=>?_
 refine ⟨e2.trans e3,?_⟩
 have E3:=((E2.trans eD).trans e2).trans e3
 have y4:=e3.obj (e2.obj (eD.obj z4))
 have l44:=(Array.getElem?_eq_some_iff.1 y4).1
 simp (disch:=try exact DI) only [↓PR,QR,simprocAttr,(cells_of_heap y4).1,(cells_of_heap y4).2]
 refine turnK_intro ?_
 simp (disch:=try exact DI) only [↓PR,QR,simprocAttr,(cells_of_heap y4).1,(cells_of_heap y4).2]
 exact ⟨by first | trivial | rfl,ee⟩
end
theorem spans_take (l:List MsgD) {k:Nat} (hk:k≤l.length):(spansD l).take k=spansD (l.take k):=by
 have key:∀ n,k+n≤l.length→(spansD (l.take (k+n))).take k=spansD (l.take k):=by
  intro n
  induction n with
  | zero =>
   intro _
   rw [Nat.add_zero,List.take_of_length_le]
   rw [spansD_len,List.length_take];omega
  | succ n ih =>
   intro h
   obtain ⟨m,hm⟩:=getElem?_lt (l:=l) (k:=k+n) (by omega)
   rw [← Nat.add_assoc,spansD_step hm,stepM,List.take_append_of_le_length (by rw [spansD_len,List.length_take];omega)]
   exact ih (by omega)
 have:=key (l.length - k) (by omega)
 rwa [show k+(l.length - k)=l.length by omega,List.take_length] at this
theorem look_at {l:List MsgD} (hN:DistM l) {k:Nat} {s:ByteArray} {q:Int×Int} (h:(spansD l)[k]?=some (s,q)):lookS (spansD l) s=q:=by
 have hlen:=spansD_len l
 have hk:=(List.getElem?_eq_some_iff.1 h).1
 have nm:∀ (j:Nat) (q:Int×Int),(spansD l)[j]?=some (s,q)→∃ m,l[j]?=some m∧m.name=s:=by
  intro j q hj
  have:=congrArg (fun x=>x[j]?) (keysP l)
  simp only [List.getElem?_map,hj,Option.map_some] at this
  cases hm:l[j]? with
  | none=>rw [hm] at this;simp at this
  | some m=>rw [hm] at this;simp at this;exact ⟨m,rfl,this.symm⟩
 obtain ⟨m,hm,hn⟩:=nm k q h
 rcases first_last (keysP l) hN s with ⟨_,h2⟩ | ⟨j,b,h1,h2,h3,h4⟩
 · exact absurd rfl (lastP_none.1 h2 _ (List.mem_of_getElem? h))
 · obtain ⟨m',hm',hn'⟩:=nm j b h3
   have hjk:j=k:=by
    rcases Nat.lt_trichotomy j k with hl | hl | hl
    · obtain ⟨h5,h6⟩:=List.getElem?_eq_some_iff.1 hm
      obtain ⟨h7,h8⟩:=List.getElem?_eq_some_iff.1 hm'
      exact absurd (by rw [h8,h6,hn,hn']) (List.pairwise_iff_getElem.1 hN j k h7 h5 hl)
    · exact hl
    · obtain ⟨h5,h6⟩:=List.getElem?_eq_some_iff.1 hm
      obtain ⟨h7,h8⟩:=List.getElem?_eq_some_iff.1 hm'
      exact absurd (by rw [h8,h6,hn,hn']) (List.pairwise_iff_getElem.1 hN k j h5 h7 hl)
   subst hjk
   rw [h] at h3
   injection h3 with h3
   injection h3 with _ h3
   unfold lookS
   rw [show lastR (spansD l) s=some b from h4,h3]
   rfl
theorem dist_take {l:List MsgD} (hN:DistM l) (k:Nat):DistM (l.take k):=List.Pairwise.sublist (List.take_sublist k l) hN
theorem look_more {l:List MsgD} (hN:DistM l) {k:Nat} (hk:k≤l.length) {s:ByteArray} (h:(lastP (depsOf (l.take k)) s).isSome=true):lookS (spansD l) s=lookS (spansD (l.take k)) s:=by
 obtain ⟨j,_,hj,hs⟩:=ref_at (dist_take hN k) h
 rw [← spans_take l hk,List.getElem?_take] at hs
 split at hs
 · rw [look_at hN hs,spans_take l hk]
 · cases hs
theorem span_at {l:List MsgD} {k:Nat} {m:MsgD} (hm:l[k]?=some m):(spansD l)[k]?=some (m.name,posS (spansD (l.take k)) m.fields m.fields.length):=by
 have hk:=(List.getElem?_eq_some_iff.1 hm).1
 have h1:(spansD (l.take (k+1)))[k]?=some (m.name,posS (spansD (l.take k)) m.fields m.fields.length):=by
  rw [spansD_step hm,stepM,List.getElem?_append_right (by rw [spansD_len,List.length_take];omega),spansD_len,List.length_take,Nat.min_eq_left (by omega),Nat.sub_self]
  rfl
 rw [← spans_take l (by omega),List.getElem?_take,if_pos (by omega)] at h1
 exact h1
theorem choice_congr {sp sp':List (ByteArray×Int×Int)} (l:List CaseD) (h:∀ c∈l,lookS sp c.of=lookS sp' c.of):choiceS sp l=choiceS sp' l:=by
 have key:∀ (l:List CaseD) (o:Int×Int),(∀ c∈l,lookS sp c.of=lookS sp' c.of)→l.foldl (stepC sp) o=l.foldl (stepC sp') o:=by
  intro l
  induction l with
  | nil=>intro o _;rfl
  | cons c l ih =>
   intro o h
   rw [List.foldl_cons,List.foldl_cons,show stepC sp o c=stepC sp' o c by unfold stepC;rw [h c (List.mem_cons_self ..)]]
   exact ih _ fun x hx=>h x (List.mem_cons_of_mem _ hx)
 cases l with
 | nil=>rfl
 | cons c l =>
  show (c::l).foldl (stepC sp) (lookS sp c.of)=(c::l).foldl (stepC sp') (lookS sp' c.of)
  rw [h c (List.mem_cons_self ..)]
  exact key _ _ h
theorem spanF_congr {sp sp':List (ByteArray×Int×Int)} {l:List FieldD} {f:FieldD} (h:∀ s∈refsF f,lookS sp s=lookS sp' s):spanF sp l f=spanF sp' l f:=by
 unfold spanF
 by_cases k7:f.kind=7
 · have:=h f.of (by unfold refsF;simp [k7]);simp [k7,this]
 by_cases k8:f.kind=8
 · have:=h f.of (by unfold refsF;simp [k8]);simp [k8,this]
 by_cases k9:f.kind=9
 · have:=choice_congr f.cases fun c hc=>h c.of (by unfold refsF;simp [k9];exact ⟨c,hc,rfl⟩)
   simp [k9,this]
 simp [k7,k8,k9]
theorem posS_congr {sp sp':List (ByteArray×Int×Int)} {l:List FieldD} (h:∀ f∈l,∀ s∈refsF f,lookS sp s=lookS sp' s) (k:Nat):posS sp l k=posS sp' l k:=by
 have key:∀ (r:List FieldD) (o:Int×Int),(∀ f∈r,f∈l)→r.foldl (stepQ sp l) o=r.foldl (stepQ sp' l) o:=by
  intro r
  induction r with
  | nil=>intro o _;rfl
  | cons f r ih =>
   intro o hr
   rw [List.foldl_cons,List.foldl_cons,show stepQ sp l o f=stepQ sp' l o f by unfold stepQ;rw [spanF_congr (h f (hr f (List.mem_cons_self ..)))]]
   exact ih _ fun x hx=>hr x (List.mem_cons_of_mem _ hx)
 exact key _ _ fun f hf=>List.mem_of_mem_take hf
theorem Fine.looks {l:List MsgD} (hf:Fine l) {k:Nat} {m:MsgD} (hm:l[k]?=some m):∀ f∈m.fields,∀ s∈refsF f,lookS (spansD l) s=lookS (spansD (l.take k)) s :=
 fun f hfm s hs=>look_more hf.dist (Nat.le_of_lt (List.getElem?_eq_some_iff.1 hm).1) (((hf.allV k m hm).1 f hfm).refs s hs)
theorem Fine.msgV {d:DefD} (hf:Fine d.msgs) {k:Nat} {m:MsgD} (hm:d.msgs[k]?=some m):msgV d k=posS (spansD (d.msgs.take k)) m.fields m.fields.length:=by
 unfold Go.Proofs.YtdfhjlggcdemhaaGreat.msgV
 rw [Int.toNat_natCast,hm]
 exact look_at hf.dist (span_at hm)
theorem Fine.fieldV {d:DefD} (hf:Fine d.msgs) {k j:Nat} {m:MsgD} {f:FieldD} (hm:d.msgs[k]?=some m) (hj:m.fields[j]?=some f):fieldV d k j=spanF (spansD (d.msgs.take k)) m.fields f:=by
 unfold Go.Proofs.YtdfhjlggcdemhaaGreat.fieldV
 rw [Int.toNat_natCast,hm]
 simp only [Int.toNat_natCast,hj]
 exact spanF_congr (hf.looks hm f (List.mem_of_getElem? hj))
theorem Fine.posV {d:DefD} (hf:Fine d.msgs) {k:Nat} (j:Nat) {m:MsgD} (hm:d.msgs[k]?=some m):posV d k j=posS (spansD (d.msgs.take k)) m.fields j:=by
 unfold Go.Proofs.YtdfhjlggcdemhaaGreat.posV
 rw [Int.toNat_natCast,hm]
 simp only [Int.toNat_natCast]
 exact posS_congr (hf.looks hm) j
theorem errG_0 (d:DefD) (i:Int):errG d i 0=msgE d i:=by
 unfold errG
 by_cases h:msgE d i=0
 · rw [if_neg (by simp [h]),h]
   obtain ⟨hc,k,m,rfl,hk,hm,hL⟩:=msgE_zero h
   rw [hL,if_neg]
   have:=((check_fine hc).2.2.1.allV k m hm).2.1
   omega
 · rw [if_pos h]
end Go.Proofs.YtdfhjlggcdemhaaGreat
namespace Go.Sw
open Go.ChangeShapes Go.WideShapes Go.RowKit Go.ChangeAt Go.Deep
theorem list_of {α:Type} {p:Nat→α→Prop}:∀ (n:Nat),(∀ i,i < n→∃ x,p i x)→∃ l:List α,l.length=n∧∀ k x,l[k]?=some x→p k x
 | 0,_=>⟨[],rfl,fun k x h=>by simp at h⟩
 | n+1,h=>by
  obtain ⟨l,hl,hp⟩:=list_of n (fun i hi=>h i (by omega))
  obtain ⟨x,hx⟩:=h n (by omega)
  refine ⟨l++[x],by simp [hl],fun k y hy=>?_⟩
  rw [List.getElem?_append] at hy
  split at hy
  · exact hp k y hy
  · have hk:k=n:=by
     have:=(List.getElem?_eq_some_iff.1 hy).1
     simp at this
     omega
    subst hk
    simp [hl] at hy
    subst hy
    exact hx
section
variable {H:Type} {enc:TypeId×Value→H} {P:Program} {w:World} {base:Nat} {spare:Nat→Bool} {held:Bool}
theorem weightsAll_mem {e:TypeId} {m:Nat} {d:DataW H}:∀ {l:List (DataW H)},d∈l→m∈d.weights P e→m∈DataW.weightsAll P e l
 | [],h,_=>by cases h
 | a::l,h,hm=>by
  rw [DataW.weightsAll,List.mem_append]
  rcases List.mem_cons.1 h with rfl | h
  · exact .inl hm
  · exact .inr (weightsAll_mem h hm)
def Reached (P:Program) (t:TypeId) (d:DataW H):Prop:=∀ m∈d.weights P t,m≤reachBytes
theorem reached_of {ts:List TypeId} {ds:List (DataW H)} (h:(DataW.weightsEach P ts ds).all (· ≤ reachBytes)=true) {j:Nat} {t:TypeId} {d:DataW H} (ht:ts[j]?=some t) (hd:ds[j]?=some d):Reached P t d:=fun m hm=>by
 have:=List.all_eq_true.1 h _ (DataW.weights_mem_each ht hd m hm)
 simpa using this
theorem slice_of_trod {α:Type} {E:World→List Value→α→Prop} {Q:α→Prop} {t e:TypeId} {n fuel:Nat} {cs:List Value} {x:DataW H×List MemPlace} (ht:P.underlying t=some (.slice e)) (hn:P.cellsOf e=n) (hb1:1≤P.bytesOf e) (h0:0 < n)
 (hE:∀ m cs' y,DataW.trod enc P w base spare held m e cs'=some y→Reached P e y.1→∃ x,E w cs' x∧Q x) (h:DataW.trod enc P w base spare held fuel t cs=some x) (hr:Reached P t x.1):∃ v l,cs=[v]∧SliceOf w n E v l∧(∀ x∈l,Q x)∧l.length≤140737488355328:=by
 rcases open_slice ht h with ⟨rfl,_⟩ | ⟨a,len,cap,m,k,D,Pl,rfl,hb,hl,hm,hmm,hx,hel⟩
 · exact ⟨_,[],rfl,SliceOf.nil _ _ _,fun x hx=>by (cases hx),Nat.zero_le _⟩
 · have hlm:len≤m:=by rw [hmm];split<;>omega
   subst hx
   have hw0:=hr ((len+(m - len))*P.bytesOf e) (by simp only [DataW.weights,ht];simp)
   have hlen:len≤140737488355328:=by
    have:len*1≤(len+(m - len))*P.bytesOf e:=Nat.mul_le_mul (by omega) hb1
    simp only [reachBytes] at hw0
    omega
   have hD:∀ i,i < len→Reached P e (D i):=fun i hi q hq=>hr q (by
    simp only [DataW.weights,ht,List.mem_cons,List.mem_append]
    exact .inr (.inl (weightsAll_mem (List.mem_map.2 ⟨i,List.mem_range.2 hi,rfl⟩) hq)))
   obtain ⟨l,hll,hp⟩:=list_of (p:=fun i (x:α)=>∃ cs',w.cells? base (a.add (i*n)) n=some cs'∧E w cs' x∧Q x) len (fun i hi=>by
    obtain ⟨cs',h1,h2⟩:=hel i (by omega)
    rw [hn] at h1
    obtain ⟨x,hx⟩:=hE _ _ _ h2 (hD i hi)
    exact ⟨x,cs',h1,hx⟩)
   refine ⟨_,l,rfl,⟨some a,cap,by rw [hll],by rw [hll];exact hl,by simp only [maxLen] at hm;omega,fun hne=>?_⟩,fun x hx=>?_,by omega⟩
   · obtain ⟨b,o,spot⟩:=a
     have hspot:spot=none:=by
      have:0 < l.length:=List.length_pos_iff.2 hne
      obtain ⟨y,hy⟩:=getElem?_lt this
      obtain ⟨cs',h1,_⟩:=hp 0 y hy
      obtain ⟨_,h2,h3⟩:=World.cells?_some h1
      have h4:=h3 0 h0
      rw [List.getElem?_eq_getElem (by omega)] at h4
      simpa [Addr.add] using World.cell?_spot h4
     subst hspot
     refine ⟨b,o,rfl,fun k x hx=>?_⟩
     obtain ⟨cs',h1,h2,_⟩:=hp k x hx
     obtain ⟨_,h3,h4⟩:=World.cells?_some h1
     refine ⟨cs',h3,fun j v hv=>?_,h2⟩
     have h5:=h4 j (by have:=(List.getElem?_eq_some_iff.1 hv).1;omega)
     rw [hv] at h5
     simpa [Addr.add_lit] using h5
   · obtain ⟨k,hk⟩:=List.getElem?_of_mem hx
     obtain ⟨_,_,_,hq⟩:=hp k x hk
     exact hq
theorem struct_of_trod {fs:Array Field} {t:TypeId} {n fuel:Nat} {cs:List Value} {x:DataW H×List MemPlace} (ht:P.underlying t=some (.struct fs)) (hn:P.cellsOf t=n) (h:DataW.trod enc P w base spare held fuel t cs=some x) (hr:Reached P t x.1) :
 cs.length=n∧∃ m,∀ (i:Nat) (ty off k:Nat),(fs[i]?).map (fun f=>(f.type,f.offset))=some (ty,off)→P.cellsOf ty=k→∃ y,DataW.trod enc P w base spare held m ty ((cs.drop off).take k)=some y∧Reached P ty y.1:=by
 obtain ⟨xs,m,_,rfl,hl,hlen,hf⟩:=DataW.trod_struct ht h
 refine ⟨hl.trans hn,m,fun i ty off k hi hk=>?_⟩
 obtain ⟨f,hfi,he⟩:=Option.map_eq_some_iff.1 hi
 injection he with h1 h2
 subst h1 h2 hk
 have hil:i < xs.length:=by rw [hlen];exact (Array.getElem?_eq_some_iff.1 hfi).1
 refine ⟨xs[i],(hf i f hfi).trans (List.getElem?_eq_getElem hil),fun q hq=>hr q ?_⟩
 simp only [DataW.weights,ht]
 refine DataW.weights_mem_each (j:=i) (t:=f.type) (d:=xs[i].1) ?_ ?_ q hq
 · rw [List.getElem?_map,Array.getElem?_toList,hfi];rfl
 · rw [List.getElem?_map,List.getElem?_eq_getElem hil];rfl
theorem trodAll_stays (hl:laidOutB P=true) {W W':World} (he:Ext W W'):∀ {ts:List TypeId} {vs:List Value} {ds:List (DataW H)} {ps:List MemPlace},(∀ t∈ts,P.readableRec t=true∧t < P.types.size)→(∀ x∈ps,x.block < W.heap.size) →
 DataW.TrodAll enc P W 0 (fun _=>true) true ts vs ds ps→DataW.TrodAll enc P W' 0 (fun b=>decide (b < W.heap.size)) true ts vs ds ps
 | [],_,_,_,_,_,h=>by obtain ⟨rfl,rfl,rfl⟩:=trodAll_nil h;exact trodAll_mk0
 | t::ts,_,_,_,hr,hlt,h=>by
  obtain ⟨v,vs1,d,ds1,a,b,rfl,rfl,rfl,h1,h2⟩:=trodAll_cons h
  refine ⟨a,b,?_,trodAll_stays hl he (fun t ht=>hr t (List.mem_cons_of_mem _ ht)) (fun x hx=>hlt x (List.mem_append_right _ hx)) h2,rfl⟩
  exact Below.trod hl (hr t (List.mem_cons_self ..)).1 (hr t (List.mem_cons_self ..)).2 h1 ⟨he.os,he.tape,he.output,he.size,he.block⟩ (fun x hx=>hlt x (List.mem_append_left _ hx))
theorem law_post {f:Func} {s:ChangeSpec} {W W':World} {args:Array Value} {ds gs:List (DataW H)} {before:List MemPlace} {tb:TypeId} (hl:laidOutB P=true) (hr:∀ t∈f.params.toList,P.readableRec t=true∧t < P.types.size) (hs:s.vars=[])
 (hW:DataW.Whole enc P f.params.toList s.vars false W args.toList ds gs before) (he:Ext W W') (hres:f.resultTypes = #[tb]) (htb:P.underlying tb=some .bool) (hfn:(s.fn H ds).results=[.lit (.bool true)]) (hargs:(s.fn H ds).args=ds) (hvars:(s.fn H ds).vars=[]) :
 s.post enc P f false true false false W args (.bool true) W':=by
 have hW':=hW
 obtain ⟨p,q,hA,hV,rfl,_,_⟩:=hW
 rw [hs] at hV
 obtain ⟨rfl,rfl⟩:=trodVars_none hV
 have hlt:∀ x∈p,x.block < W.heap.size:=fun x hx=>hW'.lt x (by simpa using hx)
 rw [List.append_nil] at hW'
 refine ⟨ds,[],p,[],p,[],hW',?_,?_,?_,Below.frame ⟨he.os,he.tape,he.output,he.size,he.block⟩ _,fun h=>by cases h⟩
 · rw [List.append_nil,hfn,hres]
   exact trodAll_mk1 (shut_bool htb _)
 · rw [List.append_nil,hargs]
   exact trodAll_stays hl he hr hlt hA
 · rw [List.append_nil,hvars,hs]
   exact rfl
end
end Go.Sw
namespace Go.Proofs.YtdfhjlggcdemhaaGreat
open Sw
open Go.ChangeShapes Go.WideShapes Go.RowKit Go.ChangeAt Go.Deep
theorem cellsTerm:Pg.cellsOf 121=2:=by kernel_rfl
theorem cellsCase:Pg.cellsOf 116=3:=by kernel_rfl
theorem cellsSize:Pg.cellsOf 35=2:=by kernel_rfl
theorem cellsField:Pg.cellsOf 38=15:=by kernel_rfl
theorem cellsMessage:Pg.cellsOf 44=2:=by kernel_rfl
theorem cellsDefinition:Pg.cellsOf 24=3:=by kernel_rfl
theorem cellsString:Pg.cellsOf 9=1:=by kernel_rfl
theorem cellsInt:Pg.cellsOf 3=1:=by kernel_rfl
theorem cellsBool:Pg.cellsOf 4=1:=by kernel_rfl
theorem cellsKind:Pg.cellsOf 32=1:=by kernel_rfl
theorem cellsTerms:Pg.cellsOf 33=1:=by kernel_rfl
theorem cellsCases:Pg.cellsOf 36=1:=by kernel_rfl
theorem cellsFields:Pg.cellsOf 42=1:=by kernel_rfl
theorem bytesTerm:1≤Pg.bytesOf 121:=Nat.le_of_ble_eq_true (by kernel_rfl)
theorem bytesCase:1≤Pg.bytesOf 116:=Nat.le_of_ble_eq_true (by kernel_rfl)
theorem bytesField:1≤Pg.bytesOf 38:=Nat.le_of_ble_eq_true (by kernel_rfl)
theorem bytesMessage:1≤Pg.bytesOf 44:=Nat.le_of_ble_eq_true (by kernel_rfl)
def FieldSm (f:FieldD):Prop:=f.terms.length≤140737488355328∧f.cases.length≤140737488355328∧∀ c∈f.cases,c.of.size≤140737488355328
def MsgSm (m:MsgD):Prop:=m.fields.length≤140737488355328∧∀ f∈m.fields,FieldSm f
def DefSm (d:DefD):Prop:=d.msgs.length≤140737488355328∧∀ m∈d.msgs,MsgSm m
theorem cellsMessages:Pg.cellsOf 22=1:=by kernel_rfl
section
variable {H:Type} {enc:TypeId×Value→H} {w:World} {base:Nat} {spare:Nat→Bool} {held:Bool}
theorem term_of {m:Nat} {cs:List Value} {y:DataW H×List MemPlace} (h:DataW.trod enc Pg w base spare held m 121 cs=some y) (hr:Reached Pg 121 y.1):∃ x,ETerm w cs x:=by
 obtain ⟨hl,n,hf⟩:=struct_of_trod Tryz.underlying121 cellsTerm h hr
 obtain ⟨y0,h0,r0⟩:=hf 0 9 0 1 rfl cellsString
 obtain ⟨y1,h1,r1⟩:=hf 1 3 1 1 rfl cellsInt
 match cs,hl with
 | [c0,c1],_ =>
  obtain ⟨s,e0,_⟩:=DataW.trod_string Tryz.underlying9 h0
  obtain ⟨k,e1,_⟩:=DataW.trod_int Tryz.underlying3 h1
  simp at e0 e1
  subst e0 e1
  exact ⟨⟨s,k⟩,rfl⟩
theorem case_of {m:Nat} {cs:List Value} {y:DataW H×List MemPlace} (h:DataW.trod enc Pg w base spare held m 116 cs=some y) (hr:Reached Pg 116 y.1):∃ x,ECase w cs x∧x.of.size≤140737488355328:=by
 obtain ⟨hl,n,hf⟩:=struct_of_trod Tryz.underlying116 cellsCase h hr
 obtain ⟨y0,h0,r0⟩:=hf 0 3 0 1 rfl cellsInt
 obtain ⟨y1,h1,r1⟩:=hf 1 3 1 1 rfl cellsInt
 obtain ⟨y2,h2,r2⟩:=hf 2 9 2 1 rfl cellsString
 match cs,hl with
 | [c0,c1,c2],_ =>
  obtain ⟨a,e0,_⟩:=DataW.trod_int Tryz.underlying3 h0
  obtain ⟨b,e1,_⟩:=DataW.trod_int Tryz.underlying3 h1
  obtain ⟨s,e2,e3,_⟩:=DataW.trod_string Tryz.underlying9 h2
  simp at e0 e1 e2
  subst e0 e1 e2
  refine ⟨⟨a,b,s⟩,rfl,?_⟩
  have:=r2 s.data.toList.length (by rw [e3];exact List.mem_singleton.2 rfl)
  simp only [reachBytes] at this
  have h4:s.size=s.data.toList.length:=Array.length_toList.symm
  show s.size≤_
  omega
theorem size_of {m:Nat} {cs:List Value} {y:DataW H×List MemPlace} (h:DataW.trod enc Pg w base spare held m 35 cs=some y) (hr:Reached Pg 35 y.1):∃ b tv ts,cs=[.int .i64 b,tv]∧TermsOf w tv ts∧ts.length≤140737488355328:=by
 obtain ⟨hl,n,hf⟩:=struct_of_trod Tryz.underlying35 cellsSize h hr
 obtain ⟨y0,h0,r0⟩:=hf 0 3 0 1 rfl cellsInt
 obtain ⟨y1,h1,r1⟩:=hf 1 33 1 1 rfl cellsTerms
 match cs,hl with
 | [c0,c1],_ =>
  obtain ⟨a,e0,_⟩:=DataW.trod_int Tryz.underlying3 h0
  obtain ⟨v,l,e1,hS,_,hL⟩:=slice_of_trod (E:=ETerm) (Q:=fun _=>True) Tryz.underlying33 cellsTerm bytesTerm (by decide) (fun _ _ _ h hr=>let ⟨x,hx⟩:=term_of h hr; ⟨x,hx,trivial⟩) h1 r1
  simp at e0 e1
  subst e0 e1
  exact ⟨a,_,l,rfl,hS,hL⟩
theorem field_of {m:Nat} {cs:List Value} {y:DataW H×List MemPlace} (h:DataW.trod enc Pg w base spare held m 38 cs=some y) (hr:Reached Pg 38 y.1):∃ x,EField w cs x∧FieldSm x:=by
 obtain ⟨hl,n,hf⟩:=struct_of_trod Tryz.underlying38 cellsField h hr
 obtain ⟨y0,h0,r0⟩:=hf 0 9 0 1 rfl cellsString
 obtain ⟨y1,h1,r1⟩:=hf 1 32 1 1 rfl cellsKind
 obtain ⟨y2,h2,r2⟩:=hf 2 3 2 1 rfl cellsInt
 obtain ⟨y3,h3,r3⟩:=hf 3 4 3 1 rfl cellsBool
 obtain ⟨y4,h4,r4⟩:=hf 4 4 4 1 rfl cellsBool
 obtain ⟨y5,h5,r5⟩:=hf 5 3 5 1 rfl cellsInt
 obtain ⟨y6,h6,r6⟩:=hf 6 3 6 1 rfl cellsInt
 obtain ⟨y7,h7,r7⟩:=hf 7 35 7 2 rfl cellsSize
 obtain ⟨y8,h8,r8⟩:=hf 8 9 9 1 rfl cellsString
 obtain ⟨y9,h9,r9⟩:=hf 9 9 10 1 rfl cellsString
 obtain ⟨y10,h10,r10⟩:=hf 10 9 11 1 rfl cellsString
 obtain ⟨y11,h11,r11⟩:=hf 11 36 12 1 rfl cellsCases
 obtain ⟨y12,h12,r12⟩:=hf 12 3 13 1 rfl cellsInt
 obtain ⟨y13,h13,r13⟩:=hf 13 3 14 1 rfl cellsInt
 match cs,hl with
 | [c0,c1,c2,c3,c4,c5,c6,c7,c8,c9,c10,c11,c12,c13,c14],_ =>
  obtain ⟨x0,e0,_⟩:=DataW.trod_string Tryz.underlying9 h0
  obtain ⟨x1,e1,_⟩:=DataW.trod_int Tryz.underlying32 h1
  obtain ⟨x2,e2,_⟩:=DataW.trod_int Tryz.underlying3 h2
  obtain ⟨x3,e3,_⟩:=DataW.trod_bool Tryz.underlying4 h3
  obtain ⟨x4,e4,_⟩:=DataW.trod_bool Tryz.underlying4 h4
  obtain ⟨x5,e5,_⟩:=DataW.trod_int Tryz.underlying3 h5
  obtain ⟨x6,e6,_⟩:=DataW.trod_int Tryz.underlying3 h6
  obtain ⟨x7,tv,ts,e7,hT,hTl⟩:=size_of h7 r7
  obtain ⟨x9,e9,_⟩:=DataW.trod_string Tryz.underlying9 h8
  obtain ⟨x10,e10,_⟩:=DataW.trod_string Tryz.underlying9 h9
  obtain ⟨x11,e11,_⟩:=DataW.trod_string Tryz.underlying9 h10
  obtain ⟨cv,l,e12,hC,hCq,hCl⟩:=slice_of_trod (E:=ECase) (Q:=fun c=>c.of.size≤140737488355328) Tryz.underlying36 cellsCase bytesCase (by decide) (fun _ _ _ h hr=>case_of h hr) h11 r11
  obtain ⟨x13,e13,_⟩:=DataW.trod_int Tryz.underlying3 h12
  obtain ⟨x14,e14,_⟩:=DataW.trod_int Tryz.underlying3 h13
  simp at e0 e1 e2 e3 e4 e5 e6 e7 e9 e10 e11 e12 e13 e14
  obtain ⟨e7,e8⟩:=e7
  subst e0 e1 e2 e3 e4 e5 e6 e7 e8 e9 e10 e11 e12 e13 e14
  exact ⟨⟨x0,x1,x2,x3,x4,x5,x6,x7,ts,x9,x10,x11,l,x13,x14⟩,⟨_,_,rfl,hT,hC⟩,hTl,hCl,hCq⟩
theorem msg_of {m:Nat} {cs:List Value} {y:DataW H×List MemPlace} (h:DataW.trod enc Pg w base spare held m 44 cs=some y) (hr:Reached Pg 44 y.1):∃ x,EMsg w cs x∧MsgSm x:=by
 obtain ⟨hl,n,hf⟩:=struct_of_trod Tryz.underlying44 cellsMessage h hr
 obtain ⟨y0,h0,r0⟩:=hf 0 9 0 1 rfl cellsString
 obtain ⟨y1,h1,r1⟩:=hf 1 42 1 1 rfl cellsFields
 match cs,hl with
 | [c0,c1],_ =>
  obtain ⟨a,e0,_⟩:=DataW.trod_string Tryz.underlying9 h0
  obtain ⟨v,l,e1,hS,hQ,hL⟩:=slice_of_trod (E:=EField) (Q:=FieldSm) Tryz.underlying42 cellsField bytesField (by decide) (fun _ _ _ h hr=>field_of h hr) h1 r1
  simp at e0 e1
  subst e0 e1
  exact ⟨⟨a,l⟩,⟨_,rfl,hS⟩,hL,hQ⟩
theorem def_of {m:Nat} {cs:List Value} {y:DataW H×List MemPlace} (h:DataW.trod enc Pg w base spare held m 24 cs=some y) (hr:Reached Pg 24 y.1):∃ d mv,cs=defCells d mv∧MsgsOf w mv d.msgs∧DefSm d:=by
 obtain ⟨hl,n,hf⟩:=struct_of_trod Tryz.underlying24 cellsDefinition h hr
 obtain ⟨y0,h0,r0⟩:=hf 0 9 0 1 rfl cellsString
 obtain ⟨y1,h1,r1⟩:=hf 1 22 1 1 rfl cellsMessages
 obtain ⟨y2,h2,r2⟩:=hf 2 9 2 1 rfl cellsString
 match cs,hl with
 | [c0,c1,c2],_ =>
  obtain ⟨a,e0,_⟩:=DataW.trod_string Tryz.underlying9 h0
  obtain ⟨v,l,e1,hS,hQ,hL⟩:=slice_of_trod (E:=EMsg) (Q:=MsgSm) Tryz.underlying22 cellsMessage bytesMessage (by decide) (fun _ _ _ h hr=>msg_of h hr) h1 r1
  obtain ⟨b,e2,_⟩:=DataW.trod_string Tryz.underlying9 h2
  simp at e0 e1 e2
  subst e0 e1 e2
  exact ⟨⟨a,l,b⟩,_,rfl,hS,hL,hQ⟩
theorem def_val {r:Reach} {b0:Nat} {v:Value} {d:DataW H} {ps:List MemPlace} (hval:Value.okWide Pg w r b0 24 v) (h:DataW.Trod enc Pg w base spare held 24 v d ps) (hr:Reached Pg 24 d):∃ f,DefVal w v f∧DefSm f:=by
 obtain ⟨cs,rfl,_⟩:=okWide_struct Tryz.underlying24 hval
 obtain ⟨fuel,hf⟩:=h
 obtain ⟨f,tv,h1,h2,hs⟩:=def_of hf hr
 exact ⟨f,⟨tv,congrArg Value.agg (by rw [← h1,cells_agg]),h2⟩,hs⟩
end
end Go.Proofs.YtdfhjlggcdemhaaGreat
namespace Go.Proofs.YtdfhjlggcdemhaaGreat
open Sw
open Go.RowKit (intOf Below)
def sumF (l:List MsgD):Nat:=(l.map fun m=>m.fields.length).sum
def okF (f:FieldD):Prop:=f.cases.length≤50∧f.terms.length≤10
def fitsP (d:DefD):Prop:=d.msgs.length≤70∧sumF d.msgs≤400∧∀ m∈d.msgs,∀ f∈m.fields,okF f
theorem sumF_take {l:List MsgD} {k:Nat} {x:MsgD} (hx:l[k]?=some x):sumF (l.take (k+1))=sumF (l.take k)+x.fields.length:=by
 rw [take_snoc hx];simp [sumF]
theorem le_sumF {l:List MsgD} {m:MsgD} (h:m∈l):m.fields.length≤sumF l:=by
 unfold sumF
 induction l with
 | nil=>cases h
 | cons a l ih =>
  rcases List.mem_cons.1 h with rfl | h
  · simp
  · have:=ih h;simp at this ⊢;omega
theorem forall_take {α:Type} {p:α→Prop} {l:List α} {k:Nat} {x:α} (h:∀ y∈l.take k,p y) (hx:l[k]?=some x) (hp:p x):∀ y∈l.take (k+1),p y:=by
 rw [take_snoc hx]
 intro y hy
 rcases List.mem_append.1 hy with hy | hy
 · exact h y hy
 · simp only [List.mem_singleton] at hy;subst hy;exact hp
theorem refsF_len {f:FieldD} (h:okF f):(refsF f).length≤50:=by
 unfold refsF
 split
 · simp
 · split
   · simpa using h.1
   · simp
theorem allRefs_len:∀ {l:List FieldD},(∀ f∈l,okF f)→(allRefs l).length≤l.length*50
 | [],_=>by simp [allRefs]
 | f::l,h=>by
  have h1:=refsF_len (h f (List.mem_cons_self ..))
  have h2:=allRefs_len (l:=l) (fun g hg=>h g (List.mem_cons_of_mem _ hg))
  unfold allRefs at *
  rw [List.flatMap_cons,List.length_append,List.length_cons]
  omega
theorem fits_calm {d:DefD} (h:fitsP d):calm d:=fun m hm=>by
 have h1:=le_sumF hm
 have h2:=h.2.1
 have h3:=allRefs_len (h.2.2 m hm)
 exact ⟨by omega,fun f hf=>by have:=(h.2.2 m hm f hf).2;omega⟩
def n7c1 (t6 t23:Value) (next3:KV) (R:RT) (w:World):Prop :=
 X0 42 t23 t6 R w fun t38 w =>
 F0 38 t38 11 R w fun t39 w =>
 L0 36 t39 R w fun t40 w =>
 opV Pg (Builtin.len_ #[36] 3 #[t40]) (panK R) w fun t41 w =>
 B0 .gtr 3 true t41 (.int .i64 50) R w fun t42 w =>
 joinK (fun (t51:Value) (w:World) =>
 pickK t42 (.bool true) t51 fun t52 =>
 condP t52 (
 R (.returned (.bool false)) w) (
 B0 .add 3 true t6 (.int .i64 1) R w fun t35 w =>
 next3 t35 w)) fun K4 =>
 guardP t42 false (
 X0 42 t23 t6 R w fun t46 w =>
 F0 38 t46 7 R w fun t47 w =>
 F0 35 t47 1 R w fun t48 w =>
 L0 33 t48 R w fun t49 w =>
 opV Pg (Builtin.len_ #[33] 3 #[t49]) (panK R) w fun t50 w =>
 B0 .gtr 3 true t50 (.int .i64 10) R w fun t51 w =>
 K4 t51 w) (
 K4 undef w)
def n7c2 (t4 t6 t23 t27:Value) (next1:KW) (next3:KV) (R:RT) (w:World):Prop :=
 opV Pg (Builtin.len_ #[42] 3 #[t23]) (panK R) w fun t32 w =>
 B0 .lss 3 false t6 t32 R w fun t33 w =>
 condP t33 (
 n7c1 t6 t23 next3 R w) (
 B0 .add 3 true t4 (.int .i64 1) R w fun t17 w =>
 next1 t27 t17 w)
def n7c3 (t1:Value) (R:RT) (w:World):Prop :=
 F0 24 t1 1 R w fun t53 w =>
 L0 22 t53 R w fun t54 w =>
 opV Pg (Builtin.len_ #[22] 3 #[t54]) (panK R) w fun t55 w =>
 B0 .leq 3 true t55 (.int .i64 70) R w fun t56 w =>
 R (.returned t56) w
def n7c4 (t1 t3 t4:Value) (next1:KW) (R:RT) (w:World):Prop :=
 F0 24 t1 1 R w fun t18 w =>
 L0 22 t18 R w fun t19 w =>
 X0 22 t19 t4 R w fun t21 w =>
 F0 44 t21 1 R w fun t22 w =>
 L0 42 t22 R w fun t23 w =>
 opV Pg (Builtin.len_ #[42] 3 #[t23]) (panK R) w fun t26 w =>
 B0 .add 3 false t3 t26 R w fun t27 w =>
 B0 .gtr 3 true t27 (.int .i64 400) R w fun t29 w =>
 condP t29 (
 R (.returned (.bool false)) w) (
 loop1 (fun t6 w next3 =>
 n7c2 t4 t6 t23 t27 next1 next3 R w) (.int .i64 0) w)
def n7c5 (t1 t3 t4:Value) (next1:KW) (R:RT) (w:World):Prop :=
 F0 24 t1 1 R w fun t8 w =>
 L0 22 t8 R w fun t9 w =>
 opV Pg (Builtin.len_ #[22] 3 #[t9]) (panK R) w fun t10 w =>
 B0 .lss 3 false t4 t10 R w fun t11 w =>
 joinK (fun (t14:Value) (w:World) =>
 pickK t11 t14 (.bool false) fun t15 =>
 condP t15 (
 n7c4 t1 t3 t4 next1 R w) (
 n7c3 t1 R w)) fun K2 =>
 guardP t11 true (
 B0 .leq 3 true t4 (.int .i64 70) R w fun t14 w =>
 K2 t14 w) (
 K2 undef w)
def n7 (t0:Value) (R:RT) (w:World):Prop :=
 opV Pg (Instr.box 24 t0) (panK R) w fun t1 w =>
 loop2 (fun t3 t4 w next1 =>
 n7c5 t1 t3 t4 next1 R w) (.int .i64 0) (.int .i64 0) w
set_option maxHeartbeats 40000000 in
theorem n7s {t0:Value} {R:RT} {w:World} (h:n7 t0 R w):Calls Pg 31 #[t0] w R:=by
 refine yD Tryz.func31 ?_
 refine zs<|zr<|yv h fun _ w h=>zm<|zn<|zk<|zs<|zr<|zm<|zn<|zk<|zs<|zs<|zr<|zm ?_
 refine zn<|zk<|sim_block<|yl2 [2,3,4,5,6,7,8,9,10,11,12,13,14,15,16,17,18,19,20,21,22,23,24,25,26,27,28,29,30,31,32,33,34,35,36,37,38,39,40,41,42,43,44,45,46,47,48,49,50,51,52] 3 4 h fun σ w next h=>zs<|zs<|sim_regionG<|yG 6<|zm<|yv h fun _ w h=>yv h fun _ w h=>yx h fun _ w h=>yb h fun _ w h=>zm<|zn ?_
 refine yg1 2 5 true [13,14] 14 h (fun _ T hT h=>?_) fun σ w h=>?_
 · refine zm<|yb h fun _ w h=>zn ?_
   exact zt hT h
 refine yG 1<|yp h fun _ h=>zn<|sim_end<|zk<|yC h (fun h=>?_) fun h=>?_
 · refine sim_skip<|zk<|zs<|sim_block<|zs<|zr<|yv h fun _ w h=>yv h fun _ w h=>zm<|yv h fun _ w h=>yv h fun _ w h=>yv h fun _ w h=>zm<|zn<|zk ?_
   refine zs<|zr<|zm<|zm<|yx h fun _ w h=>yb h fun _ w h=>zm<|zn<|zk<|zs<|zs<|zr<|zm<|yb h fun _ w h=>zn ?_
   refine zk<|yC h (fun h=>zs<|zr<|zm<|zn<|zk<|sim_ret<|sim_then_ret<|sim_block_ret<|sim_then_ret<|sim_then_ret<|sim_block_ret<|sim_then_ret<|body_ret1 rfl rfl h) fun h=>sim_skip<|zk<|zs<|zr<|zm<|zn<|zk<|sim_block<|yl1 [2,6,30,31,32,33,34,35,36,37,38,39,40,41,42,43,44,45,46,47,48,49,50,51,52] 6 h fun σ w next h=>zs<|zs<|zr ?_
   refine zm<|zm<|yx h fun _ w h=>yb h fun _ w h=>zn<|zk<|yC h (fun h=>?_) fun h=>?_
   · refine sim_skip<|zk<|zs<|sim_block<|zs<|sim_regionG<|yG 8<|zm<|zm<|yv h fun _ w h=>yv h fun _ w h=>yv h fun _ w h=>yx h fun _ w h=>yb h fun _ w h=>zm ?_
     refine zn<|yg1 8 7 false [44,45,46,47,48,49,50,51] 51 h (fun _ T hT h=>?_) fun σ w h=>?_
     · refine zm<|zm<|yv h fun _ w h=>yv h fun _ w h=>yv h fun _ w h=>yv h fun _ w h=>yx h fun _ w h=>yb h fun _ w h=>zn ?_
       exact zt hT h
     refine yG 1<|yp h fun _ h=>zn<|sim_end<|zk<|yC h (fun h=>?_) fun h=>?_
     · refine zs<|zr<|zm<|zn<|zk<|sim_ret<|sim_block_ret<|sim_then_ret<|sim_then_ret<|sim_block_ret<|sim_block_ret<|sim_then_ret<|sim_then_ret<|sim_block_ret<|sim_then_ret ?_
       exact body_ret1 rfl rfl h
     exact sim_skip<|sim_block_normal<|zk<|zr<|zm<|yb h fun _ w h=>zm<|zn<|zk<|⟨rfl,h⟩
   exact sim_exit<|sim_then_exit<|sim_then_exit<|sim_block_hit<|sim_block_normal<|zk<|zr<|zm<|yb h fun _ w h=>zm<|zn<|zk<|⟨rfl,h⟩
 refine sim_exit<|sim_then_exit<|sim_then_exit<|sim_block_hit<|zk<|zs<|zr<|yv h fun _ w h=>yv h fun _ w h=>yx h fun _ w h=>yb h fun _ w h=>zm<|zn<|zk<|sim_ret ?_
 exact body_ret1 rfl rfl h
theorem fits08_ret (w0:World) (v:Value) (d:DefD) (hd:DefVal w0 v d) (hs:DefSm d):Ret Pg 31 #[v] w0 fun r w'=>∃ b,r = .bool b∧(b=true→fitsP d)∧Ext w0 w':=by
 obtain ⟨mv,rfl,hM⟩:=hd
 obtain ⟨A,c,rfl,hlc,hcm,hlm,hel⟩:=SliceOf.open hM
 refine n7s (R:=retR _) ?_;unfold n7
 simp (disch:=try exact DI) only [↓PR,QR,simprocAttr]
 have hBW:=ElemAt.new (w:=w0) (defCells d (.slice A d.msgs.length c)) (24)
 have eW:Ext w0 (w0.alloc (Obj.cells (List.toArray (defCells d (.slice A d.msgs.length c))) (24))):=(Ext.refl _).alloc _
 generalize (w0.alloc (Obj.cells (List.toArray (defCells d (.slice A d.msgs.length c))) (24)))=W at hBW eW ⊢
 refine loop2_intro (fun a0 a1 w=>∃ (k:Nat) , a0 = .int .i64 (sumF (d.msgs.take k):Nat)∧a1 = .int .i64 (k:Int)∧k≤d.msgs.length∧Ext W w∧sumF (d.msgs.take k)≤400∧∀ m∈d.msgs.take k,∀ f∈m.fields,okF f) (fun a0 a1 _=>d.msgs.length - (intOf a1).toNat) ⟨0,rfl,rfl,Nat.zero_le _,ee,⟨by simp [sumF],by simp⟩⟩ ?_
 rintro _ _ w ⟨k,rfl,rfl,hk,e,hI⟩
 have se:=e.size
 rcases drop_cases hk with ⟨x,hx,hd,hlt,hdec⟩ | ⟨hk,hd,hdec⟩
 · obtain ⟨h400,hok⟩:=hI
   obtain ⟨b,o,cs,rfl,hl,hA,fv,rfl,hF⟩:=hel k x hx
   obtain ⟨A2,c2,rfl,hlc2,hcm2,hlm2,hel2⟩:=SliceOf.open hF
   have hxm:=List.mem_of_getElem? hx
   have hsx:=hs.2 x hxm
   have hx1:=hsx.1
   have e':=eW.trans e
   unfold n7c5
   by_cases hk70:k≤70
   · have d1:decide ((k:Int)≤70)=true:=by simp;omega
     simp (disch:=try exact DI) only [↓PR,QR,simprocAttr,hBW.c3,hdec,d1]
     unfold n7c4
     have hwr:IntKind.i64.wrap ((sumF (d.msgs.take k):Int)+(x.fields.length:Int))=((sumF (d.msgs.take (k+1)):Nat):Int):=by
      rw [sumF_take hx,wrap_ok (by omega) (by omega)];omega
     by_cases hn:sumF (d.msgs.take (k+1))≤400
     · have d2:decide (((sumF (d.msgs.take (k+1)):Nat):Int) > 400)=false:=by simp;omega
       simp (disch:=try exact DI) only [↓PR,QR,simprocAttr,hBW.c3,(hA.c2 e').1,(hA.c2 e').2,hwr,d2]
       rw [hwr]
       refine loop1_intro (fun a0 wb=>∃ (kb:Nat) , a0 = .int .i64 (kb:Int)∧kb≤x.fields.length∧Ext w wb∧∀ f∈x.fields.take kb,okF f) (fun a0 _=>x.fields.length - (intOf a0).toNat) ⟨0,rfl,Nat.zero_le _,ee,by simp⟩ ?_
       rintro _ wb ⟨kb,rfl,hkb,eb,hIb⟩
       have seb:=eb.size
       rcases drop_cases hkb with ⟨xb,hxb,hdb,hltb,hdecb⟩ | ⟨hkb,hdb,hdecb⟩
       · obtain ⟨b2,o2,cs2,rfl,hl2,hA2,hE2⟩:=hel2 kb xb hxb
         obtain ⟨tv,cv,rfl,hT,hC,ht1,hc1⟩:=hE2.op
         obtain ⟨A3,c3,rfl,hlc3,hcm3,hlm3,hel3⟩:=SliceOf.open hC
         obtain ⟨A4,c4,rfl,hlc4,hcm4,hlm4,hel4⟩:=SliceOf.open hT
         have eb':=e'.trans eb
         unfold n7c2
         simp (disch:=try exact DI) only [↓PR,QR,simprocAttr,hdecb]
         unfold n7c1
         have hcell:=hA2.c15 eb'
         by_cases hc50:xb.cases.length≤50
         · have d3:decide ((xb.cases.length:Int) > 50)=false:=by simp;omega
           by_cases ht10:xb.terms.length≤10
           · have d4:decide ((xb.terms.length:Int) > 10)=false:=by simp;omega
             simp (disch:=try exact DI) only [↓PR,QR,simprocAttr,hcell,d3,d4]
             exact ⟨⟨kb+1,rfl,by omega,ee,forall_take hIb hxb ⟨hc50,ht10⟩⟩,meas_lt hltb⟩
           · have d4:decide ((xb.terms.length:Int) > 10)=true:=by simp;omega
             simp (disch:=try exact DI) only [↓PR,QR,simprocAttr,hcell,d3,d4]
             exact ⟨false,rfl,by simp,ee⟩
         · have d3:decide ((xb.cases.length:Int) > 50)=true:=by simp;omega
           simp (disch:=try exact DI) only [↓PR,QR,simprocAttr,hcell,d3]
           exact ⟨false,rfl,by simp,ee⟩
       · subst hkb
         rw [List.take_length] at hIb
         unfold n7c2
         simp (disch:=try exact DI) only [↓PR,QR,simprocAttr,hdecb]
         exact ⟨⟨k+1,rfl,rfl,by omega,ee,⟨hn,forall_take hok hx hIb⟩⟩,meas_lt hlt⟩
     · have d2:decide (((sumF (d.msgs.take (k+1)):Nat):Int) > 400)=true:=by simp;omega
       simp (disch:=try exact DI) only [↓PR,QR,simprocAttr,hBW.c3,(hA.c2 e').1,(hA.c2 e').2,hwr,d2]
       exact ⟨false,rfl,by simp,ee⟩
   · have d1:decide ((k:Int)≤70)=false:=by simp;omega
     have d2:decide ((d.msgs.length:Int)≤70)=false:=by simp;omega
     simp (disch:=try exact DI) only [↓PR,QR,simprocAttr,hBW.c3,hdec,d1,n7c3,d2]
     exact ⟨false,rfl,by simp,ee⟩
 · subst hk
   obtain ⟨h400,hok⟩:=hI
   rw [List.take_length] at h400 hok
   unfold n7c5
   simp (disch:=try exact DI) only [↓PR,QR,simprocAttr,hBW.c3,hdec,n7c3]
   exact ⟨_,rfl,fun hb=>⟨by have:=of_decide_eq_true hb;omega,h400,hok⟩,ee⟩
def zeroS:FieldD:={ name:=ByteArray.empty,kind:=0,bits:=0,little:=false,loose:=false,low:=0,high:=0,base:=0,terms:=[],of:=ByteArray.empty,tag:=ByteArray.empty,fr:=ByteArray.empty,cases:=[],check:=0,key:=0 }
def sA:List FieldD:=[{ zeroS with name:=⟨#[110]⟩,kind:=1,bits:=8,high:=3 },{ zeroS with name:=⟨#[98]⟩,kind:=4,terms:=[⟨⟨#[110]⟩,1⟩] }]
def sM:List FieldD:=[{ zeroS with name:=⟨#[116]⟩,kind:=1,bits:=3,high:=2 },{ zeroS with name:=⟨#[112]⟩,kind:=10,bits:=8 },{ zeroS with name:=⟨#[118]⟩,kind:=3,high:=300 },{ zeroS with name:=⟨#[108]⟩,kind:=7,of:=⟨#[97]⟩,base:=1,terms:=[⟨⟨#[116]⟩,1⟩] },{ zeroS with name:=⟨#[107]⟩,kind:=11,check:=3,fr:=⟨#[116]⟩ }]
def sD:DefD:=⟨⟨#[100]⟩,[⟨⟨#[97]⟩,sA⟩,⟨⟨#[109]⟩,sM⟩],⟨#[109]⟩⟩
abbrev encS (p q:Nat) (f:FieldD):List Value:=fieldCells f (if f.kind=4 then .slice (some ⟨p,0,none⟩) 1 1 else if f.kind=7 then .slice (some ⟨q,0,none⟩) 1 1 else .slice none 0 0) (.slice none 0 0)
theorem flat_len {α β:Type} {n:Nat} {enc:α→List β} (hn:∀ x,(enc x).length=n) (l:List α):(l.flatMap enc).length=l.length*n:=by
 induction l with
 | nil=>simp
 | cons a l ih=>rw [List.flatMap_cons,List.length_append,ih,hn,List.length_cons,Nat.add_mul];omega
theorem row_of {α:Type} {w:World} {b n k:Nat} {E:World→List Value→α→Prop} {enc:α→List Value} {T:TypeId} (l:List α) (h:w.heap[b]?=some (.cells (l.flatMap enc).toArray T (0,0))) (hk:k=l.length) (hl:l.length≤1048576) (hn:∀ x,(enc x).length=n) (hE:∀ x,x∈l→E w (enc x) x):SliceOf w n E (.slice (some ⟨b,0,none⟩) k k) l:=by
 subst hk
 refine OwnE.slice (base:=0) (T:=T) (enc:=enc) ⟨?_,.inr ⟨b,l.length,(l.flatMap enc).toArray,rfl,Nat.zero_le _,h,Nat.le_refl _,by simp only [maxLen];omega,?_,?_⟩⟩ hn hE
 · exact flat_len hn l
 · rw [List.size_toArray];exact flat_len hn l
 · rw [List.take_of_length_le (by rw [flat_len hn l];exact Nat.le_refl _)]
abbrev encM (p q:Nat) (m:MsgD):List Value:=msgCells m (if m.name=⟨#[97]⟩ then .slice (some ⟨p,0,none⟩) 2 2 else .slice (some ⟨q,0,none⟩) 5 5)
theorem given08_ret (w0:World):Ret Pg 61 #[] w0 fun r w'=>DefVal w' r sD∧Ext w0 w':=by
 refine n9s (R:=retR _) ?_;unfold n9
 simp (disch:=try exact DI) only [↓PR,QR,Int.reduceBEq,Int.reduceBNe,Int.reduceLT,Int.reduceLE,Int.reduceGT,Int.reduceGE,Int.reduceNeg]
 generalize hF:World.alloc (World.alloc _ _) _=F
 have e0:Ext w0 F:=by rw [← hF];exact ee
 have o1:F.heap[w0.heap.size+1]?=some (.cells (([⟨⟨#[110]⟩,1⟩]:List TermD).flatMap termCells).toArray 121 (0,0)):=by rw [← hF];simp (disch:=try exact DI) only [↓PR,QR,Int.reduceBEq,Int.reduceBNe,Int.reduceLT,Int.reduceLE,Int.reduceGT,Int.reduceGE,Int.reduceNeg];rfl
 have o3:F.heap[w0.heap.size+1+1+1]?=some (.cells (([⟨⟨#[116]⟩,1⟩]:List TermD).flatMap termCells).toArray 121 (0,0)):=by rw [← hF];simp (disch:=try exact DI) only [↓PR,QR,Int.reduceBEq,Int.reduceBNe,Int.reduceLT,Int.reduceLE,Int.reduceGT,Int.reduceGE,Int.reduceNeg];rfl
 have o5:F.heap[w0.heap.size+1+1+1+1+1]?=some (.cells (sA.flatMap (encS (w0.heap.size+1) (w0.heap.size+1+1+1))).toArray 38 (0,0)):=by rw [← hF];simp (disch:=try exact DI) only [↓PR,QR,Int.reduceBEq,Int.reduceBNe,Int.reduceLT,Int.reduceLE,Int.reduceGT,Int.reduceGE,Int.reduceNeg];rfl
 have o6:F.heap[w0.heap.size+1+1+1+1+1+1]?=some (.cells (sM.flatMap (encS (w0.heap.size+1) (w0.heap.size+1+1+1))).toArray 38 (0,0)):=by rw [← hF];simp (disch:=try exact DI) only [↓PR,QR,Int.reduceBEq,Int.reduceBNe,Int.reduceLT,Int.reduceLE,Int.reduceGT,Int.reduceGE,Int.reduceNeg];rfl
 have o7:F.heap[w0.heap.size+1+1+1+1+1+1+1]?=some (.cells (sD.msgs.flatMap (encM (w0.heap.size+1+1+1+1+1) (w0.heap.size+1+1+1+1+1+1))).toArray 44 (0,0)):=by rw [← hF];simp (disch:=try exact DI) only [↓PR,QR,Int.reduceBEq,Int.reduceBNe,Int.reduceLT,Int.reduceLE,Int.reduceGT,Int.reduceGE,Int.reduceNeg];rfl
 clear hF
 generalize w0.heap.size+1+1+1+1+1+1+1=p7 at o7 ⊢
 generalize w0.heap.size+1+1+1+1+1+1=p6 at o6 o7
 generalize w0.heap.size+1+1+1+1+1=p5 at o5 o7
 generalize w0.heap.size+1+1+1=p3 at o3 o5 o6
 generalize w0.heap.size+1=p1 at o1 o5 o6
 have hT1:TermsOf F (.slice (some ⟨p1,0,none⟩) 1 1) [⟨⟨#[110]⟩,1⟩]:=row_of _ o1 rfl (by decide) (fun _=>rfl) (fun _ _=>rfl)
 have hT3:TermsOf F (.slice (some ⟨p3,0,none⟩) 1 1) [⟨⟨#[116]⟩,1⟩]:=row_of _ o3 rfl (by decide) (fun _=>rfl) (fun _ _=>rfl)
 have h0:TermsOf F (.slice none 0 0) []:=SliceOf.nil _ _ _
 have c0:CasesOf F (.slice none 0 0) []:=SliceOf.nil _ _ _
 have hA:FieldsOf F (.slice (some ⟨p5,0,none⟩) 2 2) sA:=row_of sA o5 rfl (by decide) (fun _=>rfl) fun f hf=>by
  simp only [sA,List.mem_cons,List.not_mem_nil,or_false] at hf
  rcases hf with rfl | rfl
  · exact ⟨_,_,rfl,h0,c0⟩
  · exact ⟨_,_,rfl,hT1,c0⟩
 have hM:FieldsOf F (.slice (some ⟨p6,0,none⟩) 5 5) sM:=row_of sM o6 rfl (by decide) (fun _=>rfl) fun f hf=>by
  simp only [sM,List.mem_cons,List.not_mem_nil,or_false] at hf
  rcases hf with rfl | rfl | rfl | rfl | rfl
  · exact ⟨_,_,rfl,h0,c0⟩
  · exact ⟨_,_,rfl,h0,c0⟩
  · exact ⟨_,_,rfl,h0,c0⟩
  · exact ⟨_,_,rfl,hT3,c0⟩
  · exact ⟨_,_,rfl,h0,c0⟩
 refine ⟨⟨.slice (some ⟨p7,0,none⟩) 2 2,rfl,row_of sD.msgs o7 rfl (by decide) (fun _=>rfl) fun m hm=>?_⟩,e0⟩
 simp only [sD,List.mem_cons,List.not_mem_nil,or_false] at hm
 rcases hm with rfl | rfl
 · exact ⟨_,rfl,hA⟩
 · exact ⟨_,rfl,hM⟩
theorem is_ret (w0:World) (a b e lo hi:Int):Ret Pg 63 #[rangeVal a b,.int .i64 e,.int .i64 lo,.int .i64 hi] w0 fun r w'=>r = .bool (decide (a=lo)&&decide (b=hi)&&e == 0)∧Ext w0 w':=by
 refine n10s (R:=retR _) ?_;unfold n10
 simp (disch:=try exact DI) only [↓PR,QR,simprocAttr]
 exact ⟨by first | trivial | rfl,ee⟩
theorem calm_s:calm sD:=by
 intro m hm
 simp only [sD,List.mem_cons,List.not_mem_nil,or_false] at hm
 rcases hm with rfl | rfl
 · exact ⟨by decide,by decide⟩
 · exact ⟨by decide,by decide⟩
theorem sE_01:errG sD 0 1=0:=by decide +kernel
theorem sE_12:errG sD 1 2=0:=by decide +kernel
theorem sE_13:errG sD 1 3=0:=by decide +kernel
theorem sE_11:errG sD 1 1=0:=by decide +kernel
theorem sE_00:errG sD 0 0=0:=by decide +kernel
theorem sE_10:errG sD 1 0=0:=by decide +kernel
theorem sF_01:fieldV sD 0 1=(0,24):=by decide +kernel
theorem sF_12:fieldV sD 1 2=(8,16):=by decide +kernel
theorem sF_13:fieldV sD 1 3=(8,96):=by decide +kernel
theorem sP_11:posV sD 1 1=(3,3):=by decide +kernel
theorem sP_12:posV sD 1 2=(8,8):=by decide +kernel
theorem sM_0:msgV sD 0=(8,32):=by decide +kernel
theorem sM_1:msgV sD 1=(56,152):=by decide +kernel
theorem field08_true (w0:World) (i j lo hi:Int) (hE:errG sD i j=0) (hF:fieldV sD i j=(lo,hi)):Ret Pg 62 #[.int .i64 i,.int .i64 j,.int .i64 lo,.int .i64 hi] w0 fun r w'=>r = .bool true∧Ext w0 w':=by
 refine n5s (R:=retR _) ?_;unfold n5
 refine callK_ret (given08_ret _) ?_
 rintro v w1 ⟨hd,e1⟩
 refine zcr (FieldX_ret v i j hd calm_s (sound_of sD calm_s) (by decide)) fun w2 e2=>?_
 rw [hE,hF]
 unfold n5c1 getR
 rw [if_pos rfl]
 simp (disch:=try exact DI) only [↓PR,QR,simprocAttr]
 refine zcr (is_ret _ lo hi 0 lo hi) fun w3 e3=>?_
 exact ⟨_,rfl,by simp,ee⟩
theorem position08_true (w0:World) (i j lo hi:Int) (hE:errG sD i j=0) (hF:posV sD i j=(lo,hi)):Ret Pg 64 #[.int .i64 i,.int .i64 j,.int .i64 lo,.int .i64 hi] w0 fun r w'=>r = .bool true∧Ext w0 w':=by
 refine n12s (R:=retR _) ?_;unfold n12
 refine callK_ret (given08_ret _) ?_
 rintro v w1 ⟨hd,e1⟩
 refine zcr (PositionX_ret v i j hd calm_s (sound_of sD calm_s) (by decide) (by decide)) fun w2 e2=>?_
 rw [hE,hF]
 unfold n12c1 getR
 rw [if_pos rfl]
 simp (disch:=try exact DI) only [↓PR,QR,simprocAttr]
 refine zcr (is_ret _ lo hi 0 lo hi) fun w3 e3=>?_
 exact ⟨_,rfl,by simp,ee⟩
theorem known08_ret (w0:World):Ret Pg 32 #[] w0 fun r w'=>r = .bool true∧Ext w0 w':=by
 have hs:=sound_of sD calm_s
 refine n11s (R:=retR _) ?_;unfold n11
 refine callK_ret (given08_ret _) ?_
 rintro v1 w1 ⟨hd1,e1⟩
 refine zcr (MessageX_ret v1 0 hd1 calm_s hs (by decide)) fun w2 e2=>?_
 have E2:=e1.trans e2
 rw [sE_00,sM_0]
 unfold n11c13 getR
 rw [if_pos rfl]
 simp (disch:=try exact DI) only [↓PR,QR,simprocAttr]
 have eA:Ext w2 (w2.alloc (.cells #[.int .i64 8,.int .i64 32] 67)):=ee
 have oA:=heap_new w2 #[.int .i64 8,.int .i64 32] 67
 generalize (w2.alloc (.cells #[.int .i64 8,.int .i64 32] 67))=A at eA oA ⊢
 generalize w2.heap.size=pA at oA ⊢
 refine callK_ret (given08_ret _) ?_
 rintro v3 w3 ⟨hd3,e3⟩
 refine zcr (LengthX_ret v3 0 hd3 calm_s hs (by decide) (fun _=>by rw [sM_0];decide)) fun w4 e4=>?_
 have E4:=(E2.trans eA).trans (e3.trans e4)
 have xA:=(e3.trans e4).obj oA
 rw [sE_00,sM_0]
 unfold n11c12 getR
 rw [if_pos rfl]
 simp only [show ((8:Int)+7).tdiv 8=1 from rfl,show ((32:Int)+7).tdiv 8=4 from rfl]
 simp (disch:=try exact DI) only [↓PR,QR,simprocAttr]
 have eB:Ext w4 (w4.alloc (.cells #[.int .i64 1,.int .i64 4] 67)):=ee
 have oB:=heap_new w4 #[.int .i64 1,.int .i64 4] 67
 generalize (w4.alloc (.cells #[.int .i64 1,.int .i64 4] 67))=B at eB oB ⊢
 generalize w4.heap.size=pB at oB ⊢
 refine callK_ret (given08_ret _) ?_
 rintro v5 w5 ⟨hd5,e5⟩
 refine zcr (MessageX_ret v5 1 hd5 calm_s hs (by decide)) fun w6 e6=>?_
 have f6:=eB.trans (e5.trans e6)
 have E6:=E4.trans f6
 have yA:=f6.obj xA
 have xB:=(e5.trans e6).obj oB
 rw [sE_10,sM_1]
 unfold n11c11 getR
 rw [if_pos rfl]
 simp (disch:=try exact DI) only [↓PR,QR,simprocAttr]
 have eC:Ext w6 (w6.alloc (.cells #[.int .i64 56,.int .i64 152] 67)):=ee
 have oC:=heap_new w6 #[.int .i64 56,.int .i64 152] 67
 generalize (w6.alloc (.cells #[.int .i64 56,.int .i64 152] 67))=C at eC oC ⊢
 generalize w6.heap.size=pC at oC ⊢
 refine callK_ret (given08_ret _) ?_
 rintro v7 w7 ⟨hd7,e7⟩
 refine zcr (FixedX_ret v7 0 hd7 calm_s hs (by decide)) fun w8 e8=>?_
 rw [sE_00,sM_0]
 unfold n11c10
 simp (disch:=try exact DI) only [↓PR,QR,simprocAttr]
 refine zcr (field08_true _ 0 1 0 24 sE_01 sF_01) fun w9 e9=>?_
 have f9:=e7.trans (e8.trans e9)
 have E9:=(E6.trans eC).trans f9
 have zA:=(eC.trans f9).obj yA
 have zB:=(eC.trans f9).obj xB
 have zC:=f9.obj oC
 clear e1 e2 E2 eA oA e3 e4 E4 xA eB oB e5 e6 f6 E6 yA xB eC oC e7 e8 e9 f9 hd1 hd3 hd5 hd7
 simp (disch:=try exact DI) only [↓PR,QR,simprocAttr,↓n11c9,(cells_of_heap zA).1]
 refine zcr (is_ret _ 8 32 0 8 32) fun wa ea=>?_
 simp (disch:=try exact DI) only [↓PR,QR,simprocAttr,↓n11c8,(cells_of_heap (ea.obj zB)).1]
 refine zcr (is_ret _ 1 4 0 1 4) fun wb eb=>?_
 simp (disch:=try exact DI) only [↓PR,QR,simprocAttr,↓n11c7,(cells_of_heap ((ea.trans eb).obj zC)).1]
 refine zcr (is_ret _ 56 152 0 56 152) fun wc ec=>?_
 simp (disch:=try exact DI) only [↓PR,QR,simprocAttr,↓n11c6,↓n11c5,↓n11c4]
 refine zcr (position08_true _ 1 1 3 3 sE_11 sP_11) fun wd ed=>?_
 simp (disch:=try exact DI) only [↓PR,QR,simprocAttr,↓n11c3]
 refine zcr (position08_true _ 1 2 8 8 sE_12 sP_12) fun we ew=>?_
 simp (disch:=try exact DI) only [↓PR,QR,simprocAttr,↓n11c2]
 refine zcr (field08_true _ 1 2 8 16 sE_12 sF_12) fun wf ef=>?_
 simp (disch:=try exact DI) only [↓PR,QR,simprocAttr,↓n11c1]
 refine zcr (field08_true _ 1 3 8 96 sE_13 sF_13) fun wg eg=>?_
 simp (disch:=try exact DI) only [↓PR,QR,simprocAttr]
 exact ⟨by trivial,E9.trans (ea.trans (eb.trans (ec.trans (ed.trans (ew.trans (ef.trans eg))))))⟩
def n4c1 (t150 t155 t164:Value) (K11:World→Prop) (R:RT) (w:World):Prop :=
 joinK (fun (t165:Value) (w:World) =>
 pickK t150 (.bool true) t165 fun t166 =>
 condP t166 (
 R (.returned (.bool false)) w) (
 K11 w)) fun K18 =>
 guardP t150 false (
 pickK t155 t164 (.bool false) fun t165 =>
 K18 t165 w) (
 K18 undef w)
def n4c2 (t5 t10 t39 t150 t155:Value) (C12:World→Prop) (K11:World→Prop) (R:RT) (w:World):Prop :=
 joinK (fun (t164:Value) (w:World) =>
 n4c1 t150 t155 t164 K11 R w) fun K17 =>
 guardP t155 true (
 qV Pg C12 (Instr.fieldAt 67 t10 0) fun t156 =>
 qV Pg C12 (Instr.loadAt 3 t156) fun t157 =>
 qV Pg C12 (Instr.indexAt 42 t39 t5) fun t160 =>
 qV Pg C12 (Instr.fieldAt 38 t160 2) fun t161 =>
 qV Pg C12 (Instr.loadAt 3 t161) fun t162 =>
 qV Pg C12 (binS .rem 3 false t157 t162) fun t163 =>
 qV Pg C12 (binS .neq 3 true t163 (.int .i64 0)) fun t164 =>
 K17 t164 w) (
 K17 undef w)
def n4c3 (t5 t10 t39 t140 t149:Value) (C12:World→Prop) (K11:World→Prop) (R:RT) (w:World):Prop :=
 pickK t140 (.bool true) t149 fun t150 =>
 joinK (fun (t155:Value) (w:World) =>
 n4c2 t5 t10 t39 t150 t155 C12 K11 R w) fun K16 =>
 guardP t150 false (
 qV Pg C12 (Instr.fieldAt 67 t10 0) fun t152 =>
 qV Pg C12 (Instr.loadAt 3 t152) fun t153 =>
 qV Pg C12 (binS .lss 3 true t153 (.int .i64 1099511627776)) fun t154 =>
 K16 t154 w) (
 K16 undef w)
def n4c4 (t5 t6 t8 t10 t39 t133 t139:Value) (C12:World→Prop) (K11:World→Prop) (R:RT) (w:World):Prop :=
 pickK t133 (.bool true) t139 fun t140 =>
 joinK (fun (t149:Value) (w:World) =>
 n4c3 t5 t10 t39 t140 t149 C12 K11 R w) fun K15 =>
 guardP t140 false (
 qV Pg C12 (Instr.fieldAt 67 t10 1) fun t142 =>
 qV Pg C12 (Instr.loadAt 3 t142) fun t143 =>
 qV Pg C12 (Instr.fieldAt 67 t8 1) fun t144 =>
 qV Pg C12 (Instr.loadAt 3 t144) fun t145 =>
 qV Pg C12 (Instr.fieldAt 67 t6 1) fun t146 =>
 qV Pg C12 (Instr.loadAt 3 t146) fun t147 =>
 qV Pg C12 (binS .add 3 false t145 t147) fun t148 =>
 qV Pg C12 (binS .gtr 3 false t143 t148) fun t149 =>
 K15 t149 w) (
 K15 undef w)
def n4c5 (t5 t6 t8 t10 t39 t123 t132:Value) (C12:World→Prop) (K11:World→Prop) (R:RT) (w:World):Prop :=
 pickK t123 (.bool true) t132 fun t133 =>
 joinK (fun (t139:Value) (w:World) =>
 n4c4 t5 t6 t8 t10 t39 t133 t139 C12 K11 R w) fun K14 =>
 guardP t133 false (
 qV Pg C12 (Instr.fieldAt 67 t10 1) fun t135 =>
 qV Pg C12 (Instr.loadAt 3 t135) fun t136 =>
 qV Pg C12 (Instr.fieldAt 67 t8 1) fun t137 =>
 qV Pg C12 (Instr.loadAt 3 t137) fun t138 =>
 qV Pg C12 (binS .lss 3 false t136 t138) fun t139 =>
 K14 t139 w) (
 K14 undef w)
def n4c6 (t5 t6 t8 t10 t39:Value) (C12:World→Prop) (K11:World→Prop) (R:RT) (w:World):Prop :=
 qV Pg C12 (Instr.fieldAt 67 t10 0) fun t119 =>
 qV Pg C12 (Instr.loadAt 3 t119) fun t120 =>
 qV Pg C12 (Instr.fieldAt 67 t8 0) fun t121 =>
 qV Pg C12 (Instr.loadAt 3 t121) fun t122 =>
 qV Pg C12 (binS .lss 3 false t120 t122) fun t123 =>
 joinK (fun (t132:Value) (w:World) =>
 n4c5 t5 t6 t8 t10 t39 t123 t132 C12 K11 R w) fun K13 =>
 guardP t123 false (
 qV Pg C12 (Instr.fieldAt 67 t10 0) fun t125 =>
 qV Pg C12 (Instr.loadAt 3 t125) fun t126 =>
 qV Pg C12 (Instr.fieldAt 67 t8 0) fun t127 =>
 qV Pg C12 (Instr.loadAt 3 t127) fun t128 =>
 qV Pg C12 (Instr.fieldAt 67 t6 1) fun t129 =>
 qV Pg C12 (Instr.loadAt 3 t129) fun t130 =>
 qV Pg C12 (binS .add 3 false t128 t130) fun t131 =>
 qV Pg C12 (binS .gtr 3 false t126 t131) fun t132 =>
 K13 t132 w) (
 K13 undef w)
def n4c7 (t6 t8 t10:Value) (K11:World→Prop) (R:RT) (w:World):Prop :=
 L0 67 t10 R w fun t104 w =>
 F0 67 t8 0 R w fun t105 w =>
 L0 3 t105 R w fun t106 w =>
 F0 67 t6 0 R w fun t107 w =>
 L0 3 t107 R w fun t108 w =>
 B0 .add 3 false t106 t108 R w fun t109 w =>
 opV Pg (Builtin.min_ #[3,3] 3 #[(.int .i64 1099511627776),t109]) (panK R) w fun t110 w =>
 F0 67 t8 1 R w fun t111 w =>
 L0 3 t111 R w fun t112 w =>
 F0 67 t6 1 R w fun t113 w =>
 L0 3 t113 R w fun t114 w =>
 B0 .add 3 false t112 t114 R w fun t115 w =>
 opV Pg (Builtin.min_ #[3,3] 3 #[(.int .i64 1099511627776),t115]) (panK R) w fun t116 w =>
 opV Pg (Instr.build 67 #[(0,t110),(1,t116)]) (panK R) w fun t117 w =>
 B0 .neq 67 false t104 t117 R w fun t118 w =>
 condP t118 (
 R (.returned (.bool false)) w) (
 K11 w)
def n4c8 (t5 t6 t8 t10 t39:Value) (next4:KV) (R:RT) (w:World):Prop :=
 X0 42 t39 t5 R w fun t100 w =>
 F0 38 t100 1 R w fun t101 w =>
 L0 32 t101 R w fun t102 w =>
 B0 .neq 32 true t102 (.int .i64 10) R w fun t103 w =>
 joinK (fun (w:World) =>
 B0 .add 3 true t5 (.int .i64 1) R w fun t45 w =>
 next4 t45 w) fun K11 =>
 condP t103 (
 n4c7 t6 t8 t10 K11 R w) (
 drawK w fun C12 w =>
 n4c6 t5 t6 t8 t10 t39 C12 K11 R w)
def n4c9 (t5 t6 t8 t10 t39 t88 t92 t95:Value) (next4:KV) (R:RT) (w:World):Prop :=
 joinK (fun (t96:Value) (w:World) =>
 pickK t88 (.bool true) t96 fun t97 =>
 condP t97 (
 R (.returned (.bool false)) w) (
 n4c8 t5 t6 t8 t10 t39 next4 R w)) fun K10 =>
 guardP t88 false (
 pickK t92 t95 (.bool false) fun t96 =>
 K10 t96 w) (
 K10 undef w)
def n4c10 (t5 t6 t8 t10 t39 t88 t92:Value) (next4:KV) (R:RT) (w:World):Prop :=
 joinK (fun (t95:Value) (w:World) =>
 n4c9 t5 t6 t8 t10 t39 t88 t92 t95 next4 R w) fun K9 =>
 guardP t92 true (
 L0 67 t8 R w fun t93 w =>
 opV Pg (Instr.build 67 #[]) (panK R) w fun t94 w =>
 B0 .neq 67 false t93 t94 R w fun t95 w =>
 K9 t95 w) (
 K9 undef w)
def n4c11 (t5 t6 t8 t10 t39 t84 t87:Value) (next4:KV) (R:RT) (w:World):Prop :=
 pickK t84 (.bool true) t87 fun t88 =>
 joinK (fun (t92:Value) (w:World) =>
 n4c10 t5 t6 t8 t10 t39 t88 t92 next4 R w) fun K8 =>
 guardP t88 false (
 B0 .eql 3 true t5 (.int .i64 0) R w fun t91 w =>
 K8 t91 w) (
 K8 undef w)
def n4c12 (t5 t6 t8 t10 t11 t39 t80 t83:Value) (next4:KV) (R:RT) (w:World):Prop :=
 pickK t80 (.bool true) t83 fun t84 =>
 joinK (fun (t87:Value) (w:World) =>
 n4c11 t5 t6 t8 t10 t39 t84 t87 next4 R w) fun K7 =>
 guardP t84 false (
 B0 .neq 52 true t11 (.int .i64 0) R w fun t87 w =>
 K7 t87 w) (
 K7 undef w)
def n4c13 (t5 t6 t8 t10 t11 t39 t52 t59:Value) (next4:KV) (R:RT) (w:World):Prop :=
 B0 .neq 52 true t52 (.int .i64 0) R w fun t80 w =>
 joinK (fun (t83:Value) (w:World) =>
 n4c12 t5 t6 t8 t10 t11 t39 t80 t83 next4 R w) fun K6 =>
 guardP t80 false (
 B0 .neq 52 true t59 (.int .i64 0) R w fun t83 w =>
 K6 t83 w) (
 K6 undef w)
def n4c14 (t10 t76:Value) (K5:KV) (R:RT) (w:World):Prop :=
 opV Pg (Instr.extract t76 0) (panK R) w fun t77 w =>
 opV Pg (Instr.extract t76 1) (panK R) w fun t78 w =>
 opU Pg (Instr.storeAt 67 t10 t77) (panK R) w fun w =>
 K5 t78 w
def n4c15 (t1 t3 t5 t10:Value) (K5:KV) (R:RT) (w:World):Prop :=
 L0 24 t1 R w fun t72 w =>
 B0 .add 3 true t5 (.int .i64 1) R w fun t75 w =>
 C0 34 #[t72,t3,t75] R w fun t76 w =>
 n4c14 t10 t76 K5 R w
def n4c16 (t1 t3 t5 t6 t8 t39 t52 t59 t63:Value) (next4:KV) (R:RT) (w:World):Prop :=
 opV Pg (Instr.extract t63 0) (panK R) w fun t64 w =>
 opV Pg (Instr.extract t63 1) (panK R) w fun t65 w =>
 opV Pg (Instr.alloc 67 true (.tuple #[])) (panK R) w fun t10 w =>
 opU Pg (Instr.storeAt 67 t10 t64) (panK R) w fun w =>
 B0 .add 3 true t5 (.int .i64 1) R w fun t67 w =>
 opV Pg (Builtin.len_ #[42] 3 #[t39]) (panK R) w fun t69 w =>
 B0 .lss 3 false t67 t69 R w fun t70 w =>
 joinK (fun (t11:Value) (w:World) =>
 n4c13 t5 t6 t8 t10 t11 t39 t52 t59 next4 R w) fun K5 =>
 condP t70 (
 n4c15 t1 t3 t5 t10 K5 R w) (
 K5 t65 w)
def n4c17 (t1 t3 t5 t6 t39 t52 t57:Value) (next4:KV) (R:RT) (w:World):Prop :=
 opV Pg (Instr.extract t57 0) (panK R) w fun t58 w =>
 opV Pg (Instr.extract t57 1) (panK R) w fun t59 w =>
 opV Pg (Instr.alloc 67 true (.tuple #[])) (panK R) w fun t8 w =>
 opU Pg (Instr.storeAt 67 t8 t58) (panK R) w fun w =>
 L0 24 t1 R w fun t61 w =>
 C0 39 #[t61,t3] R w fun t63 w =>
 n4c16 t1 t3 t5 t6 t8 t39 t52 t59 t63 next4 R w
def n4c18 (t1 t3 t5 t39 t50:Value) (next4:KV) (R:RT) (w:World):Prop :=
 opV Pg (Instr.extract t50 0) (panK R) w fun t51 w =>
 opV Pg (Instr.extract t50 1) (panK R) w fun t52 w =>
 opV Pg (Instr.alloc 67 true (.tuple #[])) (panK R) w fun t6 w =>
 opU Pg (Instr.storeAt 67 t6 t51) (panK R) w fun w =>
 L0 24 t1 R w fun t54 w =>
 C0 34 #[t54,t3,t5] R w fun t57 w =>
 n4c17 t1 t3 t5 t6 t39 t52 t57 next4 R w
def n4c19 (t1 t3 t5 t39:Value) (next3:KV) (next4:KV) (R:RT) (w:World):Prop :=
 opV Pg (Builtin.len_ #[42] 3 #[t39]) (panK R) w fun t42 w =>
 B0 .lss 3 false t5 t42 R w fun t43 w =>
 condP t43 (
 L0 24 t1 R w fun t47 w =>
 C0 33 #[t47,t3,t5] R w fun t50 w =>
 n4c18 t1 t3 t5 t39 t50 next4 R w) (
 B0 .add 3 true t3 (.int .i64 1) R w fun t33 w =>
 next3 t33 w)
def n4c20 (t1 t3:Value) (next3:KV) (R:RT) (w:World):Prop :=
 F0 24 t1 1 R w fun t34 w =>
 L0 22 t34 R w fun t35 w =>
 X0 22 t35 t3 R w fun t37 w =>
 F0 44 t37 1 R w fun t38 w =>
 L0 42 t38 R w fun t39 w =>
 loop1 (fun t5 w next4 =>
 n4c19 t1 t3 t5 t39 next3 next4 R w) (.int .i64 0) w
def n4c21 (t1 t3:Value) (next3:KV) (R:RT) (w:World):Prop :=
 F0 24 t1 1 R w fun t28 w =>
 L0 22 t28 R w fun t29 w =>
 opV Pg (Builtin.len_ #[22] 3 #[t29]) (panK R) w fun t30 w =>
 B0 .lss 3 false t3 t30 R w fun t31 w =>
 condP t31 (
 n4c20 t1 t3 next3 R w) (
 C0 32 #[] R w fun t167 w =>
 R (.returned t167) w)
def n4c22 (t1 t20 t24:Value) (R:RT) (w:World):Prop :=
 pickK t20 (.bool true) t24 fun t25 =>
 condP t25 (
 C0 32 #[] R w fun t26 w =>
 R (.returned t26) w) (
 loop1 (fun t3 w next3 =>
 n4c21 t1 t3 next3 R w) (.int .i64 0) w)
def n4c23 (t1 t14 t19:Value) (R:RT) (w:World):Prop :=
 pickK t14 (.bool true) t19 fun t20 =>
 joinK (fun (t24:Value) (w:World) =>
 n4c22 t1 t20 t24 R w) fun K2 =>
 guardP t20 false (
 L0 24 t1 R w fun t22 w =>
 C0 43 #[t22] R w fun t23 w =>
 opV Pg (Op.unary .not t23) (panK R) w fun t24 w =>
 K2 t24 w) (
 K2 undef w)
def n4c24 (t1 t13:Value) (R:RT) (w:World):Prop :=
 opV Pg (Op.unary .not t13) (panK R) w fun t14 w =>
 joinK (fun (t19:Value) (w:World) =>
 n4c23 t1 t14 t19 R w) fun K1 =>
 guardP t14 false (
 F0 24 t1 1 R w fun t16 w =>
 L0 22 t16 R w fun t17 w =>
 opV Pg (Builtin.len_ #[22] 3 #[t17]) (panK R) w fun t18 w =>
 B0 .gtr 3 true t18 (.int .i64 10) R w fun t19 w =>
 K1 t19 w) (
 K1 undef w)
def n4 (t0:Value) (R:RT) (w:World):Prop :=
 opV Pg (Instr.box 24 t0) (panK R) w fun t1 w =>
 L0 24 t1 R w fun t12 w =>
 C0 31 #[t12] R w fun t13 w =>
 n4c24 t1 t13 R w
set_option maxHeartbeats 40000000 in
theorem n4s {t0:Value} {R:RT} {w:World} (h:n4 t0 R w):Calls Pg 12 #[t0] w R:=by
 refine yD Tryz.func12 ?_
 refine zs<|zr<|yv h fun _ w h=>zm<|zn<|zk<|zs<|zs<|sim_regionG<|yG 4<|yv h fun _ w h=>yc h c31 fun _ w h=>yv h fun _ w h=>zm<|zn ?_
 refine yg1 4 3 false [16,17,18,19] 19 h (fun _ T hT h=>?_) fun σ w h=>?_
 · refine yv h fun _ w h=>yv h fun _ w h=>yx h fun _ w h=>yb h fun _ w h=>zn ?_
   exact zt hT h
 refine yG 2<|yp h fun _ h=>zm<|zn<|yg1 3 9 false [22,23,24] 24 h (fun _ T hT h=>?_) fun σ w h=>?_
 · refine yv h fun _ w h=>yc h c43 fun _ w h=>yv h fun _ w h=>zn ?_
   exact zt hT h
 refine yG 1<|yp h fun _ h=>zn<|sim_end<|zk<|yC h (fun h=>zs<|zr<|yc h c32 fun _ w h=>zm<|zn<|zk<|sim_ret<|sim_then_ret<|body_ret1 rfl rfl h) fun h=>sim_skip<|zk<|zs<|zs<|zr<|zm<|zn<|zk ?_
 refine sim_block<|yl1 [2,3,4,5,6,7,8,9,10,11,27,28,29,30,31,32,33,34,35,36,37,38,39,40,41,42,43,44,45,46,47,48,49,50,51,52,53,54,55,56,57,58,59,60,61,62,63,64,65,66,67,68,69,70,71,72,73,74,75,76,77,78,79,80,81,82,83,84,85,86,87,88,89,90,91,92,93,94,95,96,97,98,99,100,101,102,103,104,105,106,107,108,109,110,111,112,113,114,115,116,117,118,119,120,121,122,123,124,125,126,127,128,129,130,131,132,133,134,135,136,137,138,139,140,141,142,143,144,145,146,147,148,149,150,151,152,153,154,155,156,157,158,159,160,161,162,163,164,165,166] 3 h fun σ w next h=>zs<|zs<|zr<|zm<|yv h fun _ w h=>yv h fun _ w h=>yx h fun _ w h=>yb h fun _ w h=>zn<|zk<|yC h (fun h=>?_) fun h=>?_
 · refine sim_skip<|zk<|zs<|sim_block<|zs<|zr<|yv h fun _ w h=>yv h fun _ w h=>zm<|yv h fun _ w h=>yv h fun _ w h=>yv h fun _ w h=>zm<|zn<|zk ?_
   refine zs<|zr<|zm<|zn<|zk<|sim_block<|yl1 [2,5,6,7,8,9,10,11,40,41,42,43,44,45,46,47,48,49,50,51,52,53,54,55,56,57,58,59,60,61,62,63,64,65,66,67,68,69,70,71,72,73,74,75,76,77,78,79,80,81,82,83,84,85,86,87,88,89,90,91,92,93,94,95,96,97,98,99,100,101,102,103,104,105,106,107,108,109,110,111,112,113,114,115,116,117,118,119,120,121,122,123,124,125,126,127,128,129,130,131,132,133,134,135,136,137,138,139,140,141,142,143,144,145,146,147,148,149,150,151,152,153,154,155,156,157,158,159,160,161,162,163,164,165,166] 5 h fun σ w next h=>zs<|zs<|zr<|zm<|zm<|yx h fun _ w h=>yb h fun _ w h=>zn ?_
   refine zk<|yC h (fun h=>?_) fun h=>?_
   · refine sim_skip<|zk<|zs<|sim_block<|zs<|zr<|yv h fun _ w h=>zm<|zm<|yc h c33 fun _ w h=>zm<|yv h fun _ w h=>yv h fun _ w h=>yv h fun _ w h=>yu h fun w h=>?_
     refine zm<|zn<|zk<|zs<|zr<|yv h fun _ w h=>zm<|zm<|yc h c34 fun _ w h=>zm<|yv h fun _ w h=>yv h fun _ w h=>yv h fun _ w h=>yu h fun w h=>zm ?_
     refine zn<|zk<|zs<|zr<|yv h fun _ w h=>zm<|yc h c39 fun _ w h=>zm<|yv h fun _ w h=>yv h fun _ w h=>yv h fun _ w h=>yu h fun w h=>zm<|zn<|zk ?_
     refine zs<|zs<|zr<|zm<|yb h fun _ w h=>zm<|yx h fun _ w h=>yb h fun _ w h=>zn<|zk<|yJ1 [11,71,72,73,74,75,76,77,78] 11 h (fun _ _ hkK5 h=>?_) fun σ w h=>?_
     · refine yC h (fun h=>?_) fun h=>?_
       · refine zr<|yv h fun _ w h=>zm<|zm<|yb h fun _ w h=>yc h c34 fun _ w h=>zm<|yv h fun _ w h=>yv h fun _ w h=>yu h fun w h=>zm<|zn<|zk ?_
         exact zt hkK5 h
       refine sim_skip<|zk ?_
       exact zt hkK5 h
     refine zk<|zs<|zs<|sim_regionG<|yG 3<|zm<|yb h fun _ w h=>zm<|zn<|yg1 2 2 false [82,83] 83 h (fun _ T hT h=>?_) fun σ w h=>?_
     · refine zm<|yb h fun _ w h=>zn ?_
       exact zt hT h
     refine yG 2<|yp h fun _ h=>zm<|zn<|yg1 2 6 false [86,87] 87 h (fun _ T hT h=>?_) fun σ w h=>?_
     · refine zm<|yb h fun _ w h=>zn ?_
       exact zt hT h
     refine yG 2<|yp h fun _ h=>zm<|zn<|yg1 3 10 false [90,91,92] 92 h (fun _ T hT h=>?_) fun σ w h=>?_
     · refine zm<|yb h fun _ w h=>zm<|zn ?_
       exact zt hT h
     refine yg1 3 13 true [93,94,95] 95 h (fun _ T hT h=>?_) fun σ w h=>?_
     · refine yv h fun _ w h=>yB h fun _ w h=>yb h fun _ w h=>zn ?_
       exact zt hT h
     refine yg1 1 10 false [96] 96 h (fun _ T hT h=>?_) fun σ w h=>?_
     · refine yp h fun _ h=>zn ?_
       exact zt hT h
     refine yG 1<|yp h fun _ h=>zn<|sim_end<|zk<|yC h (fun h=>?_) fun h=>?_
     · refine zs<|zr<|zm<|zn<|zk<|sim_ret<|sim_then_ret<|sim_block_ret<|sim_then_ret<|sim_then_ret<|sim_block_ret<|sim_block_ret<|sim_then_ret<|sim_then_ret<|sim_block_ret ?_
       exact sim_then_ret<|body_ret1 rfl rfl h
     refine sim_skip<|zk<|zs<|zr<|zm<|zm<|yv h fun _ w h=>yv h fun _ w h=>yv h fun _ w h=>yb h fun _ w h=>zn<|zk<|yJ0 [2,104,105,106,107,108,109,110,111,112,113,114,115,116,117,118,119,120,121,122,123,124,125,126,127,128,129,130,131,132,133,134,135,136,137,138,139,140,141,142,143,144,145,146,147,148,149,150,151,152,153,154,155,156,157,158,159,160,161,162,163,164,165,166] h (fun _ _ hkK11 h=>?_) fun σ w h=>?_
     · refine yC h (fun h=>?_) fun h=>?_
       · refine zs<|zr<|yv h fun _ w h=>yv h fun _ w h=>yv h fun _ w h=>yv h fun _ w h=>yv h fun _ w h=>yb h fun _ w h=>yx h fun _ w h=>yv h fun _ w h=>yv h fun _ w h=>yv h fun _ w h=>yv h fun _ w h=>yb h fun _ w h=>yx h fun _ w h=>?_
         refine yB h fun _ w h=>yb h fun _ w h=>zn<|zk<|yC h (fun h=>?_) fun h=>?_
         · refine zs<|zr<|zm<|zn<|zk<|sim_ret<|sim_then_ret<|sim_block_ret<|sim_then_ret<|sim_then_ret<|sim_block_ret<|sim_block_ret<|sim_then_ret<|sim_then_ret<|sim_block_ret ?_
           exact sim_then_ret<|body_ret1 rfl rfl h
         refine sim_skip<|zk ?_
         exact zt hkK11 h
       refine zs<|yh [119,120,121,122,123,124,125,126,127,128,129,130,131,132,133,134,135,136,137,138,139,140,141,142,143,144,145,146,147,148,149,150,151,152,153,154,155,156,157,158,159,160,161,162,163,164,165,166] h fun C hC h=>ye 0 hC h fun _ h=>?_
       refine ye 1 hC h fun _ h=>?_
       refine ye 2 hC h fun _ h=>?_
       refine ye 3 hC h fun _ h=>?_
       refine ye 4 hC h fun _ h=>?_
       refine yw 5 hC ?_
       refine yj1 34 [13,12,11,10,9,8,7,6,5,4,3,2,1,0] [125,126,127,128,129,130,131,132] 132 h (fun _ hT hb h=>?_) (fun _ hT hb h=>?_) fun σ w hC h=>?_
       · refine ye 6 hC h fun _ h=>?_
         refine ye 7 hC h fun _ h=>?_
         refine ye 8 hC h fun _ h=>?_
         refine ye 9 hC h fun _ h=>?_
         refine ye 10 hC h fun _ h=>?_
         refine ye 11 hC h fun _ h=>?_
         refine ye 12 hC h fun _ h=>?_
         refine ye 13 hC h fun _ h=>?_
         exact yt hT hC h
       · refine yi 6 hC ?_
         refine yi 7 hC ?_
         refine yi 8 hC ?_
         refine yi 9 hC ?_
         refine yi 10 hC ?_
         refine yi 11 hC ?_
         refine yi 12 hC ?_
         refine yi 13 hC ?_
         exact yt hT hC h
       refine yP 14 hC h fun _ h=>?_
       refine yw 15 hC ?_
       refine yj1 27 [20,19,18,17,16,15,14,13,12,11,10,9,8,7,6,5,4,3,2,1,0] [135,136,137,138,139] 139 h (fun _ hT hb h=>?_) (fun _ hT hb h=>?_) fun σ w hC h=>?_
       · refine ye 16 hC h fun _ h=>?_
         refine ye 17 hC h fun _ h=>?_
         refine ye 18 hC h fun _ h=>?_
         refine ye 19 hC h fun _ h=>?_
         refine ye 20 hC h fun _ h=>?_
         exact yt hT hC h
       · refine yi 16 hC ?_
         refine yi 17 hC ?_
         refine yi 18 hC ?_
         refine yi 19 hC ?_
         refine yi 20 hC ?_
         exact yt hT hC h
       refine yP 21 hC h fun _ h=>?_
       refine yw 22 hC ?_
       refine yj1 17 [30,29,28,27,26,25,24,23,22,21,20,19,18,17,16,15,14,13,12,11,10,9,8,7,6,5,4,3,2,1,0] [142,143,144,145,146,147,148,149] 149 h (fun _ hT hb h=>?_) (fun _ hT hb h=>?_) fun σ w hC h=>?_
       · refine ye 23 hC h fun _ h=>?_
         refine ye 24 hC h fun _ h=>?_
         refine ye 25 hC h fun _ h=>?_
         refine ye 26 hC h fun _ h=>?_
         refine ye 27 hC h fun _ h=>?_
         refine ye 28 hC h fun _ h=>?_
         refine ye 29 hC h fun _ h=>?_
         refine ye 30 hC h fun _ h=>?_
         exact yt hT hC h
       · refine yi 23 hC ?_
         refine yi 24 hC ?_
         refine yi 25 hC ?_
         refine yi 26 hC ?_
         refine yi 27 hC ?_
         refine yi 28 hC ?_
         refine yi 29 hC ?_
         refine yi 30 hC ?_
         exact yt hT hC h
       refine yP 31 hC h fun _ h=>?_
       refine yw 32 hC ?_
       refine yj1 11 [36,35,34,33,32,31,30,29,28,27,26,25,24,23,22,21,20,19,18,17,16,15,14,13,12,11,10,9,8,7,6,5,4,3,2,1,0] [152,153,154,155] 155 h (fun _ hT hb h=>?_) (fun _ hT hb h=>?_) fun σ w hC h=>?_
       · refine ye 33 hC h fun _ h=>?_
         refine ye 34 hC h fun _ h=>?_
         refine ye 35 hC h fun _ h=>?_
         refine yw 36 hC ?_
         exact yt hT hC h
       · refine yi 33 hC ?_
         refine yi 34 hC ?_
         refine yi 35 hC ?_
         refine yi 36 hC ?_
         exact yt hT hC h
       refine yj1 2 [45,44,43,42,41,40,39,38,37,36,35,34,33,32,31,30,29,28,27,26,25,24,23,22,21,20,19,18,17,16,15,14,13,12,11,10,9,8,7,6,5,4,3,2,1,0] [156,157,158,159,160,161,162,163,164] 164 h (fun _ hT hb h=>?_) (fun _ hT hb h=>?_) fun σ w hC h=>?_
       · refine ye 37 hC h fun _ h=>?_
         refine ye 38 hC h fun _ h=>?_
         refine yw 39 hC ?_
         refine yw 40 hC ?_
         refine ye 41 hC h fun _ h=>?_
         refine ye 42 hC h fun _ h=>?_
         refine ye 43 hC h fun _ h=>?_
         refine ye 44 hC h fun _ h=>?_
         refine ye 45 hC h fun _ h=>?_
         exact yt hT hC h
       · refine yi 37 hC ?_
         refine yi 38 hC ?_
         refine yi 39 hC ?_
         refine yi 40 hC ?_
         refine yi 41 hC ?_
         refine yi 42 hC ?_
         refine yi 43 hC ?_
         refine yi 44 hC ?_
         refine yi 45 hC ?_
         exact yt hT hC h
       refine yj1 1 [46,45,44,43,42,41,40,39,38,37,36,35,34,33,32,31,30,29,28,27,26,25,24,23,22,21,20,19,18,17,16,15,14,13,12,11,10,9,8,7,6,5,4,3,2,1,0] [165] 165 h (fun _ hT hb h=>?_) (fun _ hT hb h=>?_) fun σ w hC h=>?_
       · refine yP 46 hC h fun _ h=>?_
         exact yt hT hC h
       · refine yi 46 hC ?_
         exact yt hT hC h
       refine yP 47 hC h fun _ h=>?_
       refine yz<|zk<|yC h (fun h=>?_) fun h=>?_
       · refine zs<|zr<|zm<|zn<|zk<|sim_ret<|sim_then_ret<|sim_block_ret<|sim_then_ret<|sim_then_ret<|sim_block_ret<|sim_block_ret<|sim_then_ret<|sim_then_ret<|sim_block_ret ?_
         exact sim_then_ret<|body_ret1 rfl rfl h
       refine sim_skip<|zk ?_
       exact zt hkK11 h
     exact sim_block_normal<|zk<|zr<|zm<|yb h fun _ w h=>zm<|zn<|zk<|⟨rfl,h⟩
   exact sim_exit<|sim_then_exit<|sim_then_exit<|sim_block_hit<|sim_block_normal<|zk<|zr<|zm<|yb h fun _ w h=>zm<|zn<|zk<|⟨rfl,h⟩
 exact sim_exit<|sim_then_exit<|sim_then_exit<|sim_block_hit<|zk<|zs<|zr<|yc h c32 fun _ w h=>zm<|zn<|zk<|sim_ret<|body_ret1 rfl rfl h
theorem upI_rem {n p:Int} (hn:1≤n) (hp:0≤p):(upI p n).tmod n=0:=by
 obtain ⟨q,hq,he,hq1,hq2⟩:=upI_mul hp hn
 rw [he,Int.mul_tmod_right]
theorem adds_tail {w0 w:World} {b o c i p6 p8 p10:Nat} {f:FieldD} {tv cv:Value} {l:List FieldD} {sp:List (ByteArray×Int×Int)} {R:RT} {next4:Value→World→Prop} (hi:l[i]?=some f) (hlc:l.length≤c) (hcm:c≤9223372036854775807) (e:Ext w0 w) (hA:ElemAt w0 b (o+i*15) (fieldCells f tv cv)) (ok:OkM sp l)
 (x6:w.heap[p6]?=some (.cells #[.int .i64 (spanF sp l f).1,.int .i64 (spanF sp l f).2] 67 (0,0))) (x8:w.heap[p8]?=some (.cells #[.int .i64 (posS sp l i).1,.int .i64 (posS sp l i).2] 67 (0,0))) (x10:w.heap[p10]?=some (.cells #[.int .i64 (posS sp l (i+1)).1,.int .i64 (posS sp l (i+1)).2] 67 (0,0)))
 (hn:∀ w',Ext w w'→next4 (.int .i64 ((i:Int)+1)) w') :
 n4c13 (.int .i64 (i:Int)) (.pointer (some ⟨p6,0,none⟩)) (.pointer (some ⟨p8,0,none⟩)) (.pointer (some ⟨p10,0,none⟩)) (.int .i64 0) (.slice (some ⟨b,o,none⟩) l.length c) (.int .i64 0) (.int .i64 0) next4 R w:=by
 have hil:=(List.getElem?_eq_some_iff.1 hi).1
 have hfm:=List.mem_of_getElem? hi
 have hstp:=posS_step (sp:=sp) hi
 have hin:=posS_in ok i
 have hin':=posS_in ok (i+1)
 have h00:i=0→posS sp l i=(0,0):=fun h=>by subst h;rfl
 have hok:=ok.ok f hfm
 have hspan:=ok.span f hfm
 have hpad:=ok.pad f hfm
 have hsf:f.kind=10→spanF sp l f=(0,f.bits - 1):=fun h=>by unfold spanF;simp [h]
 generalize hP:posS sp l i=P at x8 hstp hin h00
 generalize hQ:posS sp l (i+1)=Q at x10 hstp hin'
 generalize hF:spanF sp l f=F at x6 hspan hsf
 have hmid:n4c8 (.int .i64 (i:Int)) (.pointer (some ⟨p6,0,none⟩)) (.pointer (some ⟨p8,0,none⟩)) (.pointer (some ⟨p10,0,none⟩)) (.slice (some ⟨b,o,none⟩) l.length c) next4 R w:=by
  unfold n4c8
  by_cases hk:f.kind=10
  · have d1:(f.kind != 10)=false:=by simp [hk]
    have hb:=hpad hk
    rw [hsf hk] at x6
    obtain ⟨q1,hq1,he1,ha1,hb1⟩:=upI_mul hin.1.1 hb.1
    obtain ⟨q2,hq2,he2,ha2,hb2⟩:=upI_mul hin.2.1 hb.1
    have hQ1:Q.1=capF (upI P.1 f.bits):=by rw [hstp];unfold stepQ;rw [if_pos hk]
    have hQ2:Q.2=capF (upI P.2 f.bits):=by rw [hstp];unfold stepQ;rw [if_pos hk]
    rw [← he1] at ha1 hb1
    rw [← he2] at ha2 hb2
    have c1:P.1≤Q.1∧Q.1≤P.1+(f.bits - 1)∧(Q.1 < 1099511627776→Q.1=upI P.1 f.bits):=by rw [hQ1];unfold capF;split<;>omega
    have c2:P.2≤Q.2∧Q.2≤P.2+(f.bits - 1):=by rw [hQ2];unfold capF;split<;>omega
    have d5:decide (Q.1 < P.1)=false:=decide_eq_false (by omega)
    have d6:decide (Q.1 > P.1+(f.bits - 1))=false:=decide_eq_false (by omega)
    have d7:decide (Q.2 < P.2)=false:=decide_eq_false (by omega)
    have d8:decide (Q.2 > P.2+(f.bits - 1))=false:=decide_eq_false (by omega)
    have v1:IntKind.i64.wrap (P.1+(f.bits - 1))=P.1+(f.bits - 1):=wrap_ok (by omega) (by omega)
    have v2:IntKind.i64.wrap (P.2+(f.bits - 1))=P.2+(f.bits - 1):=wrap_ok (by omega) (by omega)
    simp (disch:=try exact DI) only [↓PR,QR,simprocAttr,(hA.c15 e),d1]
    refine drawK_intro ?_
    have eD:Ext w w.drew:=(Ext.refl _).wdrew
    have qi:∀ K:Value→Prop,qV Pg (EC w.drew) (Instr.indexAt 42 (.slice (some ⟨b,o,none⟩) l.length c) (.int .i64 (i:Int))) K=K (.pointer (some ⟨b,o+i*15,none⟩)):=fun K=>qV_of fun QP w' k=>op_indexN Tryz.underlying42 ty38 b o l.length c .i64 i hil
    by_cases hlt:Q.1 < 1099511627776
    · have d9:decide (Q.1 < 1099511627776)=true:=decide_eq_true hlt
      have hbne:f.bits≠0:=by omega
      have hm:Q.1.tmod f.bits=0:=by rw [c1.2.2 hlt,upI_rem hb.1 hin.1.1]
      simp (disch:=try exact DI) only [↓PR,QR,simprocAttr,(cells_of_heap x10).1,(cells_of_heap x8).1,(cells_of_heap x6).1,↓n4c6,↓n4c5,↓n4c4,↓n4c3,↓n4c2,↓n4c1,d5,d6,d7,d8,d9,v1,v2,qi,hA.c15 e,hm]
      exact hn _ eD
    · have d9:decide (Q.1 < 1099511627776)=false:=decide_eq_false hlt
      simp (disch:=try exact DI) only [↓PR,QR,simprocAttr,(cells_of_heap x10).1,(cells_of_heap x8).1,(cells_of_heap x6).1,↓n4c6,↓n4c5,↓n4c4,↓n4c3,↓n4c2,↓n4c1,d5,d6,d7,d8,d9,v1,v2]
      exact hn _ eD
  · have d1:(f.kind != 10)=true:=by simp [hk]
    have hs:=hspan hk
    have hQ1:Q=(capF (P.1+F.1),capF (P.2+F.2)):=by rw [hstp];unfold stepQ;rw [if_neg hk,hF]
    have v1:IntKind.i64.wrap (P.1+F.1)=P.1+F.1:=wrap_ok (by omega) (by omega)
    have v2:IntKind.i64.wrap (P.2+F.2)=P.2+F.2:=wrap_ok (by omega) (by omega)
    have hcap:∀ v:Int,(if v < 1099511627776 then v else 1099511627776)=capF v:=fun v=>rfl
    have hdd:∀ n:Int,decide (n=n)=true:=fun n=>by simp
    subst hQ1
    simp (disch:=try exact DI) only [↓PR,QR,simprocAttr,(hA.c15 e),d1,↓n4c7,(cells_of_heap x10).1,(cells_of_heap x8).1,(cells_of_heap x6).1,v1,v2,hcap,hdd]
    exact hn _ (Ext.refl _)
 unfold n4c13
 by_cases h0:i=0
 · have d0:((i:Int) == 0)=true:=by simp [h0]
   rw [h00 h0] at x8
   simp (disch:=try exact DI) only [↓PR,QR,simprocAttr,d0,(cells_of_heap x8).1,↓n4c12,↓n4c11,↓n4c10,↓n4c9]
   exact hmid
 · have d0:((i:Int) == 0)=false:=by simp [h0]
   simp (disch:=try exact DI) only [↓PR,QR,simprocAttr,d0,↓n4c12,↓n4c11,↓n4c10,↓n4c9]
   exact hmid
theorem SpanAdds_ret (w0:World) (v:Value) (d:DefD) (hd:DefVal w0 v d) (hsm:DefSm d):Ret Pg 12 #[v] w0 fun r w'=>r = .bool true∧Ext w0 w':=by
 obtain ⟨mv,rfl,hM⟩:=hd
 obtain ⟨A,c,rfl,hlc,hcm,hlm,hel⟩:=SliceOf.open hM
 refine n4s (R:=retR _) ?_;unfold n4
 rw [op_boxA]
 have hBW:=ElemAt.new (w:=w0) (defCells d (.slice A d.msgs.length c)) (24)
 have eW:Ext w0 (w0.alloc (Obj.cells (List.toArray (defCells d (.slice A d.msgs.length c))) (24))):=(Ext.refl _).alloc _
 generalize (w0.alloc (Obj.cells (List.toArray (defCells d (.slice A d.msgs.length c))) (24)))=W at hBW eW ⊢
 simp (disch:=try exact DI) only [↓PR,QR,simprocAttr,hBW.c3 (Ext.refl W)]
 refine callK_ret (fits08_ret _ _ d ⟨_,rfl,hM.ext eW⟩ hsm) ?_
 rintro _ w1 ⟨b,rfl,hfit,e1⟩
 have E1:=eW.trans e1
 unfold n4c24
 cases b with
 | false =>
  simp (disch:=try exact DI) only [↓PR,QR,simprocAttr,↓n4c23,↓n4c22]
  refine zcr (known08_ret _) fun w2 e2=>?_
  exact ⟨_,rfl,rfl,E1.trans e2⟩
 | true =>
 have ht:=fits_calm (hfit rfl)
 have hS:=sound_of d ht
 have hl7:=(hfit rfl).1
 have hlf:∀ m∈d.msgs,m.fields.length≤1048576:=fun m hm=>by have:=le_sumF hm;have:=(hfit rfl).2.1;omega
 have hterms:∀ m∈d.msgs,∀ f∈m.fields,f.terms.length≤1048576:=fun m hm=>(ht m hm).2
 have hdv:∀ w,Ext w0 w→DefVal w (.agg #[.string d.name,.slice A d.msgs.length c,.string d.start]) d:=fun w e=>⟨_,rfl,hM.ext e⟩
 by_cases hten:(10:Int) < (d.msgs.length:Int)
 · have d1:decide ((d.msgs.length:Int) > 10)=true:=decide_eq_true hten
   simp (disch:=try exact DI) only [↓PR,QR,simprocAttr,hBW.c3 e1,d1,↓n4c23,↓n4c22]
   refine zcr (known08_ret _) fun w2 e2=>?_
   exact ⟨_,rfl,rfl,E1.trans e2⟩
 have d1:decide ((d.msgs.length:Int) > 10)=false:=decide_eq_false hten
 simp (disch:=try exact DI) only [↓PR,QR,simprocAttr,hBW.c3 e1,d1,↓n4c23]
 refine zcr (Valid_ret' _ d (hdv _ E1) ht) fun w2 e2=>?_
 have f2:=e1.trans e2
 have E2:=eW.trans f2
 by_cases hf:(checkP d).2.2=0
 case neg =>
  have hfb:flawedB d=true:=by unfold flawedB;simp [hf]
  rw [hfb]
  simp (disch:=try exact DI) only [↓PR,QR,simprocAttr,↓n4c22]
  refine zcr (known08_ret _) fun w3 e3=>?_
  exact ⟨_,rfl,rfl,E2.trans e3⟩
 have hfb:flawedB d=false:=by unfold flawedB;simp [hf]
 rw [hfb]
 have hfine:=(check_fine hf).2.2.1
 simp (disch:=try exact DI) only [↓PR,QR,simprocAttr,↓n4c22]
 refine loop1_intro (fun a w=>∃ k:Nat,a = .int .i64 k∧k≤d.msgs.length∧Ext W w) (fun a _=>d.msgs.length - (intOf a).toNat) ⟨0,rfl,by omega,f2⟩ ?_
 rintro _ w ⟨k,rfl,hk,e⟩
 have E:=eW.trans e
 unfold n4c21
 rcases drop_cases hk with ⟨m,hm,hdr,hlt,hdec⟩ | ⟨hk,hdr,hdec⟩
 · obtain ⟨b,o,cs,rfl,hl,hA,fv,rfl,hF⟩:=hel k m hm
   obtain ⟨A2,c2,rfl,hlc2,hcm2,hlm2,hel2⟩:=SliceOf.open hF
   have hmm:=List.mem_of_getElem? hm
   have hV:=hfine.allV k m hm
   have hsp:=spans_in hfine.allV hterms k (by omega)
   have okm:=okM_of hV.1 (hterms m hmm) hsp
   have hE:msgE d k=0:=by unfold msgE;rw [if_neg (by simp [hf]),if_neg (by omega)]
   have hL:msgL d k=m.fields:=by unfold msgL;rw [if_pos hE,Int.toNat_natCast,hm]
   have hG:∀ j:Nat,j < m.fields.length→errG d k j=0:=fun j hj=>by unfold errG;rw [if_neg (by simp [hE]),hL,if_neg (by omega)]
   have hmv:=hfine.msgV hm
   have hpv:=fun j=>hfine.posV (d:=d) j hm
   have hfv:=fun (j:Nat) (f:FieldD) (hj:m.fields[j]?=some f)=>hfine.fieldV (d:=d) hm hj
   generalize spansD (d.msgs.take k)=sp at hsp okm hmv hpv hfv
   simp (disch:=try exact DI) only [↓PR,QR,simprocAttr,hBW.c3 e,hdec,↓n4c20,(hA.c2 E).1,(hA.c2 E).2]
   refine loop1_intro (fun a w'=>∃ i:Nat,a = .int .i64 i∧i≤m.fields.length∧Ext w w') (fun a _=>m.fields.length - (intOf a).toNat) ⟨0,rfl,by omega,Ext.refl _⟩ ?_
   rintro _ w3 ⟨i,rfl,hi,e3⟩
   have f3:=e.trans e3
   have E3:=eW.trans f3
   unfold n4c19
   rcases drop_cases hi with ⟨f,hx,hdr',hlt',hdec'⟩ | ⟨hi,hdr',hdec'⟩
   · obtain ⟨b2,o2,cs2,rfl,_,hA2,hE2⟩:=hel2 i f hx
     obtain ⟨tv,cv,rfl,hT,hC,ht1,hc1⟩:=hE2.op
     simp (disch:=try exact DI) only [↓PR,QR,simprocAttr,hBW.c3 f3,hdec']
     refine zcr (FieldX_ret _ k i (hdv _ E3) ht hS (by omega)) fun w4 e4=>?_
     rw [getR_pk,show pkR (errG d k i) (fieldV d k i)=fieldV d k i by unfold pkR;rw [if_pos (hG i hlt')],hG i hlt',hfv i f hx]
     unfold n4c18
     generalize hF':spanF sp m.fields f=F
     have f4:Ext W (w4.alloc (.cells #[.int .i64 F.1,.int .i64 F.2] 67)):=(f3.trans e4).alloc _
     have x6:=heap_new w4 #[.int .i64 F.1,.int .i64 F.2] 67
     have g4:Ext w (w4.alloc (.cells #[.int .i64 F.1,.int .i64 F.2] 67)):=(e3.trans e4).alloc _
     simp (disch:=try exact DI) only [↓PR,QR,simprocAttr,hBW.c3 f4]
     generalize (w4.alloc (.cells #[.int .i64 F.1,.int .i64 F.2] 67))=wA at f4 x6 g4 ⊢
     generalize w4.heap.size=p6 at x6 ⊢
     refine zcr (PositionX_ret _ k i (hdv _ (eW.trans f4)) ht hS (by omega) hlf) fun w5 e5=>?_
     rw [getR_pk,show pkR (errG d k i) (posV d k i)=posV d k i by unfold pkR;rw [if_pos (hG i hlt')],hG i hlt',hpv i]
     unfold n4c17
     generalize hP':posS sp m.fields i=P
     have f5:Ext W (w5.alloc (.cells #[.int .i64 P.1,.int .i64 P.2] 67)):=(f4.trans e5).alloc _
     have x8:=heap_new w5 #[.int .i64 P.1,.int .i64 P.2] 67
     have g5:Ext wA (w5.alloc (.cells #[.int .i64 P.1,.int .i64 P.2] 67)):=e5.alloc _
     simp (disch:=try exact DI) only [↓PR,QR,simprocAttr,hBW.c3 f5]
     generalize (w5.alloc (.cells #[.int .i64 P.1,.int .i64 P.2] 67))=wB at f5 x8 g5 ⊢
     generalize w5.heap.size=p8 at x8 ⊢
     refine zcr (MessageX_ret _ k (hdv _ (eW.trans f5)) ht hS (by omega)) fun w6 e6=>?_
     rw [getR_pk,errG_0,hE,show pkR 0 (msgV d k)=msgV d k from rfl,hmv]
     unfold n4c16
     generalize hQ':posS sp m.fields m.fields.length=Q
     have f6:Ext W (w6.alloc (.cells #[.int .i64 Q.1,.int .i64 Q.2] 67)):=(f5.trans e6).alloc _
     have x10:=heap_new w6 #[.int .i64 Q.1,.int .i64 Q.2] 67
     have g6:Ext wB (w6.alloc (.cells #[.int .i64 Q.1,.int .i64 Q.2] 67)):=e6.alloc _
     have y6:=g6.obj (g5.obj x6)
     have y8:=g6.obj x8
     have gw:Ext w (w6.alloc (.cells #[.int .i64 Q.1,.int .i64 Q.2] 67)):=g4.trans (g5.trans g6)
     have hnx:∀ w':World,Ext w w'→(∃ j:Nat,Value.int .i64 ((i:Int)+1) = .int .i64 j∧j≤m.fields.length∧Ext w w')∧m.fields.length - (intOf (.int .i64 ((i:Int)+1))).toNat < m.fields.length - (intOf (.int .i64 (i:Int))).toNat:=fun w' e'=>⟨⟨i+1,rfl,by omega,e'⟩,meas_lt hlt'⟩
     have hw:IntKind.i64.wrap ((i:Int)+1)=(i:Int)+1:=wrap_ok (by omega) (by omega)
     have l6:=(Array.getElem?_eq_some_iff.1 (g5.obj x6)).1
     have l8:=(Array.getElem?_eq_some_iff.1 x8).1
     have s6:=e6.size
     have sw:=(g4.trans (g5.trans e6)).size
     have s0:=E.size
     by_cases hlast:i+1 < m.fields.length
     · have d2:decide ((i:Int)+1 < (m.fields.length:Int))=true:=decide_eq_true (by omega)
       simp (disch:=try exact DI) only [↓PR,QR,simprocAttr,hw,d2,hBW.c3 f6,↓n4c15]
       generalize (w6.alloc (.cells #[.int .i64 Q.1,.int .i64 Q.2] 67))=wC at f6 x10 y6 y8 gw ⊢
       generalize hp10:w6.heap.size=p10 at x10 ⊢
       have n6:p6≠p10:=by omega
       have n8:p8≠p10:=by omega
       rw [show (i:Int)+1=((i+1:Nat):Int) by omega]
       refine zcr (PositionX_ret _ k ((i+1:Nat):Int) (hdv _ (eW.trans f6)) ht hS (by omega) hlf) fun w7 e7=>?_
       rw [getR_pk,show pkR (errG d k ((i+1:Nat):Int)) (posV d k ((i+1:Nat):Int))=posV d k ((i+1:Nat):Int) by unfold pkR;rw [if_pos (hG (i+1) hlast)],hG (i+1) hlast,hpv (i+1)]
       have z10:=e7.obj x10
       have z6:=e7.obj y6
       have z8:=e7.obj y8
       have l10:=(Array.getElem?_eq_some_iff.1 z10).1
       unfold n4c14
       generalize hN':posS sp m.fields (i+1)=N
       simp (disch:=try exact DI) only [↓PR,QR,simprocAttr,(cells_of_heap z10).1,(cells_of_heap z10).2]
       subst hF' hP' hN'
       have e8:Ext w ((w7.setCell ⟨p10,0,none⟩ (.int .i64 (posS sp m.fields (i+1)).1)).setCell ⟨p10,1,none⟩ (.int .i64 (posS sp m.fields (i+1)).2)):=((gw.trans e7).setCell (p:=⟨p10,0,none⟩) (by show w.heap.size≤p10;omega) _).setCell (p:=⟨p10,1,none⟩) (by show w.heap.size≤p10;omega) _
       exact adds_tail hx hlc2 hcm2 (E.trans e8) hA2 okm (by rw [heap_setE n6,heap_setE n6];exact z6) (by rw [heap_setE n8,heap_setE n8];exact z8) (by simpa using heap_set (o:=1) (heap_set (o:=0) z10 (.int .i64 (posS sp m.fields (i+1)).1)) (.int .i64 (posS sp m.fields (i+1)).2)) fun w' e'=>hnx w' (e8.trans e')
     · have d2:decide ((i:Int)+1 < (m.fields.length:Int))=false:=decide_eq_false (by omega)
       obtain hil:i+1=m.fields.length:=by omega
       simp (disch:=try exact DI) only [↓PR,QR,simprocAttr,hw,d2]
       rw [← hil] at hQ'
       subst hF' hP' hQ'
       exact adds_tail hx hlc2 hcm2 (eW.trans f6) hA2 okm y6 y8 x10 fun w' e'=>hnx w' (gw.trans e')
   · subst hi
     simp (disch:=try exact DI) only [↓PR,QR,simprocAttr,hdec']
     exact ⟨⟨k+1,rfl,by omega,f3⟩,meas_lt hlt⟩
 · subst hk
   simp (disch:=try exact DI) only [↓PR,QR,simprocAttr,hBW.c3 e,hdec]
   refine zcr (known08_ret _) fun w3 e3=>?_
   exact ⟨_,rfl,rfl,E.trans e3⟩
end Go.Proofs.YtdfhjlggcdemhaaGreat
namespace Go.Proofs.YtdfhjlggcdemhaaGreat
open Sw
open Go.ChangeShapes Go.WideShapes Go.RowKit Go.ChangeAt Go.Deep
theorem sadds_own:ownKnob Pg.godebug=none:=by kernel_rfl
theorem sadds_laidOut:laidOutB Pg=true:=by kernel_rfl
theorem sadds_lifted (os:Os) (started:os.Started) (H:Type) (enc:TypeId×Value→H) :
 ReturnsInHanded {} Tryz.checked os 12 .any (Rows.spanAddsSpec.pre6 enc Pg Tryz.f12 Rows.spanAddsRow.domain false) (Rows.spanAddsSpec.post enc Pg Tryz.f12 false true false false):=by
 refine returnsInHanded_of_change_sized (C:=Tryz.checked) sadds_own started (by kernel_rfl) Tryz.func12
  (ChangeSpec.witness6 (enc:=enc) (C:=Tryz.checked) false ⟨#[],#[.agg #[.string ByteArray.empty,.slice none 0 0,.string ByteArray.empty]],[]⟩ 8 (by kernel_rfl) (by kernel_rfl) (by kernel_rfl) (by kernel_rfl)) ?_
 intro W base args ds gs before hval hW _ hsz _
 have hW':=hW
 obtain ⟨p,q,hA0,hV,rfl,_,_⟩:=hW
 have hA:DataW.TrodAll enc Pg W 0 (fun _=>true) true Tryz.f12.params.toList args.toList ds p:=hA0
 rw [Tryz.params12] at hA hval hsz
 obtain ⟨v0,vs0,d0,ds0,p0,q0,ha0,rfl,rfl,h0,r0⟩:=trodAll_cons hA
 obtain ⟨rfl,rfl,rfl⟩:=trodAll_nil r0
 obtain rfl:args = #[v0]:=by cases args;simp_all
 obtain ⟨f0,hf0,hs0⟩:=def_val (hval 0 _ v0 rfl rfl) h0 (reached_of (j:=0) hsz rfl rfl)
 refine Calls.mono (SpanAdds_ret W v0 f0 hf0 hs0) fun e W' ⟨v,he,hv,hx⟩=>?_
 subst he hv
 exact ⟨_,rfl,law_post sadds_laidOut (by decide +kernel) rfl hW' hx rfl Tryz.underlying4 rfl rfl rfl⟩
theorem sadds_holds:Rows.SpanAddsSaid :=
 OpenClaim.holds_of_wide 12 Tryz.f12 rfl rfl rfl rfl rfl rfl rfl ⟨rfl,rfl,rfl,rfl,rfl⟩ rfl rfl rfl rfl rfl (by kernel_rfl) Tryz.func12 (by kernel_rfl)
  (of_decide_eq_true (by kernel_rfl)) (by unfold Func.isWrapper;first | (rw [if_pos (by decide +kernel)];kernel_rfl) | (rw [if_neg (by decide +kernel)];exact ⟨rfl,rfl⟩))
  (fun os started H enc _=>sadds_lifted os started H enc)
end Go.Proofs.YtdfhjlggcdemhaaGreat
