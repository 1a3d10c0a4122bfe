/-
  Lemmas for the claim.
-/
import Derived.Test.YtfjjgjjlebllmaaGreatQt3
set_option linter.all false
set_option maxHeartbeats 4000000
set_option maxRecDepth 100000
namespace Go.Proofs.YtfjjgjjlebllmaaGreat
open Sw
open Go.RowKit (intOf Below)
def Clears (g:FuncId) (cl:FieldD→FieldD) (ct cc:Bool):Prop:=∀ (w:World) (p:Nat) (f:FieldD) (tv cv:Value),tv.oneCell'=true→cv.oneCell'=true→w.heap[p]?=some (.cells (fieldCells f tv cv).toArray 48 (0,0)) →
 Ret Pg g #[.pointer (some ⟨p,0,none⟩)] w fun _ w'=>w'.heap[p]?=some (.cells (fieldCells (cl f) (if ct then .slice none 0 0 else tv) (if cc then .slice none 0 0 else cv)).toArray 48 (0,0))∧∀ a,Ext a w→a.heap.size≤p→Ext a w'
def clear1 (f:FieldD):FieldD:={ f with bits:=0,little:=false,low:=0,high:=0 }
theorem clears1:Clears 193 clear1 false false:=by
 intro w p f tv cv ht1 hc1 hp
 have hlt:=(Array.getElem?_eq_some_iff.1 hp).1
 refine n40s (R:=retR _) ?_;unfold n40
 simp (disch:=try exact DI) only [↓PR,QR,simprocAttr,Sw.joinK_eq,(cells_of_heap hp).1,(cells_of_heap hp).2]
 refine ⟨?_,fun a e hp'=>?_⟩
 · simp only [heap_set_map,hp,Option.map_some,setObj_cells,List.setIfInBounds_toArray,List.set_cons_zero,List.set_cons_succ,Bool.false_eq_true,if_false,if_true]
   try rfl
 · exact ee
def clear2 (f:FieldD):FieldD:={ f with bits:=0,little:=false,low:=0 }
theorem clears2:Clears 197 clear2 false false:=by
 intro w p f tv cv ht1 hc1 hp
 have hlt:=(Array.getElem?_eq_some_iff.1 hp).1
 refine n55s (R:=retR _) ?_;unfold n55
 simp (disch:=try exact DI) only [↓PR,QR,simprocAttr,Sw.joinK_eq,(cells_of_heap hp).1,(cells_of_heap hp).2]
 refine ⟨?_,fun a e hp'=>?_⟩
 · simp only [heap_set_map,hp,Option.map_some,setObj_cells,List.setIfInBounds_toArray,List.set_cons_zero,List.set_cons_succ,Bool.false_eq_true,if_false,if_true]
   try rfl
 · exact ee
def clear3 (f:FieldD):FieldD:={ f with loose:=false,low:=0,high:=0 }
theorem clears3:Clears 199 clear3 false false:=by
 intro w p f tv cv ht1 hc1 hp
 have hlt:=(Array.getElem?_eq_some_iff.1 hp).1
 refine n57s (R:=retR _) ?_;unfold n57
 simp (disch:=try exact DI) only [↓PR,QR,simprocAttr,Sw.joinK_eq,(cells_of_heap hp).1,(cells_of_heap hp).2]
 refine ⟨?_,fun a e hp'=>?_⟩
 · simp only [heap_set_map,hp,Option.map_some,setObj_cells,List.setIfInBounds_toArray,List.set_cons_zero,List.set_cons_succ,Bool.false_eq_true,if_false,if_true]
   try rfl
 · exact ee
def clear4 (f:FieldD):FieldD:={ f with base:=0,terms:=[] }
theorem clears4:Clears 201 clear4 true false:=by
 intro w p f tv cv ht1 hc1 hp
 have hlt:=(Array.getElem?_eq_some_iff.1 hp).1
 refine n59s (R:=retR _) ?_;unfold n59
 simp (disch:=try exact DI) only [↓PR,QR,simprocAttr,Sw.joinK_eq,(cells_of_heap hp).1,(cells_of_heap hp).2]
 refine ⟨?_,fun a e hp'=>?_⟩
 · simp only [heap_set_map,hp,Option.map_some,setObj_cells,List.setIfInBounds_toArray,List.set_cons_zero,List.set_cons_succ,Bool.false_eq_true,if_false,if_true]
   try rfl
 · exact ee
def clear5 (f:FieldD):FieldD:={ f with low:=0,high:=0 }
theorem clears5:Clears 203 clear5 false false:=by
 intro w p f tv cv ht1 hc1 hp
 have hlt:=(Array.getElem?_eq_some_iff.1 hp).1
 refine n60s (R:=retR _) ?_;unfold n60
 simp (disch:=try exact DI) only [↓PR,QR,simprocAttr,Sw.joinK_eq,(cells_of_heap hp).1,(cells_of_heap hp).2]
 refine ⟨?_,fun a e hp'=>?_⟩
 · simp only [heap_set_map,hp,Option.map_some,setObj_cells,List.setIfInBounds_toArray,List.set_cons_zero,List.set_cons_succ,Bool.false_eq_true,if_false,if_true]
   try rfl
 · exact ee
def clear6 (f:FieldD):FieldD:={ f with loose:=false,high:=0 }
theorem clears6:Clears 205 clear6 false false:=by
 intro w p f tv cv ht1 hc1 hp
 have hlt:=(Array.getElem?_eq_some_iff.1 hp).1
 refine n41s (R:=retR _) ?_;unfold n41
 simp (disch:=try exact DI) only [↓PR,QR,simprocAttr,Sw.joinK_eq,(cells_of_heap hp).1,(cells_of_heap hp).2]
 refine ⟨?_,fun a e hp'=>?_⟩
 · simp only [heap_set_map,hp,Option.map_some,setObj_cells,List.setIfInBounds_toArray,List.set_cons_zero,List.set_cons_succ,Bool.false_eq_true,if_false,if_true]
   try rfl
 · exact ee
def clear7 (f:FieldD):FieldD:={ f with of:=ByteArray.empty,base:=0,terms:=[] }
theorem clears7:Clears 207 clear7 true false:=by
 intro w p f tv cv ht1 hc1 hp
 have hlt:=(Array.getElem?_eq_some_iff.1 hp).1
 refine n43s (R:=retR _) ?_;unfold n43
 simp (disch:=try exact DI) only [↓PR,QR,simprocAttr,Sw.joinK_eq,(cells_of_heap hp).1,(cells_of_heap hp).2]
 refine ⟨?_,fun a e hp'=>?_⟩
 · simp only [heap_set_map,hp,Option.map_some,setObj_cells,List.setIfInBounds_toArray,List.set_cons_zero,List.set_cons_succ,Bool.false_eq_true,if_false,if_true]
   try rfl
 · exact ee
def clear8 (f:FieldD):FieldD:={ f with of:=ByteArray.empty }
theorem clears8:Clears 210 clear8 false false:=by
 intro w p f tv cv ht1 hc1 hp
 have hlt:=(Array.getElem?_eq_some_iff.1 hp).1
 refine n45s (R:=retR _) ?_;unfold n45
 simp (disch:=try exact DI) only [↓PR,QR,simprocAttr,Sw.joinK_eq,(cells_of_heap hp).1,(cells_of_heap hp).2]
 refine ⟨?_,fun a e hp'=>?_⟩
 · simp only [heap_set_map,hp,Option.map_some,setObj_cells,List.setIfInBounds_toArray,List.set_cons_zero,List.set_cons_succ,Bool.false_eq_true,if_false,if_true]
   try rfl
 · exact ee
def clear9 (f:FieldD):FieldD:={ f with tag:=ByteArray.empty,cases:=[] }
theorem clears9:Clears 212 clear9 false true:=by
 intro w p f tv cv ht1 hc1 hp
 have hlt:=(Array.getElem?_eq_some_iff.1 hp).1
 refine n47s (R:=retR _) ?_;unfold n47
 simp (disch:=try exact DI) only [↓PR,QR,simprocAttr,Sw.joinK_eq,(cells_of_heap hp).1,(cells_of_heap hp).2]
 refine ⟨?_,fun a e hp'=>?_⟩
 · simp only [heap_set_map,hp,Option.map_some,setObj_cells,List.setIfInBounds_toArray,List.set_cons_zero,List.set_cons_succ,Bool.false_eq_true,if_false,if_true]
   try rfl
 · exact ee
def clear10 (f:FieldD):FieldD:={ f with bits:=0 }
theorem clears10:Clears 214 clear10 false false:=by
 intro w p f tv cv ht1 hc1 hp
 have hlt:=(Array.getElem?_eq_some_iff.1 hp).1
 refine n48s (R:=retR _) ?_;unfold n48
 simp (disch:=try exact DI) only [↓PR,QR,simprocAttr,Sw.joinK_eq,(cells_of_heap hp).1,(cells_of_heap hp).2]
 refine ⟨?_,fun a e hp'=>?_⟩
 · simp only [heap_set_map,hp,Option.map_some,setObj_cells,List.setIfInBounds_toArray,List.set_cons_zero,List.set_cons_succ,Bool.false_eq_true,if_false,if_true]
   try rfl
 · exact ee
def clear11 (f:FieldD):FieldD:={ f with fr:=ByteArray.empty,check:=0 }
theorem clears11:Clears 216 clear11 false false:=by
 intro w p f tv cv ht1 hc1 hp
 have hlt:=(Array.getElem?_eq_some_iff.1 hp).1
 refine n50s (R:=retR _) ?_;unfold n50
 simp (disch:=try exact DI) only [↓PR,QR,simprocAttr,Sw.joinK_eq,(cells_of_heap hp).1,(cells_of_heap hp).2]
 refine ⟨?_,fun a e hp'=>?_⟩
 · simp only [heap_set_map,hp,Option.map_some,setObj_cells,List.setIfInBounds_toArray,List.set_cons_zero,List.set_cons_succ,Bool.false_eq_true,if_false,if_true]
   try rfl
 · exact ee
def clear12 (f:FieldD):FieldD:={ f with of:=ByteArray.empty,base:=0,terms:=[],key:=0 }
theorem clears12:Clears 218 clear12 true false:=by
 intro w p f tv cv ht1 hc1 hp
 have hlt:=(Array.getElem?_eq_some_iff.1 hp).1
 refine n53s (R:=retR _) ?_;unfold n53
 simp (disch:=try exact DI) only [↓PR,QR,simprocAttr,Sw.joinK_eq,(cells_of_heap hp).1,(cells_of_heap hp).2]
 refine ⟨?_,fun a e hp'=>?_⟩
 · simp only [heap_set_map,hp,Option.map_some,setObj_cells,List.setIfInBounds_toArray,List.set_cons_zero,List.set_cons_succ,Bool.false_eq_true,if_false,if_true]
   try rfl
 · exact ee
abbrev kindEnc:Int→Value:=fun n => .int .i64 n
def KindsIn (L:List (Int×Value×Nat)):Prop:=(∀ k,¬ (1≤k∧k≤12)→Sw.look L k=none)∧Sw.look L 1=some (.agg #[.func (.func 193) #[] #[],.func (.func 194) #[] #[]])∧Sw.look L 2=some (.agg #[.func (.func 197) #[] #[],.func (.func 198) #[] #[]])∧Sw.look L 3=some (.agg #[.func (.func 199) #[] #[],.func (.func 200) #[] #[]])∧Sw.look L 4=some (.agg #[.func (.func 201) #[] #[],.func (.func 202) #[] #[]])∧Sw.look L 5=some (.agg #[.func (.func 203) #[] #[],.func (.func 204) #[] #[]])∧Sw.look L 6=some (.agg #[.func (.func 205) #[] #[],.func (.func 206) #[] #[]])∧Sw.look L 7=some (.agg #[.func (.func 207) #[] #[],.func (.func 208) #[] #[]])∧Sw.look L 8=some (.agg #[.func (.func 210) #[] #[],.func (.func 211) #[] #[]])∧Sw.look L 9=some (.agg #[.func (.func 212) #[] #[],.func (.func 213) #[] #[]])∧Sw.look L 10=some (.agg #[.func (.func 214) #[] #[],.func (.func 215) #[] #[]])∧Sw.look L 11=some (.agg #[.func (.func 216) #[] #[],.func (.func 217) #[] #[]])∧Sw.look L 12=some (.agg #[.func (.func 218) #[] #[],.func (.func 219) #[] #[]])
theorem kind_step {w0 w:World} {m c:Nat} {L:List (Int×Value×Nat)} {QP:List PanicEntry→World→Prop} {ku:World→Prop} (hM:MapB w m kindEnc L c) (e:Ext w0 w) (hm:w0.heap.size≤m) (k:Int) (v:Value)
 (h:∀ w' L' c',MapB w' m kindEnc L' c'→(∀ k',Sw.look L' k'=if k'=k then some v else Sw.look L k')→Ext w0 w'→ku w'):opU Pg (Instr.mapUpdate 221 (.map (some m)) (.int .i64 k) v) QP w ku:=by
 rw [op_mapUpdate Tryz.underlying221 (KeyOK.int Tryz.underlying42) hM k v]
 exact h _ _ _ (hM.put k v) (fun k'=>look_put _ _ _ _ _) (e.putObj hm _)
theorem kinds_ret (w0:World):Ret Pg 185 #[] w0 fun r w'=>∃ m L c,r = .map (some m)∧w0.heap.size≤m∧MapB w' m kindEnc L c∧KindsIn L∧Ext w0 w':=by
 refine n39s (R:=retR _) ?_;unfold n39
 simp (disch:=try exact DI) only [↓PR,QR,simprocAttr]
 have hM0:MapB (w0.alloc (.map #[] 0)) w0.heap.size kindEnc [] 0:=MapB.new w0 _
 have e0:Ext w0 (w0.alloc (.map #[] 0)):=ee
 refine kind_step hM0 e0 (Nat.le_refl _) 1 _ (fun w1 L1 c1 hM1 hl1 e1=>?_)
 simp (disch:=try exact DI) only [↓PR,QR,simprocAttr]
 refine kind_step hM1 e1 (Nat.le_refl _) 2 _ (fun w2 L2 c2 hM2 hl2 e2=>?_)
 simp (disch:=try exact DI) only [↓PR,QR,simprocAttr]
 refine kind_step hM2 e2 (Nat.le_refl _) 3 _ (fun w3 L3 c3 hM3 hl3 e3=>?_)
 simp (disch:=try exact DI) only [↓PR,QR,simprocAttr]
 refine kind_step hM3 e3 (Nat.le_refl _) 4 _ (fun w4 L4 c4 hM4 hl4 e4=>?_)
 simp (disch:=try exact DI) only [↓PR,QR,simprocAttr]
 refine kind_step hM4 e4 (Nat.le_refl _) 5 _ (fun w5 L5 c5 hM5 hl5 e5=>?_)
 simp (disch:=try exact DI) only [↓PR,QR,simprocAttr]
 refine kind_step hM5 e5 (Nat.le_refl _) 6 _ (fun w6 L6 c6 hM6 hl6 e6=>?_)
 simp (disch:=try exact DI) only [↓PR,QR,simprocAttr]
 refine kind_step hM6 e6 (Nat.le_refl _) 7 _ (fun w7 L7 c7 hM7 hl7 e7=>?_)
 simp (disch:=try exact DI) only [↓PR,QR,simprocAttr]
 refine kind_step hM7 e7 (Nat.le_refl _) 8 _ (fun w8 L8 c8 hM8 hl8 e8=>?_)
 simp (disch:=try exact DI) only [↓PR,QR,simprocAttr]
 refine kind_step hM8 e8 (Nat.le_refl _) 9 _ (fun w9 L9 c9 hM9 hl9 e9=>?_)
 simp (disch:=try exact DI) only [↓PR,QR,simprocAttr]
 refine kind_step hM9 e9 (Nat.le_refl _) 10 _ (fun w10 L10 c10 hM10 hl10 e10=>?_)
 simp (disch:=try exact DI) only [↓PR,QR,simprocAttr]
 refine kind_step hM10 e10 (Nat.le_refl _) 11 _ (fun w11 L11 c11 hM11 hl11 e11=>?_)
 simp (disch:=try exact DI) only [↓PR,QR,simprocAttr]
 refine kind_step hM11 e11 (Nat.le_refl _) 12 _ (fun w12 L12 c12 hM12 hl12 e12=>?_)
 simp (disch:=try exact DI) only [↓PR,QR,simprocAttr]
 have hn:∀ k,Sw.look ([]:List (Int×Value×Nat)) k=none:=fun _=>rfl
 refine ⟨_,_,_,rfl,Nat.le_refl _,hM12,⟨fun k hk=>?_,?_,?_,?_,?_,?_,?_,?_,?_,?_,?_,?_,?_⟩,e12⟩
 · rw [hl12,if_neg (by omega),hl11,if_neg (by omega),hl10,if_neg (by omega),hl9,if_neg (by omega),hl8,if_neg (by omega),hl7,if_neg (by omega),hl6,if_neg (by omega),hl5,if_neg (by omega),hl4,if_neg (by omega),hl3,if_neg (by omega),hl2,if_neg (by omega),hl1,if_neg (by omega),hn]
 · rw [hl12,if_neg (by decide),hl11,if_neg (by decide),hl10,if_neg (by decide),hl9,if_neg (by decide),hl8,if_neg (by decide),hl7,if_neg (by decide),hl6,if_neg (by decide),hl5,if_neg (by decide),hl4,if_neg (by decide),hl3,if_neg (by decide),hl2,if_neg (by decide),hl1,if_pos rfl]
 · rw [hl12,if_neg (by decide),hl11,if_neg (by decide),hl10,if_neg (by decide),hl9,if_neg (by decide),hl8,if_neg (by decide),hl7,if_neg (by decide),hl6,if_neg (by decide),hl5,if_neg (by decide),hl4,if_neg (by decide),hl3,if_neg (by decide),hl2,if_pos rfl]
 · rw [hl12,if_neg (by decide),hl11,if_neg (by decide),hl10,if_neg (by decide),hl9,if_neg (by decide),hl8,if_neg (by decide),hl7,if_neg (by decide),hl6,if_neg (by decide),hl5,if_neg (by decide),hl4,if_neg (by decide),hl3,if_pos rfl]
 · rw [hl12,if_neg (by decide),hl11,if_neg (by decide),hl10,if_neg (by decide),hl9,if_neg (by decide),hl8,if_neg (by decide),hl7,if_neg (by decide),hl6,if_neg (by decide),hl5,if_neg (by decide),hl4,if_pos rfl]
 · rw [hl12,if_neg (by decide),hl11,if_neg (by decide),hl10,if_neg (by decide),hl9,if_neg (by decide),hl8,if_neg (by decide),hl7,if_neg (by decide),hl6,if_neg (by decide),hl5,if_pos rfl]
 · rw [hl12,if_neg (by decide),hl11,if_neg (by decide),hl10,if_neg (by decide),hl9,if_neg (by decide),hl8,if_neg (by decide),hl7,if_neg (by decide),hl6,if_pos rfl]
 · rw [hl12,if_neg (by decide),hl11,if_neg (by decide),hl10,if_neg (by decide),hl9,if_neg (by decide),hl8,if_neg (by decide),hl7,if_pos rfl]
 · rw [hl12,if_neg (by decide),hl11,if_neg (by decide),hl10,if_neg (by decide),hl9,if_neg (by decide),hl8,if_pos rfl]
 · rw [hl12,if_neg (by decide),hl11,if_neg (by decide),hl10,if_neg (by decide),hl9,if_pos rfl]
 · rw [hl12,if_neg (by decide),hl11,if_neg (by decide),hl10,if_pos rfl]
 · rw [hl12,if_neg (by decide),hl11,if_pos rfl]
 · rw [hl12,if_pos rfl]
def bareF (f:FieldD):FieldD:={ name:=f.name,kind:=f.kind,bits:=0,little:=false,loose:=false,low:=0,high:=0,base:=0,terms:=[],of:=ByteArray.empty,tag:=ByteArray.empty,fr:=ByteArray.empty,cases:=[],check:=0,key:=0 }
section
variable {w0:World} {cb md ms:Nat} {deps strs:List (ByteArray×Value)} {at_ fld:Int} {fs:List FieldD}
theorem exa_tail {a0:World} (e00:Ext a0 w0) (h:Chk w0 cb md ms deps strs at_ fld fs) (p3 p6:Nat) (f:FieldD) (tv cv:Value) (hT:TermsOf w0 tv f.terms) (hC:CasesOf w0 cv f.cases) (o3:w0.heap[p3]?=some (.cells (fieldCells f tv cv).toArray 48 (0,0)))
 (g1 g2:FuncId) (o6:w0.heap[p6]?=some (.cells #[.func (.func g1) #[] #[],.func (.func g2) #[] #[]] 219 (0,0))) (hc1:Callable Pg g1) (hc2:Callable Pg g2) (cl:FieldD→FieldD) (ct cc:Bool) (hcl:Clears g1 cl ct cc)
 (hterms:(cl f).terms=if ct then [] else f.terms) (hcases:(cl f).cases=if cc then [] else f.cases) (code:Int)
 (hchk:∀ w v,Chk w cb md ms deps strs at_ fld fs→FieldVal w v f→Calls Pg g2 #[.pointer (some ⟨cb,0,none⟩),v] w (flwR w at_ fld code)) :
 n29c3 (.pointer (some ⟨cb,0,none⟩)) (.pointer (some ⟨p3,0,none⟩)) (.pointer (some ⟨p6,0,none⟩)) (flwR a0 at_ fld (orC (needC (decide (cl f=bareF f)) 5) code)) w0:=by
 have ht1:=SliceOf.oneCell hT
 have hv1:=SliceOf.oneCell hC
 have l6:p6 < w0.heap.size:=(Array.getElem?_eq_some_iff.1 o6).1
 unfold n29c3
 simp (disch:=try exact DI) only [↓PR,QR,simprocAttr,(cells_of_heap o3).1,(cells_of_heap o6).1]
 have e1:Ext w0 (w0.alloc (Obj.cells (fieldCells f tv cv).toArray 48)):=ee
 have o7:=heap_new w0 (fieldCells f tv cv).toArray 48
 rw [callV_func hc1]
 simp only [Array.empty_append,Array.append_empty]
 refine callK_ret (hcl _ w0.heap.size f tv cv ht1 hv1 o7) ?_
 rintro r w2 ⟨o7',hE⟩
 have e2:=hE w0 e1 (Nat.le_refl _)
 clear hE o7 e1
 have hT2:TermsOf w2 (if ct then .slice none 0 0 else tv) (cl f).terms:=by
  rw [hterms]
  cases ct
  · exact TermsOf.ext hT e2
  · exact SliceOf.nil _ _ _
 have hC2:CasesOf w2 (if cc then .slice none 0 0 else cv) (cl f).cases:=by
  rw [hcases]
  cases cc
  · exact CasesOf.ext hC e2
  · exact SliceOf.nil _ _ _
 generalize (if ct=true then Value.slice none 0 0 else tv)=tv2 at o7' hT2
 generalize (if cc=true then Value.slice none 0 0 else cv)=cv2 at o7' hC2
 generalize cl f=g at o7' hT2 hC2 ⊢
 have o3':=e2.obj o3
 clear hterms hcases hcl
 unfold n29c2
 have hL:Loads Pg w2 48 ⟨w0.heap.size,0,none⟩ (.agg (fieldCells g tv2 cv2).toArray):=Loads.many ty48 rfl (fun j v hv=>by rw [Addr.add_lit,(cells_of_heap o7').1];simpa using hv)
 refine (op_load hL).mpr ?_
 simp (disch:=try exact DI) only [↓PR,QR,simprocAttr,(cells_of_heap o3').1]
 refine zcr (sameField_ret w2 _ _ g (bareF f) ⟨_,_,rfl,hT2,hC2⟩ ⟨.slice none 0 0,.slice none 0 0,rfl,SliceOf.nil _ _ _,SliceOf.nil _ _ _⟩) fun w3 e3=>?_
 have e23:=e2.trans e3
 refine callK_flw (need_flw (h.ext e23) _ 5 (by decide)) (fun w4 e4 h0=>?_) (fun w4 e4 h0=>?_)
 · rw [h0,orC_zero]
   have e24:=e23.trans e4
   simp (disch:=try exact DI) only [↓PR,QR,simprocAttr,↓n29c1,(cells_of_heap (e24.obj o6)).1,(cells_of_heap (e24.obj o3)).1]
   rw [callV_func hc2]
   simp only [Array.empty_append,Array.append_empty]
   refine callK_flw (hchk w4 _ (h.ext e24) ⟨tv,cv,rfl,TermsOf.ext hT e24,CasesOf.ext hC e24⟩) (fun w5 e5 h0=>?_) (fun w5 e5 h0=>?_)
   · exact flwR_ret (e00.trans (e24.trans e5)) h0
   · exact flwR_pan (e00.trans (e24.trans e5)) rfl h0
 · rw [orC_ne h0]
   exact flwR_pan (e00.trans (e23.trans e4)) rfl h0
end
def checkC (bef:List FieldD) (deps strs:List (ByteArray×Value)) (f:FieldD):Int :=
 if f.kind=1 then orC (needC (bitsB f) 6) (withinC (topF f) 0 [f.low,f.high]) else
 if f.kind=2 then orC (needC (bitsB f) 6) (withinC (topF f) 0 [f.low]) else
 if f.kind=3 then withinC 34359738367 0 [f.low,f.high] else
 if f.kind=4 then sizedC (numR bef) f else
 if f.kind=5 then orC (withinC 255 0 [f.low]) (withinC 1048576 0 [f.high]) else
 if f.kind=6 then withinC 1048576 2 [f.high] else
 if f.kind=7 then orC (needC (lastOf deps f.of).isSome 8) (sizedC (numR bef) f) else
 if f.kind=8 then needC (lastOf deps f.of).isSome 8 else
 if f.kind=9 then casesC bef deps f else
 if f.kind=10 then needC (padB f) 6 else
 if f.kind=11 then orC (withinC 3 1 [f.check]) (needC (bef.any fun o=>decide (o.name=f.fr)) 8) else
 if f.kind=12 then orC (withinC 4294967295 0 [f.key]) (orC (needC (strB strs f.of) 8) (sizedC (numR bef) f)) else 0
def clearK (f:FieldD):FieldD :=
 if f.kind=1 then clear1 f else
 if f.kind=2 then clear2 f else
 if f.kind=3 then clear3 f else
 if f.kind=4 then clear4 f else
 if f.kind=5 then clear5 f else
 if f.kind=6 then clear6 f else
 if f.kind=7 then clear7 f else
 if f.kind=8 then clear8 f else
 if f.kind=9 then clear9 f else
 if f.kind=10 then clear10 f else
 if f.kind=11 then clear11 f else
 if f.kind=12 then clear12 f else f
def examineC (bef:List FieldD) (deps strs:List (ByteArray×Value)) (f:FieldD):Int :=
 orC (needC (nameB f.name) 1) (orC (needC (!bef.any fun o=>decide (o.name=f.name)) 2) (orC (needC (decide (1≤f.kind∧f.kind≤12)) 4) (orC (needC (decide (clearK f=bareF f)) 5) (checkC bef deps strs f))))
section
variable {w0:World} {cb md ms:Nat} {deps strs:List (ByteArray×Value)} {at_ fld:Int} {fs:List FieldD}
theorem exa_mid {a0:World} (e00:Ext a0 w0) (h:Chk w0 cb md ms deps strs at_ fld fs) (i:Nat) (hi:fld=i) (hlt:i < fs.length) (p3 p6:Nat) (f:FieldD) (tv cv:Value) (ht:f.terms.length≤1048576) (hT:TermsOf w0 tv f.terms) (hC:CasesOf w0 cv f.cases) (o3:w0.heap[p3]?=some (.cells (fieldCells f tv cv).toArray 48 (0,0)))
 (L:List (Int×Value×Nat)) (hL:KindsIn L) (a b:Value) (ok:Bool) (hab:(Sw.look L f.kind).getD (.agg #[.nilFunc,.nilFunc]) = .agg #[a,b]) (hok:ok=(Sw.look L f.kind).isSome) (o6:w0.heap[p6]?=some (.cells #[a,b] 219 (0,0))) :
 callK Pg 122 #[.pointer (some ⟨cb,0,none⟩),.bool ok,.int .i64 4] (panK (flwR a0 at_ fld (orC (needC (decide (1≤f.kind∧f.kind≤12)) 4) (orC (needC (decide (clearK f=bareF f)) 5) (checkC (fs.take i) deps strs f))))) w0
  (fun _ w=>n29c3 (.pointer (some ⟨cb,0,none⟩)) (.pointer (some ⟨p3,0,none⟩)) (.pointer (some ⟨p6,0,none⟩)) (flwR a0 at_ fld (orC (needC (decide (1≤f.kind∧f.kind≤12)) 4) (orC (needC (decide (clearK f=bareF f)) 5) (checkC (fs.take i) deps strs f)))) w):=by
 obtain ⟨hn,k1,k2,k3,k4,k5,k6,k7,k8,k9,k10,k11,k12⟩:=hL
 by_cases hk:1≤f.kind∧f.kind≤12
 · have hd:decide (1≤f.kind∧f.kind≤12)=true:=by simpa using hk
   rw [hd]
   show callK _ _ _ (panK (flwR a0 at_ fld (orC 0 _))) _ _
   simp only [show needC true 4=0 from rfl,orC_zero]
   have hs:ok=true:=by
    rw [hok]
    have:f.kind=1∨f.kind=2∨f.kind=3∨f.kind=4∨f.kind=5∨f.kind=6∨f.kind=7∨f.kind=8∨f.kind=9∨f.kind=10∨f.kind=11∨f.kind=12:=by omega
    rcases this with h | h | h | h | h | h | h | h | h | h | h | h<;>simp only [h,k1,k2,k3,k4,k5,k6,k7,k8,k9,k10,k11,k12,Option.isSome_some]
   subst hs
   refine callK_flw (need_flw h true 4 (by decide)) (fun w1 e1 _=>?_) (fun w1 e1 h0=>absurd rfl h0)
   have hw:=h.ext e1
   have hT1:=TermsOf.ext hT e1
   have hC1:=CasesOf.ext hC e1
   have o31:=e1.obj o3
   have this:f.kind=1∨f.kind=2∨f.kind=3∨f.kind=4∨f.kind=5∨f.kind=6∨f.kind=7∨f.kind=8∨f.kind=9∨f.kind=10∨f.kind=11∨f.kind=12:=by omega
   rcases this with hkk | hkk | hkk | hkk | hkk | hkk | hkk | hkk | hkk | hkk | hkk | hkk
   · rw [hkk,k1,Option.getD_some] at hab
     injection hab with hab
     have hab:=congrArg Array.toList hab
     simp only [List.cons.injEq,and_true] at hab
     obtain ⟨rfl,rfl⟩:=hab
     have hcl:clearK f=clear1 f:=by unfold clearK;simp [hkk]
     have hcc:checkC (fs.take i) deps strs f=orC (needC (bitsB f) 6) (withinC (topF f) 0 [f.low,f.high]):=by unfold checkC;simp [hkk]
     rw [hcl,hcc]
     exact exa_tail (e00.trans e1) hw p3 p6 f tv cv hT1 hC1 o31 _ _ (e1.obj o6) c193 c194 clear1 false false clears1 rfl rfl _ (fun w v hw hf=>uint_flw hw v f hf)
   · rw [hkk,k2,Option.getD_some] at hab
     injection hab with hab
     have hab:=congrArg Array.toList hab
     simp only [List.cons.injEq,and_true] at hab
     obtain ⟨rfl,rfl⟩:=hab
     have hcl:clearK f=clear2 f:=by unfold clearK;simp [hkk]
     have hcc:checkC (fs.take i) deps strs f=orC (needC (bitsB f) 6) (withinC (topF f) 0 [f.low]):=by unfold checkC;simp [hkk]
     rw [hcl,hcc]
     exact exa_tail (e00.trans e1) hw p3 p6 f tv cv hT1 hC1 o31 _ _ (e1.obj o6) c197 c198 clear2 false false clears2 rfl rfl _ (fun w v hw hf=>const_flw hw v f hf)
   · rw [hkk,k3,Option.getD_some] at hab
     injection hab with hab
     have hab:=congrArg Array.toList hab
     simp only [List.cons.injEq,and_true] at hab
     obtain ⟨rfl,rfl⟩:=hab
     have hcl:clearK f=clear3 f:=by unfold clearK;simp [hkk]
     have hcc:checkC (fs.take i) deps strs f=withinC 34359738367 0 [f.low,f.high]:=by unfold checkC;simp [hkk]
     rw [hcl,hcc]
     exact exa_tail (e00.trans e1) hw p3 p6 f tv cv hT1 hC1 o31 _ _ (e1.obj o6) c199 c200 clear3 false false clears3 rfl rfl _ (fun w v hw hf=>varint_flw hw v f hf)
   · rw [hkk,k4,Option.getD_some] at hab
     injection hab with hab
     have hab:=congrArg Array.toList hab
     simp only [List.cons.injEq,and_true] at hab
     obtain ⟨rfl,rfl⟩:=hab
     have hcl:clearK f=clear4 f:=by unfold clearK;simp [hkk]
     have hcc:checkC (fs.take i) deps strs f=sizedC (numR (fs.take i)) f:=by unfold checkC;simp [hkk]
     rw [hcl,hcc]
     exact exa_tail (e00.trans e1) hw p3 p6 f tv cv hT1 hC1 o31 _ _ (e1.obj o6) c201 c202 clear4 true false clears4 rfl rfl _ (fun w v hw hf=>sized_flw hw i hi hlt v f hf ht)
   · rw [hkk,k5,Option.getD_some] at hab
     injection hab with hab
     have hab:=congrArg Array.toList hab
     simp only [List.cons.injEq,and_true] at hab
     obtain ⟨rfl,rfl⟩:=hab
     have hcl:clearK f=clear5 f:=by unfold clearK;simp [hkk]
     have hcc:checkC (fs.take i) deps strs f=orC (withinC 255 0 [f.low]) (withinC 1048576 0 [f.high]):=by unfold checkC;simp [hkk]
     rw [hcl,hcc]
     exact exa_tail (e00.trans e1) hw p3 p6 f tv cv hT1 hC1 o31 _ _ (e1.obj o6) c203 c204 clear5 false false clears5 rfl rfl _ (fun w v hw hf=>until_flw hw v f hf)
   · rw [hkk,k6,Option.getD_some] at hab
     injection hab with hab
     have hab:=congrArg Array.toList hab
     simp only [List.cons.injEq,and_true] at hab
     obtain ⟨rfl,rfl⟩:=hab
     have hcl:clearK f=clear6 f:=by unfold clearK;simp [hkk]
     have hcc:checkC (fs.take i) deps strs f=withinC 1048576 2 [f.high]:=by unfold checkC;simp [hkk]
     rw [hcl,hcc]
     exact exa_tail (e00.trans e1) hw p3 p6 f tv cv hT1 hC1 o31 _ _ (e1.obj o6) c205 c206 clear6 false false clears6 rfl rfl _ (fun w v hw hf=>headers_flw hw v f hf)
   · rw [hkk,k7,Option.getD_some] at hab
     injection hab with hab
     have hab:=congrArg Array.toList hab
     simp only [List.cons.injEq,and_true] at hab
     obtain ⟨rfl,rfl⟩:=hab
     have hcl:clearK f=clear7 f:=by unfold clearK;simp [hkk]
     have hcc:checkC (fs.take i) deps strs f=orC (needC (lastOf deps f.of).isSome 8) (sizedC (numR (fs.take i)) f):=by unfold checkC;simp [hkk]
     rw [hcl,hcc]
     exact exa_tail (e00.trans e1) hw p3 p6 f tv cv hT1 hC1 o31 _ _ (e1.obj o6) c207 c208 clear7 true false clears7 rfl rfl _ (fun w v hw hf=>list_flw hw i hi hlt v f hf ht)
   · rw [hkk,k8,Option.getD_some] at hab
     injection hab with hab
     have hab:=congrArg Array.toList hab
     simp only [List.cons.injEq,and_true] at hab
     obtain ⟨rfl,rfl⟩:=hab
     have hcl:clearK f=clear8 f:=by unfold clearK;simp [hkk]
     have hcc:checkC (fs.take i) deps strs f=needC (lastOf deps f.of).isSome 8:=by unfold checkC;simp [hkk]
     rw [hcl,hcc]
     exact exa_tail (e00.trans e1) hw p3 p6 f tv cv hT1 hC1 o31 _ _ (e1.obj o6) c210 c211 clear8 false false clears8 rfl rfl _ (fun w v hw hf=>message_flw hw v f hf)
   · rw [hkk,k9,Option.getD_some] at hab
     injection hab with hab
     have hab:=congrArg Array.toList hab
     simp only [List.cons.injEq,and_true] at hab
     obtain ⟨rfl,rfl⟩:=hab
     have hcl:clearK f=clear9 f:=by unfold clearK;simp [hkk]
     have hcc:checkC (fs.take i) deps strs f=casesC (fs.take i) deps f:=by unfold checkC;simp [hkk]
     rw [hcl,hcc]
     exact exa_tail (e00.trans e1) hw p3 p6 f tv cv hT1 hC1 o31 _ _ (e1.obj o6) c212 c213 clear9 false true clears9 rfl rfl _ (fun w v hw hf=>cases_flw hw i hi hlt v f hf)
   · rw [hkk,k10,Option.getD_some] at hab
     injection hab with hab
     have hab:=congrArg Array.toList hab
     simp only [List.cons.injEq,and_true] at hab
     obtain ⟨rfl,rfl⟩:=hab
     have hcl:clearK f=clear10 f:=by unfold clearK;simp [hkk]
     have hcc:checkC (fs.take i) deps strs f=needC (padB f) 6:=by unfold checkC;simp [hkk]
     rw [hcl,hcc]
     exact exa_tail (e00.trans e1) hw p3 p6 f tv cv hT1 hC1 o31 _ _ (e1.obj o6) c214 c215 clear10 false false clears10 rfl rfl _ (fun w v hw hf=>pad_flw hw v f hf)
   · rw [hkk,k11,Option.getD_some] at hab
     injection hab with hab
     have hab:=congrArg Array.toList hab
     simp only [List.cons.injEq,and_true] at hab
     obtain ⟨rfl,rfl⟩:=hab
     have hcl:clearK f=clear11 f:=by unfold clearK;simp [hkk]
     have hcc:checkC (fs.take i) deps strs f=orC (withinC 3 1 [f.check]) (needC ((fs.take i).any fun o=>decide (o.name=f.fr)) 8):=by unfold checkC;simp [hkk]
     rw [hcl,hcc]
     exact exa_tail (e00.trans e1) hw p3 p6 f tv cv hT1 hC1 o31 _ _ (e1.obj o6) c216 c217 clear11 false false clears11 rfl rfl _ (fun w v hw hf=>check_flw hw i hi hlt v f hf)
   · rw [hkk,k12,Option.getD_some] at hab
     injection hab with hab
     have hab:=congrArg Array.toList hab
     simp only [List.cons.injEq,and_true] at hab
     obtain ⟨rfl,rfl⟩:=hab
     have hcl:clearK f=clear12 f:=by unfold clearK;simp [hkk]
     have hcc:checkC (fs.take i) deps strs f=orC (withinC 4294967295 0 [f.key]) (orC (needC (strB strs f.of) 8) (sizedC (numR (fs.take i)) f)):=by unfold checkC;simp [hkk]
     rw [hcl,hcc]
     exact exa_tail (e00.trans e1) hw p3 p6 f tv cv hT1 hC1 o31 _ _ (e1.obj o6) c218 c219 clear12 true false clears12 rfl rfl _ (fun w v hw hf=>view_flw hw i hi hlt v f hf ht)
 · have hd:decide (1≤f.kind∧f.kind≤12)=false:=by simpa using hk
   rw [hd]
   have hs:ok=false:=by rw [hok,hn _ hk];rfl
   subst hs
   refine callK_flw (need_flw h false 4 (by decide)) (fun w1 e1 h0=>absurd h0 (by decide)) (fun w1 e1 h0=>?_)
   exact flwR_pan (e00.trans e1) rfl h0
end
section
variable {w0:World} {cb md ms:Nat} {deps strs:List (ByteArray×Value)} {at_ fld:Int} {fs:List FieldD}
theorem examine_flw (h:Chk w0 cb md ms deps strs at_ fld fs) (i:Nat) (hi:fld=i) (hlt:i < fs.length) (v:Value) (f:FieldD) (hf:FieldVal w0 v f) (ht:f.terms.length≤1048576) :
 Calls Pg 160 #[.pointer (some ⟨cb,0,none⟩),v] w0 (flwR w0 at_ fld (examineC (fs.take i) deps strs f)):=by
 obtain ⟨tv,cv,rfl,hT,hC,ht1,hc1⟩:=hf.op
 refine n29s ?_;unfold n29
 simp (disch:=try exact DI) only [↓PR,QR,simprocAttr]
 generalize hW:World.alloc w0 _=W
 have e0:Ext w0 W:=by rw [← hW];exact ee
 have o3:W.heap[w0.heap.size]?=some (.cells (fieldCells f tv cv).toArray 48 (0,0)):=by rw [← hW];simp (disch:=try exact DI) only [↓PR,QR,simprocAttr]
 clear hW
 refine zcr (Name_ret _ f.name) fun w1 e1=>?_
 have e01:=e0.trans e1
 unfold examineC
 refine callK_flw (need_flw (h.ext e01) _ 1 (by decide)) (fun w2 e2 h0=>?_) (fun w2 e2 h0=>?_)
 · rw [h0,orC_zero]
   have e02:=e01.trans e2
   have o32:=(e1.trans e2).obj o3
   refine drawK_intro ?_
   simp (disch:=try exact DI) only [↓PR,QR,simprocAttr,↓n29c8,(cells_of_heap o32).1]
   have eD:Ext w0 w2.drew:=e02.wdrew
   refine callK_ret (before_ret (h.ext eD) i hi hlt) ?_
   rintro bv w3 ⟨hB,e3⟩
   refine ⟨e3,?_⟩
   have hb1:=SliceOf.oneCell hB
   simp (disch:=try exact DI) only [↓PR,QR,simprocAttr]
   refine zcr (Field_ret w3 _ ⟨ByteArray.empty,fs.take i⟩ f.name ⟨bv,rfl,hB⟩) fun w4 e4=>?_
   refine ⟨e3.trans e4,?_⟩
   simp (disch:=try exact DI) only [↓PR,QR,simprocAttr,↓n29c7]
   have e04:=eD.trans (e3.trans e4)
   have e24:Ext w2 w4:=(Ext.refl w2).wdrew.trans (e3.trans e4)
   refine callK_flw (need_flw (h.ext e04) _ 2 (by decide)) (fun w5 e5 h0=>?_) (fun w5 e5 h0=>?_)
   · rw [h0,orC_zero]
     have e05:=e04.trans e5
     have o35:=(e24.trans e5).obj o32
     clear e24 e04 e3 e4 hB eD e02 e01 e1 e2 o32
     refine drawK_intro ?_
     simp (disch:=try exact DI) only [↓PR,QR,simprocAttr,↓n29c6,(cells_of_heap o35).1]
     have eD:Ext w5 w5.drew:=(Ext.refl _).wdrew
     have fin5:∀ (w':World) (m p6 c:Nat) (L:List (Int×Value×Nat)) (u0 u1:Value),Ext w5.drew w'→MapB w' m kindEnc L c→KindsIn L→w'.heap[p6]?=some (.cells #[u0,u1] 219 (0,0))→w5.heap.size≤p6 →
      n29c5 (.pointer (some ⟨p6,0,none⟩)) (.map (some m)) (.int .i64 f.kind) (KM w5.drew m kindEnc L c) (fun t5 t6 w=>callK Pg 122 #[.pointer (some ⟨cb,0,none⟩),t5,.int .i64 4] (panK (flwR w0 at_ fld (orC (needC (decide (1≤f.kind∧f.kind≤12)) 4) (orC (needC (decide (clearK f=bareF f)) 5) (checkC (fs.take i) deps strs f))))) w fun _ w=>n29c3 (.pointer (some ⟨cb,0,none⟩)) (.pointer (some ⟨w0.heap.size,0,none⟩)) t6 (flwR w0 at_ fld (orC (needC (decide (1≤f.kind∧f.kind≤12)) 4) (orC (needC (decide (clearK f=bareF f)) 5) (checkC (fs.take i) deps strs f)))) w)
       (flwR w0 at_ fld (orC (needC (decide (1≤f.kind∧f.kind≤12)) 4) (orC (needC (decide (clearK f=bareF f)) 5) (checkC (fs.take i) deps strs f)))) w':=by
      intro w' m p6 c L u0 u1 e' hM hL o6 hp6
      haveI:ClassNe (KM w5.drew m kindEnc L c):=⟨⟨w',e',hM⟩⟩
      unfold n29c5
      rw [qV_lookupKM Tryz.underlying221 (KeyOK.int Tryz.underlying42) ty219 ⟨w',e',hM⟩]
      obtain ⟨a,b,hab,ha,hb⟩:∃ a b,(Sw.look L f.kind).getD (.agg #[.nilFunc,.nilFunc]) = .agg #[a,b]∧a.oneCell'=true∧b.oneCell'=true:=by
       obtain ⟨hn,k1,k2,k3,k4,k5,k6,k7,k8,k9,k10,k11,k12⟩:=hL
       by_cases hk:1≤f.kind∧f.kind≤12
       · have this:f.kind=1∨f.kind=2∨f.kind=3∨f.kind=4∨f.kind=5∨f.kind=6∨f.kind=7∨f.kind=8∨f.kind=9∨f.kind=10∨f.kind=11∨f.kind=12:=by omega
         rcases this with h | h | h | h | h | h | h | h | h | h | h | h<;>simp only [h,k1,k2,k3,k4,k5,k6,k7,k8,k9,k10,k11,k12,Option.getD_some]<;>exact ⟨_,_,rfl,rfl,rfl⟩
       · rw [hn _ hk];exact ⟨_,_,rfl,rfl,rfl⟩
      rw [hab]
      simp (disch:=try exact DI) only [↓PR,QR,simprocAttr,(cells_of_heap o6).1,(cells_of_heap o6).2]
      have e6:Ext w5.drew ((w'.setCell ⟨p6,0,none⟩ a).setCell ⟨p6,1,none⟩ b):=(e'.setCell (show w5.drew.heap.size≤(⟨p6,0,none⟩:Addr).block from hp6) _).setCell (show w5.drew.heap.size≤(⟨p6,1,none⟩:Addr).block from hp6) _
      refine ⟨⟨e6,(hM.setCell _ _).setCell _ _⟩,?_⟩
      have e06:=(e05.trans eD).trans e6
      have o6':=heap_set (o:=1) (heap_set (o:=0) o6 a) b
      exact exa_mid e06 (h.ext e06) i hi hlt _ p6 f tv cv ht (TermsOf.ext hT e06) (CasesOf.ext hC e06) ((eD.trans e6).obj o35) L hL a b _ hab rfl (by simpa using o6')
     refine ⟨?_,?_⟩
     · refine callK_ret (kinds_ret _) ?_
       rintro _ w6 ⟨m,L,c,rfl,hm,hM,hL,e6⟩
       refine narrowK_KM e6 hM ?_
       have h9:=fin5 (w6.alloc (.cells #[.nilFunc,.nilFunc] 219)) m w6.heap.size c L _ _ (e6.alloc _) (hM.ext ((Ext.refl _).alloc _)) hL (heap_new _ _ _) (by have:=e6.size;simpa using this)
       unfold n29c5 at h9
       unfold n29c4
       simp only [drew_wdrew]
       haveI:ClassNe (KM w5.drew m kindEnc L c):=⟨⟨w6,e6,hM⟩⟩
       rw [qV_lookupKM Tryz.underlying221 (KeyOK.int Tryz.underlying42) ty219 ⟨w6,e6,hM⟩] at h9 ⊢
       simp (disch:=try exact DI) only [↓PR,QR,simprocAttr]
       simp only [↓Sw.GENQ] at h9
       exact ⟨⟨e6.alloc _,hM.ext ((Ext.refl _).alloc _)⟩,h9⟩
     · refine ⟨(Ext.refl _).alloc _,?_⟩
       refine callK_ret (kinds_ret _) ?_
       rintro _ w6 ⟨m,L,c,rfl,hm,hM,hL,e6⟩
       refine narrowK_KM (((Ext.refl _).alloc _).trans e6) hM ?_
       exact fin5 w6 m w5.heap.size c L _ _ (((Ext.refl _).alloc _).trans e6) hM hL (e6.obj (heap_new w5.drew _ _)) (Nat.le_refl _)
   · rw [orC_ne h0]
     exact flwR_pan (e04.trans e5) rfl h0
 · rw [orC_ne h0]
   exact flwR_pan (e01.trans e2) rfl h0
end
def n22c1 (t3 t29 t31:Value) (next4:KV) (R:RT) (w:World):Prop :=
 X0 46 t29 t31 R w fun t33 w =>
 L0 60 t33 R w fun t34 w =>
 opV Pg (Instr.alloc 60 true (.tuple #[])) (panK R) w fun t7 w =>
 opU Pg (Instr.storeAt 60 t7 t34) (panK R) w fun w =>
 L0 82 t3 R w fun t35 w =>
 F0 60 t7 2 R w fun t36 w =>
 L0 9 t36 R w fun t37 w =>
 opV Pg (Instr.buildSlice 82 1 #[(0,t37)]) (panK R) w fun t38 w =>
 opV Pg (Builtin.append_ #[82,82] 82 #[t35,t38]) (panK R) w fun t39 w =>
 opU Pg (Instr.storeAt 82 t3 t39) (panK R) w fun w =>
 B0 .add 3 true t31 (.int .i64 1) R w fun t40 w =>
 next4 t40 w
def n22c2 (t3 t5:Value) (K3:World→Prop) (R:RT) (w:World):Prop :=
 F0 48 t5 11 R w fun t28 w =>
 L0 46 t28 R w fun t29 w =>
 opV Pg (Builtin.len_ #[46] 3 #[t29]) (panK R) w fun t30 w =>
 loop1 (fun t31 w next4 =>
 B0 .lss 3 false t31 t30 R w fun t32 w =>
 condP t32 (
 n22c1 t3 t29 t31 next4 R w) (
 K3 w)) (.int .i64 0) w
def n22c3 (t3 t5:Value) (K3:World→Prop) (R:RT) (w:World):Prop :=
 L0 82 t3 R w fun t21 w =>
 F0 48 t5 8 R w fun t22 w =>
 L0 9 t22 R w fun t23 w =>
 opV Pg (Instr.buildSlice 82 1 #[(0,t23)]) (panK R) w fun t24 w =>
 opV Pg (Builtin.append_ #[82,82] 82 #[t21,t24]) (panK R) w fun t25 w =>
 opU Pg (Instr.storeAt 82 t3 t25) (panK R) w fun w =>
 K3 w
def n22c4 (t3 t5 t11 t16 t17:Value) (next1:KV) (R:RT) (w:World):Prop :=
 joinK (fun (w:World) =>
 B0 .add 3 true t11 (.int .i64 1) R w fun t41 w =>
 next1 t41 w) fun K3 =>
 condP t17 (
 n22c3 t3 t5 K3 R w) (
 B0 .eql 42 true t16 (.int .i64 9) R w fun t27 w =>
 condP t27 (
 n22c2 t3 t5 K3 R w) (
 K3 w))
def n22c5 (t16:Value) (K2:KV) (R:RT) (w:World):Prop :=
 B0 .eql 42 true t16 (.int .i64 8) R w fun t19 w =>
 condP t19 (
 K2 t19 w) (
 B0 .eql 42 true t16 (.int .i64 12) R w fun t20 w =>
 K2 t20 w)
def n22c6 (t3 t9 t11:Value) (next1:KV) (R:RT) (w:World):Prop :=
 X0 22 t9 t11 R w fun t13 w =>
 L0 48 t13 R w fun t14 w =>
 opV Pg (Instr.alloc 48 true (.tuple #[])) (panK R) w fun t5 w =>
 opU Pg (Instr.storeAt 48 t5 t14) (panK R) w fun w =>
 F0 48 t5 1 R w fun t15 w =>
 L0 42 t15 R w fun t16 w =>
 B0 .eql 42 true t16 (.int .i64 7) R w fun t18 w =>
 joinK (fun (t17:Value) (w:World) =>
 n22c4 t3 t5 t11 t16 t17 next1 R w) fun K2 =>
 condP t18 (
 K2 t18 w) (
 n22c5 t16 K2 R w)
def n22c7 (t3 t9 t10 t11:Value) (next1:KV) (R:RT) (w:World):Prop :=
 B0 .lss 3 false t11 t10 R w fun t12 w =>
 condP t12 (
 n22c6 t3 t9 t11 next1 R w) (
 opV Pg (Instr.makeFunc (.func 69) #[] #[t3]) (panK R) w fun t42 w =>
 R (.returned t42) w)
def n22 (t0:Value) (R:RT) (w:World):Prop :=
 opV Pg (Instr.box 24 t0) (panK R) w fun t1 w =>
 opV Pg (Instr.alloc 82 true (.tuple #[])) (panK R) w fun t3 w =>
 F0 24 t1 1 R w fun t8 w =>
 L0 22 t8 R w fun t9 w =>
 opV Pg (Builtin.len_ #[22] 3 #[t9]) (panK R) w fun t10 w =>
 loop1 (fun t11 w next1 =>
 n22c7 t3 t9 t10 t11 next1 R w) (.int .i64 0) w
theorem n22s {t0:Value} {R:RT} {w:World} (h:n22 t0 R w):Calls Pg 32 #[t0] w R:=by
 refine yD Tryz.func32 ?_
 refine zs<|zr<|yv h fun _ w h=>zm<|zn<|zk<|zs<|zr<|yv h fun _ w h=>zn<|zk<|zs<|zs<|zr<|yv h fun _ w h=>?_
 refine yv h fun _ w h=>yx h fun _ w h=>zm<|zn<|zk<|sim_block<|yl1 [5,7,11,12,13,14,15,16,17,18,19,20,21,22,23,24,25,26,27,28,29,30,31,32,33,34,35,36,37,38,39,40,41] 11 h fun σ w next h=>zs<|zr<|yb h fun _ w h=>zn<|zk<|zs<|yC h (fun h=>?_) fun h=>?_
 · refine sim_skip<|zk<|zs<|sim_block<|zs<|zr<|yv h fun _ w h=>yv h fun _ w h=>yv h fun _ w h=>yu h fun w h=>zn<|zk<|zs<|zr<|yv h fun _ w h=>?_
   refine yv h fun _ w h=>zn<|zk<|sim_block<|zs<|zs<|zr<|yb h fun _ w h=>zm<|zn<|zk<|yJ1 [17,19,20] 17 h (fun _ _ hkK2 h=>?_) fun σ w h=>?_
   · refine yC h (fun h=>?_) fun h=>?_
     · refine sim_skip<|zk ?_
       exact zt hkK2 h
     refine zs<|zr<|yb h fun _ w h=>zm<|zn<|zk<|yC h (fun h=>?_) fun h=>?_
     · refine sim_skip<|zk ?_
       exact zt hkK2 h
     refine zr<|yb h fun _ w h=>zm<|zn<|zk ?_
     exact zt hkK2 h
   refine zk<|yJ0 [7,21,22,23,24,25,26,27,28,29,30,31,32,33,34,35,36,37,38,39,40] h (fun _ _ hkK3 h=>?_) fun σ w h=>?_
   · refine yC h (fun h=>?_) fun h=>?_
     · refine zr<|yv h fun _ w h=>yv h fun _ w h=>yv h fun _ w h=>yS h fun _ w h=>yx h fun _ w h=>yu h fun w h=>zn<|zk ?_
       exact zt hkK3 h
     refine zs<|zr<|yb h fun _ w h=>zm<|zn<|zk<|yC h (fun h=>?_) fun h=>?_
     · refine zs<|zr<|yv h fun _ w h=>yv h fun _ w h=>yx h fun _ w h=>zm<|zn<|zk<|sim_block<|yl1 [7,31,32,33,34,35,36,37,38,39,40] 31 h fun σ w next h=>zs<|zr<|yb h fun _ w h=>zn<|zk ?_
       refine zs<|yC h (fun h=>?_) fun h=>?_
       · refine sim_skip<|zk<|zs<|sim_block<|zs<|zr<|yv h fun _ w h=>yv h fun _ w h=>yv h fun _ w h=>yu h fun w h=>zn<|zk<|zr<|yv h fun _ w h=>yv h fun _ w h=>?_
         exact yv h fun _ w h=>yS h fun _ w h=>yx h fun _ w h=>yu h fun w h=>zn<|sim_block_normal<|zk<|zr<|yb h fun _ w h=>zm<|zn<|zk<|⟨rfl,h⟩
       refine sim_exit<|sim_then_exit<|sim_then_exit<|sim_block_hit<|zk ?_
       exact zt hkK3 h
     refine sim_skip<|zk ?_
     exact zt hkK3 h
   exact sim_block_normal<|sim_block_normal<|zk<|zr<|yb h fun _ w h=>zm<|zn<|zk<|⟨rfl,h⟩
 exact sim_exit<|sim_then_exit<|sim_then_exit<|sim_block_hit<|zk<|zs<|zr<|yF h fun _ w h=>zm<|zn<|zk<|sim_ret<|body_ret1 rfl rfl h
def refsF (f:FieldD):List ByteArray:=if f.kind=7∨f.kind=8∨f.kind=12 then [f.of] else if f.kind=9 then f.cases.map (·.of) else []
def allRefs (l:List FieldD):List ByteArray:=l.flatMap refsF
abbrev strEnc (s:ByteArray):List Value:=[.string s]
theorem append_str {w:World} {QP:List PanicEntry→World→Prop} {k:Value→World→Prop} {base:Nat} {v:Value} {l:List ByteArray} (s:ByteArray) {b:Nat} (hown:OwnE w base 9 1 strEnc v l) (hc:w.cell? ⟨b,0,none⟩=some (.string s)) (hbase:base≤w.heap.size) (hl:l.length≤1048576)
 (hk:∀ v' w',OwnE w' base 9 1 strEnc v' (l++[s])→w.grownBy w' v.ownBlock→k v' w') :
 opV Pg (Builtin.append_ #[82,82] 82 #[v,.slice (some ⟨b,0,none⟩) 1 1]) QP w k:=by
 have hby:=by9
 refine op_appendE (l':=[s]) Tryz.underlying82 ty9 rfl (by decide) (fun _=>rfl) (fun x _ u hu=>by simp at hu;subst hu;rfl) hown (fun j x hx=>?_) hbase ?_ (by simp;omega) hk
 · cases j with
   | zero =>
    simp at hx;subst hx
    intro j v hv
    cases j with
    | zero=>simp at hv;subst hv;simpa using hc
    | succ j=>simp at hv
   | succ j=>simp at hx
 · simp only [List.length_cons,List.length_nil]
   exact Nat.le_trans (Nat.mul_le_mul (Nat.add_le_add_right hl 1) hby) (by decide)
def StrsAt (w:World) (pb:Nat) (sv:Value) (l:List ByteArray):Prop:=w.cell? ⟨pb,0,none⟩=some sv∧SliceOf w 1 EStr sv l∧∀ A m c,sv = .slice (some A) m c→pb < A.block
theorem StrsAt.ext {w w':World} {pb:Nat} {sv:Value} {l:List ByteArray} (h:StrsAt w pb sv l) (e:Ext w w'):StrsAt w' pb sv l:=⟨e.cell h.1,h.2.1.ext keptStr e,h.2.2⟩
theorem append_cell {w0 w:World} {QP:List PanicEntry→World→Prop} {ku:World→Prop} {pb lo p:Nat} {sv:Value} {l:List ByteArray} (s:ByteArray) {T T':TypeId} (hp:p=w.heap.size) (e:Ext w0 w) (h0:w0.heap.size≤pb) (hlo:pb < lo) (o3:w.heap[pb]?=some (.cells #[sv] T (0,0))) (hO:OwnE w lo 9 1 strEnc sv l) (hs:lo≤w.heap.size) (hl:l.length≤1048576)
 (hk:∀ w' sv',Ext w0 w'→w'.heap[pb]?=some (.cells #[sv'] T (0,0))→OwnE w' lo 9 1 strEnc sv' (l++[s])→lo≤w'.heap.size→ku w') :
 opV Pg (Builtin.append_ #[82,82] 82 #[sv,.slice (some ⟨p,0,none⟩) 1 1]) QP (w.alloc (.cells #[.string s] T')) (fun t w=>opU Pg (Instr.storeAt 82 (.pointer (some ⟨pb,0,none⟩)) t) QP w ku):=by
 subst hp
 have l3:pb < w.heap.size:=(Array.getElem?_eq_some_iff.1 o3).1
 have o3':=((Ext.refl w).alloc (.cells #[.string s] T')).obj o3
 refine append_str s (hO.ext ((Ext.refl w).alloc _)) (by rw [cell_new];rfl) (Nat.le_trans hs (by simp)) hl ?_
 intro v' w' hO' hg
 have hne:some pb≠sv.ownBlock:=by
  intro h
  have:=hO.lt pb h.symm
  omega
 have o3w:w'.heap[pb]?=some (.cells #[sv] T (0,0)):=by rw [hg.block pb (by simp;omega) hne];exact o3'
 have eg:Ext w0 w':=(e.alloc _).grown hg (fun k hk=>by have:=hO.lt k hk;omega)
 have hv:=(hO'.slice (E:=EStr) (fun _=>rfl) (fun _ _=>rfl)).oneCell
 rw [op_store1 ty82 hv ((cells_of_heap o3w).1 0) ((cells_of_heap o3w).2 0)]
 refine hk _ v' (eg.setCell h0 _) ?_ ((hO'.range.only (Only.setCell w' pb 0 v') (.inr (.inl hlo))).1) ?_
 · have:=heap_set (o:=0) o3w v'
   simpa using this
 · have:=hg.size
   simp at this ⊢
   omega
theorem Refers_ret (w0:World) (v:Value) (m:MsgD) (hm:MsgVal w0 v m) (hb:(allRefs m.fields).length≤1048576) :
 Ret Pg 32 #[v] w0 fun r w'=>∃ pb sv,r = .func (.func 69) #[] #[.pointer (some ⟨pb,0,none⟩)]∧StrsAt w' pb sv (allRefs m.fields)∧w0.heap.size≤pb∧Ext w0 w':=by
 obtain ⟨fv,rfl,hF⟩:=hm
 obtain ⟨A,c,rfl,hlc,hcm,hlm,hel⟩:=SliceOf.open hF
 refine n22s (R:=retR _) ?_;unfold n22
 simp (disch:=try exact DI) only [↓PR,QR,simprocAttr]
 generalize hW:World.alloc (World.alloc w0 _) _=W
 have e0:Ext w0 W:=by rw [← hW];exact ee
 have hsz:W.heap.size=w0.heap.size+1+1:=by rw [← hW];simp only [World.size_alloc]
 have o3:W.heap[w0.heap.size+1]?=some (.cells #[.slice none 0 0] 82 (0,0)):=by rw [← hW];simp (disch:=try exact DI) only [↓PR,QR,simprocAttr]
 clear hW
 refine loop1_intro (fun a0 w=>∃ (k:Nat) , a0 = .int .i64 (k:Int)∧k≤m.fields.length∧Ext w0 w∧(∃ sv,w.heap[w0.heap.size+1]?=some (.cells #[sv] 82 (0,0))∧OwnE w W.heap.size 9 1 strEnc sv (allRefs (m.fields.take k))∧W.heap.size≤w.heap.size)) (fun a0 _=>m.fields.length - (intOf a0).toNat) ⟨0,rfl,Nat.zero_le _,ee,⟨_,o3,OwnE.nil _ _ _ _ _,Nat.le_refl _⟩⟩ ?_
 rintro _ w ⟨k,rfl,hk,e,hI⟩
 have se:=e.size
 rcases drop_cases hk with ⟨x,hx,hd,hlt,hdec⟩ | ⟨hk,hd,hdec⟩
 · obtain ⟨sv,o3,hO,hsW⟩:=hI
   obtain ⟨b,o,cs,rfl,hl,hA,hE⟩:=hel k x hx
   obtain ⟨tv,cv,rfl,hT,hC,ht1,hc1⟩:=hE.op
   have hpre:(allRefs (m.fields.take (k+1)))=allRefs (m.fields.take k)++refsF x:=by unfold allRefs;rw [take_snoc hx,List.flatMap_append];simp
   have hle:(allRefs (m.fields.take (k+1))).length≤1048576:=by
    refine Nat.le_trans ?_ hb
    have:m.fields=m.fields.take (k+1)++m.fields.drop (k+1):=(List.take_append_drop _ _).symm
    conv=>rhs;rw [this]
    unfold allRefs
    rw [List.flatMap_append,List.length_append]
    omega
   rw [hpre,List.length_append] at hle
   have hsv:=(hO.slice (E:=EStr) (fun _=>rfl) (fun _ _=>rfl)).oneCell
   simp (disch:=try exact DI) only [↓PR,QR,simprocAttr,↓n22c1,↓n22c2,↓n22c3,↓n22c4,↓n22c5,↓n22c6,↓n22c7,hdec,hA.c15]
   generalize hW1:World.alloc w _=w1
   have e1:Ext w w1:=by rw [← hW1];exact ee
   have o5:w1.heap[w.heap.size]?=some (.cells (fieldCells x tv cv).toArray 48 (0,0)):=by rw [← hW1];simp (disch:=try exact DI) only [↓PR,QR,simprocAttr]
   clear hW1
   have s1:=e1.size
   have e01:=e.trans e1
   have o31:=e1.obj o3
   have hO1:=hO.ext e1
   have l5:w.heap.size < w1.heap.size:=(Array.getElem?_eq_some_iff.1 o5).1
   have l3:w0.heap.size+1 < w1.heap.size:=(Array.getElem?_eq_some_iff.1 o31).1
   by_cases hr:x.kind=7∨x.kind=8∨x.kind=12
   · have hrf:refsF x=[x.of]:=by unfold refsF;rw [if_pos hr]
     rw [hrf] at hpre hle
     have key:∀ b,b=true→n22c4 (.pointer (some ⟨w0.heap.size+1,0,none⟩)) (.pointer (some ⟨w.heap.size,0,none⟩)) (.int .i64 (k:Int)) (.int .i64 x.kind) (.bool b) (fun a0' w'=>(∃ k:Nat,a0'=Value.int IntKind.i64 (k:Int)∧k≤m.fields.length∧Ext w0 w'∧∃ sv,w'.heap[w0.heap.size+1]?=some (.cells #[sv] 82 (0,0))∧OwnE w' W.heap.size 9 1 strEnc sv (allRefs (m.fields.take k))∧W.heap.size≤w'.heap.size)∧m.fields.length - (intOf a0').toNat < m.fields.length - (intOf (Value.int IntKind.i64 (k:Int))).toNat)
      (retR fun r w'=>∃ pb sv,r = .func (.func 69) #[] #[.pointer (some ⟨pb,0,none⟩)]∧StrsAt w' pb sv (allRefs m.fields)∧w0.heap.size≤pb∧Ext w0 w') w1:=by
      rintro b rfl
      simp (disch:=try exact DI) only [↓PR,QR,simprocAttr,↓n22c1,↓n22c2,↓n22c3,↓n22c4,↓n22c5,↓n22c6,↓n22c7,(cells_of_heap o31).1,(cells_of_heap o5).1]
      refine append_cell x.of rfl e01 (by omega) (by omega) o31 hO1 (by omega) (by simp at hle;omega) ?_
      intro w2 sv2 e2 o32 hO2 hs2
      rw [← hpre] at hO2
      simp (disch:=try exact DI) only [↓PR,QR,simprocAttr]
      exact ⟨⟨k+1,rfl,by omega,ee,⟨sv2,o32,hO2,hs2⟩⟩,meas_lt (kd := .i64) hlt⟩
     simp only [World.size_alloc]
     rcases hr with h | h | h
     · rw [h] at key ⊢
       simp (disch:=try exact DI) only [↓PR,QR,simprocAttr]
       exact key true rfl
     · rw [h] at key ⊢
       simp (disch:=try exact DI) only [↓PR,QR,simprocAttr,↓n22c5]
       exact key true rfl
     · rw [h] at key ⊢
       simp (disch:=try exact DI) only [↓PR,QR,simprocAttr,↓n22c5]
       exact key true rfl
   · have h7:(x.kind == 7)=false:=by simp;omega
     have h8:(x.kind == 8)=false:=by simp;omega
     have h12:(x.kind == 12)=false:=by simp;omega
     simp only [World.size_alloc]
     by_cases h9:x.kind=9
     · have h9':(x.kind == 9)=true:=by simp [h9]
       have hrf:refsF x=x.cases.map (·.of):=by unfold refsF;rw [if_neg hr,if_pos h9]
       rw [hrf] at hpre hle
       obtain ⟨A',c',rfl,hlc',hcm',hlm',hel'⟩:=SliceOf.open hC
       simp (disch:=try exact DI) only [↓PR,QR,simprocAttr,↓n22c1,↓n22c2,↓n22c3,↓n22c4,↓n22c5,↓n22c6,↓n22c7,h7,h8,h12,h9',(cells_of_heap o5).1]
       refine loop1_intro (fun a0 wa=>∃ (ka:Nat) , a0 = .int .i64 (ka:Int)∧ka≤x.cases.length∧Ext w0 wa∧(∃ sv,wa.heap[w0.heap.size+1]?=some (.cells #[sv] 82 (0,0))∧OwnE wa W.heap.size 9 1 strEnc sv (allRefs (m.fields.take k)++(x.cases.take ka).map (·.of))∧W.heap.size≤wa.heap.size)) (fun a0 _=>x.cases.length - (intOf a0).toNat) ⟨0,rfl,Nat.zero_le _,ee,⟨sv,o31,by simpa using hO1,by omega⟩⟩ ?_
       rintro _ wa ⟨ka,rfl,hka,ea,hIa⟩
       have sea:=ea.size
       rcases drop_cases hka with ⟨xa,hxa,hda,hlta,hdeca⟩ | ⟨hka,hda,hdeca⟩
       · obtain ⟨sva,oa,hOa,hsa⟩:=hIa
         obtain ⟨b',o',cs',rfl,_,hA',rfl⟩:=hel' ka xa hxa
         have la:w0.heap.size+1 < wa.heap.size:=(Array.getElem?_eq_some_iff.1 oa).1
         have oa':=((Ext.refl wa).alloc (.cells #[.int .i64 xa.low,.int .i64 xa.high,.string xa.of] 60)).obj oa
         have hla:(x.cases.take ka).length≤x.cases.length:=by rw [List.length_take];omega
         simp (disch:=try exact DI) only [↓PR,QR,simprocAttr,↓n22c1,↓n22c2,↓n22c3,↓n22c4,↓n22c5,↓n22c6,↓n22c7,hdeca,hA'.c3,(cells_of_heap oa').1,(cells_of_heap oa).1]
         refine append_cell xa.of (by simp only [World.size_alloc]) (ea.alloc _) (by omega) (by omega) oa' (hOa.ext ((Ext.refl wa).alloc _)) (by simp;omega) (by simp at hle hla ⊢;omega) ?_
         intro w2 sv2 e2 o32 hO2 hs2
         simp (disch:=try exact DI) only [↓PR,QR,simprocAttr]
         have hO3:OwnE w2 W.heap.size 9 1 strEnc sv2 (allRefs (m.fields.take k)++(x.cases.take (ka+1)).map (·.of)):=by
          rw [take_snoc hxa,List.map_append,← List.append_assoc];exact hO2
         exact ⟨⟨ka+1,rfl,by omega,ee,⟨sv2,o32,hO3,hs2⟩⟩,meas_lt (kd := .i64) hlta⟩
       · subst hka
         obtain ⟨sva,oa,hOa,hsa⟩:=hIa
         rw [List.take_length,← hpre] at hOa
         simp (disch:=try exact DI) only [↓PR,QR,simprocAttr,↓n22c1,↓n22c2,↓n22c3,↓n22c4,↓n22c5,↓n22c6,↓n22c7,hdeca]
         exact ⟨⟨k+1,rfl,by omega,ee,⟨sva,oa,hOa,hsa⟩⟩,meas_lt (kd := .i64) hlt⟩
     · have h9':(x.kind == 9)=false:=by simp;omega
       have hrf:refsF x=[]:=by unfold refsF;rw [if_neg hr,if_neg h9]
       rw [hrf,List.append_nil] at hpre
       rw [← hpre] at hO1
       simp (disch:=try exact DI) only [↓PR,QR,simprocAttr,↓n22c1,↓n22c2,↓n22c3,↓n22c4,↓n22c5,↓n22c6,↓n22c7,h7,h8,h12,h9',(cells_of_heap o5).1]
       exact ⟨⟨k+1,rfl,by omega,ee,⟨sv,o31,hO1,by omega⟩⟩,meas_lt (kd := .i64) hlt⟩
 · subst hk
   obtain ⟨sv,o3,hO,hsW⟩:=hI
   rw [List.take_length] at hO
   simp (disch:=try exact DI) only [↓PR,QR,simprocAttr,↓n22c1,↓n22c2,↓n22c3,↓n22c4,↓n22c5,↓n22c6,↓n22c7,hdec]
   have hS:=hO.slice (E:=EStr) (fun _=>rfl) (fun _ _=>rfl)
   exact ⟨_,sv,rfl,⟨(cells_of_heap o3).1 0,hS,fun A m c e=>by subst e;have:=hO.lt A.block rfl;omega⟩,by omega,e⟩
theorem Index_string_ret (w0:World) (v:Value) (l:List ByteArray) (s:ByteArray) (hs:SliceOf w0 1 EStr v l) :
 Ret Pg 98 #[v,.string s] w0 fun r w'=>r = .int .i64 (idx (fun y=>decide (s=y)) l)∧Ext w0 w':=by
 obtain ⟨A,c,rfl,hlc,hcm,hlm,hel⟩:=SliceOf.open hs
 refine n122s (R:=retR _) ?_;unfold n122
 simp (disch:=try exact DI) only [↓PR,QR,simprocAttr]
 refine loop1_intro (fun a0 w=>∃ (k:Nat) , a0 = .int .i64 (k:Int)∧k≤l.length∧Ext w0 w∧∀ (j:Nat) y,j < k→l[j]?=some y→decide (s=y)=false) (fun a0 _=>l.length - (intOf a0).toNat) ⟨0,rfl,Nat.zero_le _,ee,fun j y h=>by omega⟩ ?_
 rintro _ w ⟨k,rfl,hk,e,hI⟩
 have se:=e.size
 rcases drop_cases hk with ⟨x,hx,hd,hlt,hdec⟩ | ⟨hk,hd,hdec⟩
 · obtain ⟨b,o,cs,rfl,hl,hA,rfl⟩:=hel k x hx
   simp (disch:=try exact DI) only [↓PR,QR,simprocAttr,hdec,hA.c1,↓n122c1]
   cases hp:decide (s=x) with
   | true =>
    simp (disch:=try exact DI) only [↓PR,QR,simprocAttr]
    exact ⟨by rw [idx_here hx hp hI],e⟩
   | false =>
    simp (disch:=try exact DI) only [↓PR,QR,simprocAttr]
    exact ⟨⟨k+1,rfl,by omega,ee,before_succ hI hx hp⟩,meas_lt (kd := .i64) hlt⟩
 · subst hk
   simp (disch:=try exact DI) only [↓PR,QR,simprocAttr,hdec,↓n122c1]
   exact ⟨by rw [idx_none fun j y hy=>hI j y (List.getElem?_eq_some_iff.1 hy).1 hy],e⟩
theorem Contains_string_ret (w0:World) (v:Value) (l:List ByteArray) (s:ByteArray) (hs:SliceOf w0 1 EStr v l) :
 Ret Pg 70 #[v,.string s] w0 fun r w'=>r = .bool (l.any fun y=>decide (s=y))∧Ext w0 w':=by
 refine n111s (R:=retR _) ?_;unfold n111
 refine callK_ret (Index_string_ret _ _ l s hs) ?_
 rintro r w' ⟨rfl,e⟩
 simp (disch:=try exact DI) only [↓PR,QR,simprocAttr,Sw.joinK_eq]
 exact ⟨by rw [idx_neg],e⟩
def dedupA:List ByteArray→List ByteArray→List ByteArray
 | _,[]=>[]
 | seen,s::l=>if seen.any (fun y=>decide (s=y)) then dedupA (seen++[s]) l else s::dedupA (seen++[s]) l
def strX (l:List ByteArray) (k:Nat):Value:=match l[k]? with
 | some s => .string s
 | none=>undef
theorem Refers_seq (pb:Nat) (sv:Value) (l:List ByteArray):SeqIt Pg 69 #[.pointer (some ⟨pb,0,none⟩)] (dedupA [] l).length (strX (dedupA [] l)) (fun w=>StrsAt w pb sv l):=by
 intro yv J Jx Jp w hFP hJe hJx hstep h0
 obtain ⟨hc,hT,_⟩:=hFP 0 w h0
 obtain ⟨A,c,rfl,hlc,hcm,hlm,hel⟩:=SliceOf.open hT
 refine n23s (t0:=yv) (t1 := .pointer (some ⟨pb,0,none⟩)) ?_
 unfold n23
 simp (disch:=try exact DI) only [↓PR,QR,simprocAttr,hc]
 refine loop1_intro (fun i w=>∃ k j:Nat,i = .int .i64 k∧k≤l.length∧J j w∧j≤(dedupA [] l).length∧(dedupA [] l).drop j=dedupA (l.take k) (l.drop k)) (fun i _=>l.length - (intOf i).toNat) ⟨0,0,rfl,by omega,h0,by omega,rfl⟩ ?_
 rintro i w' ⟨k,j,rfl,hk,hJ,hj,hD⟩
 rcases drop_cases hk with ⟨x,hx,hd,hlt,hdec⟩ | ⟨hk,hd,hdec⟩
 · obtain ⟨hc',hT',_⟩:=hFP j w' hJ
   obtain ⟨A',c',hv,_,hcm',_,hel'⟩:=SliceOf.open hT'
   injection hv with hv _ hv'
   subst hv hv'
   obtain ⟨b,o,cs,rfl,hl,hA,rfl⟩:=hel' k x hx
   have er:=Ext.refl w'
   rw [hd] at hD
   simp only [dedupA] at hD
   simp (disch:=try exact DI) only [↓PR,QR,simprocAttr,↓n23c1,↓n23c2,hdec,hA.c1,hc']
   rw [op_sliceTo Tryz.underlying82 ty9 b o l.length c .i64 k (by omega)]
   have hlen:(l.take k).length=k:=by rw [List.length_take];omega
   have hpre:SliceOf w' 1 EStr (.slice (some ⟨b,o,none⟩) k c) (l.take k):=by
    refine ⟨_,c,by rw [hlen],by rw [hlen];omega,hcm,fun _=>⟨b,o,rfl,fun i y hy=>?_⟩⟩
    rw [List.getElem?_take] at hy
    split at hy
    · obtain ⟨b',o',cs,hA',h1,h2,h3⟩:=hel' i y hy
      injection hA' with hA'
      injection hA' with h5 h6
      subst h5 h6
      exact ⟨cs,h1,h2,h3⟩
    · cases hy
   refine zcr (Contains_string_ret w' _ _ x hpre) fun w2 e2=>?_
   have hJ2:=hJe j w' w2 hJ e2
   have htk:l.take (k+1)=l.take k++[x]:=take_snoc hx
   cases hany:(l.take k).any (fun y=>decide (x=y)) with
   | true =>
    rw [hany,if_pos rfl,← htk] at hD
    simp (disch:=try exact DI) only [↓PR,QR,simprocAttr,↓n23c1,↓n23c2]
    exact ⟨⟨k+1,j,rfl,by omega,hJ2,hj,hD⟩,meas_lt (kd := .i64) hlt⟩
   | false =>
    rw [hany,if_neg (by simp),← htk] at hD
    have hjl:j < (dedupA [] l).length:=by
     have:=congrArg List.length hD
     simp at this
     omega
    have hxj:(dedupA [] l)[j]?=some x:=by
     have:=congrArg (fun l=>l[0]?) hD
     simpa using this
    have hD2:(dedupA [] l).drop (j+1)=dedupA (l.take (k+1)) (l.drop (k+1)):=by
     rw [← List.tail_drop,hD];rfl
    have hs:=hstep j hjl w2 hJ2
    rw [show strX (dedupA [] l) j = .string x by unfold strX;rw [hxj]] at hs
    simp (disch:=try exact DI) only [↓PR,QR,simprocAttr,↓n23c1,↓n23c2]
    refine callV_mono hs (fun ch w h=>h) ?_
    rintro v w3 (⟨rfl,h2⟩ | ⟨rfl,h2⟩)
    · simp (disch:=try exact DI) only [↓PR,QR,simprocAttr,↓n23c1,↓n23c2]
      exact ⟨⟨k+1,j+1,rfl,by omega,h2,hjl,hD2⟩,meas_lt (kd := .i64) hlt⟩
    · simp (disch:=try exact DI) only [↓PR,QR,simprocAttr,↓n23c1,↓n23c2]
      exact .inr h2
 · subst hk
   simp (disch:=try exact DI) only [↓PR,QR,simprocAttr,↓n23c1,↓n23c2,hdec]
   rw [hd] at hD
   have hjl:j=(dedupA [] l).length:=by
    have:=congrArg List.length hD
    simp [dedupA] at this
    omega
   rw [← hjl]
   exact .inl hJ
def lastP {β:Type} (l:List (ByteArray×β)) (s:ByteArray):Option β:=(l.reverse.find? (fun p=>decide (p.1=s))).map (·.2)
theorem lastP_snoc {β:Type} (ps:List (ByteArray×β)) (p:ByteArray×β) (s:ByteArray):lastP (ps++[p]) s=if p.1=s then some p.2 else lastP ps s:=by
 unfold lastP
 rw [List.reverse_append,List.reverse_singleton,List.singleton_append,List.find?_cons]
 by_cases h:p.1=s<;>simp [h]
theorem lastP_mem {β:Type} {ps:List (ByteArray×β)} {s:ByteArray} {v:β} (h:lastP ps s=some v):(s,v)∈ps:=by
 unfold lastP at h
 obtain ⟨q,hq,rfl⟩:=Option.map_eq_some_iff.1 h
 have h1:=List.find?_some hq
 have h2:=List.mem_of_find?_eq_some hq
 simp only [decide_eq_true_eq] at h1
 subst h1
 exact List.mem_reverse.1 h2
def vI (l:List (ByteArray×Int)):List (ByteArray×Value):=l.map fun p=>(p.1,.int .i64 p.2)
def vB (l:List (ByteArray×Bool)):List (ByteArray×Value):=l.map fun p=>(p.1,.bool p.2)
theorem lastOf_map {β:Type} (g:β→Value) (l:List (ByteArray×β)) (s:ByteArray):lastOf (l.map fun p=>(p.1,g p.2)) s=(lastP l s).map g:=by
 unfold lastOf lastP
 rw [← List.map_reverse,List.find?_map]
 simp only [Option.map_map]
 rfl
theorem lastOf_vI (l:List (ByteArray×Int)) (s:ByteArray):lastOf (vI l) s=(lastP l s).map fun n => .int .i64 n:=lastOf_map _ l s
theorem lastOf_vB (l:List (ByteArray×Bool)) (s:ByteArray):lastOf (vB l) s=(lastP l s).map Value.bool:=lastOf_map _ l s
theorem strB_vB (l:List (ByteArray×Bool)) (s:ByteArray):strB (vB l) s=(lastP l s).getD false:=by
 unfold strB;rw [lastOf_vB];cases lastP l s<;>rfl
structure CkO (a0 w:World) (cb md ms:Nat) (deps:List (ByteArray×Int)) (strs:List (ByteArray×Bool)) (at_ fld:Int) (fs:List FieldD):Prop where
 ext:Ext a0 w
 obj:∃ dn mv ds mn fv,w.heap[cb]?=some (.cells #[.string dn,mv,.string ds,.map (some md),.map (some ms),.int .i64 at_,.int .i64 fld,.string mn,fv] 164 (0,0))∧FieldsOf a0 fv fs
 mdeps:MapOf w md (vI deps)
 mstrs:MapOf w ms (vB strs)
 lcb:a0.heap.size≤cb
 lmd:a0.heap.size≤md
 lms:a0.heap.size≤ms
 ne:md≠ms
section
variable {a0 w w':World} {cb md ms:Nat} {deps:List (ByteArray×Int)} {strs:List (ByteArray×Bool)} {at_ fld:Int} {fs:List FieldD}
theorem CkO.chk (h:CkO a0 w cb md ms deps strs at_ fld fs):Chk w cb md ms (vI deps) (vB strs) at_ fld fs:=by
 obtain ⟨dn,mv,ds,mn,fv,h1,h2⟩:=h.obj
 refine ⟨⟨dn,mv,ds,mn,fv,h1,h2.ext h.ext⟩,h.mdeps,h.mstrs,fun k v hv=>?_,fun k v hv=>?_⟩
 · rw [lastOf_vI] at hv;obtain ⟨n,_,rfl⟩:=Option.map_eq_some_iff.1 hv;exact ⟨n,rfl⟩
 · rw [lastOf_vB] at hv;obtain ⟨n,_,rfl⟩:=Option.map_eq_some_iff.1 hv;exact ⟨n,rfl⟩
theorem CkO.nd (h:CkO a0 w cb md ms deps strs at_ fld fs):cb≠md∧cb≠ms∧cb < w.heap.size∧md < w.heap.size∧ms < w.heap.size:=by
 obtain ⟨dn,mv,ds,mn,fv,h1,h2⟩:=h.obj
 refine ⟨?_,?_,(Array.getElem?_eq_some_iff.1 h1).1,h.mdeps.lt,h.mstrs.lt⟩
 · rintro rfl;have:=h.mdeps.obj;rw [h1] at this;cases this
 · rintro rfl;have:=h.mstrs.obj;rw [h1] at this;cases this
theorem CkO.go (h:CkO a0 w cb md ms deps strs at_ fld fs) (e:Ext w w'):CkO a0 w' cb md ms deps strs at_ fld fs:=by
 obtain ⟨dn,mv,ds,mn,fv,h1,h2⟩:=h.obj
 exact ⟨h.ext.trans e,⟨dn,mv,ds,mn,fv,e.obj h1,h2⟩,h.mdeps.ext e,h.mstrs.ext e,h.lcb,h.lmd,h.lms,h.ne⟩
theorem CkO.other (h:CkO a0 w cb md ms deps strs at_ fld fs) {b o:Nat} (hb:a0.heap.size≤b) (hn:b≠cb) (v:Value):CkO a0 (w.setCell ⟨b,o,none⟩ v) cb md ms deps strs at_ fld fs:=by
 obtain ⟨dn,mv,ds,mn,fv,h1,h2⟩:=h.obj
 refine ⟨h.ext.setCell hb v,⟨dn,mv,ds,mn,fv,?_,h2⟩,h.mdeps.setCell _ _,h.mstrs.setCell _ _,h.lcb,h.lmd,h.lms,h.ne⟩
 rw [Only.setCell w b o v cb (fun e=>hn e.symm)];exact h1
theorem CkO.setFld (h:CkO a0 w cb md ms deps strs at_ fld fs) (n:Int):CkO a0 (w.setCell ⟨cb,6,none⟩ (.int .i64 n)) cb md ms deps strs at_ n fs:=by
 obtain ⟨dn,mv,ds,mn,fv,h1,h2⟩:=h.obj
 exact ⟨h.ext.setCell h.lcb _,⟨dn,mv,ds,mn,fv,heap_set h1 _,h2⟩,h.mdeps.setCell _ _,h.mstrs.setCell _ _,h.lcb,h.lmd,h.lms,h.ne⟩
theorem CkO.setAt (h:CkO a0 w cb md ms deps strs at_ fld fs) (n:Int):CkO a0 (w.setCell ⟨cb,5,none⟩ (.int .i64 n)) cb md ms deps strs n fld fs:=by
 obtain ⟨dn,mv,ds,mn,fv,h1,h2⟩:=h.obj
 exact ⟨h.ext.setCell h.lcb _,⟨dn,mv,ds,mn,fv,heap_set h1 _,h2⟩,h.mdeps.setCell _ _,h.mstrs.setCell _ _,h.lcb,h.lmd,h.lms,h.ne⟩
theorem CkO.setMsg (h:CkO a0 w cb md ms deps strs at_ fld fs) (s:ByteArray) (fv':Value) (fs':List FieldD) (hf:FieldsOf a0 fv' fs'):CkO a0 ((w.setCell ⟨cb,7,none⟩ (.string s)).setCell ⟨cb,8,none⟩ fv') cb md ms deps strs at_ fld fs':=by
 obtain ⟨dn,mv,ds,mn,fv,h1,h2⟩:=h.obj
 exact ⟨(h.ext.setCell h.lcb _).setCell h.lcb _,⟨dn,mv,ds,s,fv',heap_set (heap_set h1 _) _,hf⟩,(h.mdeps.setCell _ _).setCell _ _,(h.mstrs.setCell _ _).setCell _ _,h.lcb,h.lmd,h.lms,h.ne⟩
theorem CkO.putOther (h:CkO a0 w cb md ms deps strs at_ fld fs) {B:Nat} (o:Obj) (hB:a0.heap.size≤B) (h1:B≠cb) (h2:B≠md) (h3:B≠ms):CkO a0 (w.putObj B o) cb md ms deps strs at_ fld fs:=by
 obtain ⟨dn,mv,ds,mn,fv,h4,h5⟩:=h.obj
 exact ⟨h.ext.putObj hB o,⟨dn,mv,ds,mn,fv,(World.putObj_heap_other (fun e=>h1 e.symm)).trans h4,h5⟩,MapB.putOther h.mdeps (fun e=>h2 e.symm) o,MapB.putOther h.mstrs (fun e=>h3 e.symm) o,h.lcb,h.lmd,h.lms,h.ne⟩
theorem CkO.unmark (h:CkO a0 w cb md ms deps strs at_ fld fs) {B:Nat} (hm:MarkAt B w) (hB:a0.heap.size≤B):CkO a0 (w.putObj B (.deferred none)) cb md ms deps strs at_ fld fs:=by
 obtain ⟨dn,mv,ds,mn,fv,h4,h5⟩:=h.obj
 refine h.putOther _ hB ?_ ?_ ?_
 · rintro rfl;unfold MarkAt at hm;rw [h4] at hm;cases hm
 · rintro rfl;unfold MarkAt at hm;have:=h.mdeps.obj;rw [hm] at this;cases this
 · rintro rfl;unfold MarkAt at hm;have:=h.mstrs.obj;rw [hm] at this;cases this
theorem CkO.lasts {B:Nat} (hB:a0.heap.size≤B):Lasts B (fun w=>CkO a0 w cb md ms deps strs at_ fld fs):=by
 refine ⟨fun w w' h e=>h.go e,fun w l r r' hl h hr=>?_⟩
 obtain ⟨dn,mv,ds,mn,fv,h4,h5⟩:=h.obj
 refine h.putOther _ (by omega) ?_ ?_ ?_
 · rintro rfl;rw [h4] at hr;cases hr
 · rintro rfl;have:=h.mdeps.obj;rw [hr] at this;cases this
 · rintro rfl;have:=h.mstrs.obj;rw [hr] at this;cases this
theorem StrsAt.lasts (B pb:Nat) (sv:Value) (l:List ByteArray):Lasts B (fun w=>StrsAt w pb sv l) :=
 Lasts.and (Lasts.cell B) (Lasts.and ⟨fun _ _ h e=>h.ext keptStr e,fun _ _ _ _ _ h hl=>SliceOf.putLoop (fun _ _ h=>h) hl h⟩ (Lasts.const _ _))
theorem StrsAt.set {w:World} {pb:Nat} {sv:Value} {l:List ByteArray} (h:StrsAt w pb sv l) {b o:Nat} (hb:b < pb) (u:Value):StrsAt (w.setCell ⟨b,o,none⟩ u) pb sv l :=
 ⟨by rw [cell_set_other (by omega)];exact h.1,SliceOf.setOther h.2.1 u (fun A m c e=>by have:=h.2.2 A m c e;omega) (fun _ _ h=>h),h.2.2⟩
end
def refsM (m:MsgD):List ByteArray:=dedupA [] (allRefs m.fields)
def fieldsP (deps:List (ByteArray×Int)) (strs:List (ByteArray×Bool)) (bef:List FieldD):List FieldD→Int×Int
 | []=>(-1,0)
 | f::l=>if examineC bef (vI deps) (vB strs) f=0 then fieldsP deps strs (bef++[f]) l else (bef.length,examineC bef (vI deps) (vB strs) f)
def maxI (a b:Int):Int:=if b > a then b else a
def depthM (deps:List (ByteArray×Int)) (m:MsgD):Int:=(refsM m).foldl (fun d s=>maxI d ((lastP deps s).getD 0)) 0
def strictM (strs:List (ByteArray×Bool)) (m:MsgD):Bool:=(m.fields.all fun f=>!f.loose)&&(refsM m).all fun s=>(lastP strs s).getD false
def tailP (deps:List (ByteArray×Int)) (m:MsgD) (r:Int×Int):Int×Int:=if r.2=0 then (if depthM deps m < 16 then (-1,0) else (-1,10)) else r
def nextP (deps:List (ByteArray×Int)) (strs:List (ByteArray×Bool)) (m:MsgD):Int×Int :=
 if nameB m.name then (if (lastP deps m.name).isSome then (-1,2) else (if 1≤m.fields.length∧m.fields.length≤40 then tailP deps m (fieldsP deps strs [] m.fields) else (-1,3))) else (-1,1)
def nxtR (a0:World) (at_:Int) (r:Int×Int) (K:World→Prop):Ending→World→Prop:=fun e w'=>Ext a0 w'∧(r.2=0∧e = .returned (.tuple #[])∧K w'∨r.2≠0∧e = .panicked [flawEntry at_ r.1 r.2])
theorem nxtR_ret {a0 w':World} {at_:Int} {r:Int×Int} {K:World→Prop} (e:Ext a0 w') (h:r.2=0) (hK:K w'):nxtR a0 at_ r K (.returned (.tuple #[])) w':=⟨e,.inl ⟨h,rfl,hK⟩⟩
theorem nxtR_pan {a0 w':World} {at_ a b:Int} {r:Int×Int} {K:World→Prop} (e:Ext a0 w') (h:r=(a,b)) (h0:b≠0):nxtR a0 at_ r K (.panicked [flawEntry at_ a b]) w':=by subst h;exact ⟨e,.inr ⟨h0,rfl⟩⟩
theorem qV_loadG {P:Program} {C:World→Prop} [ClassNe C] {T:TypeId} {a:Addr} {v:Value} {k:Value→Prop} (h:∀ w',C w'→Loads P w' T a v):qV P C (Instr.loadAt T (.pointer (some a))) k=k v :=
 qV_eqC fun w' e=>run_of_op fun QP k=>op_load (h w' e)
section
variable {a0 w:World} {cb md ms:Nat} {deps:List (ByteArray×Int)} {strs:List (ByteArray×Bool)} {at_ fld:Int} {fs:List FieldD}
theorem nxt_end (h:CkO a0 w cb md ms deps strs at_ (-1) fs) (p2 p3 p6 p9 B:Nat) (m:MsgD) (fv:Value) (st:Bool) (dp:Int) (hd0:0≤dp) (hd1:dp≤1000)
 (o2:w.heap[p2]?=some (.cells #[.pointer (some ⟨cb,0,none⟩)] 140 (0,0))) (o3:w.heap[p3]?=some (.cells (msgCells m fv).toArray 24 (0,0))) (o6:w.heap[p6]?=some (.cells #[.bool st] 4 (0,0))) (o9:w.heap[p9]?=some (.cells #[.int .i64 dp] 3 (0,0)))
 (hmk:MarkAt B w) (hB:a0.heap.size≤B) (r:Int×Int) (hr:r=if dp < 16 then (-1,0) else (-1,10)) (K:World→Prop)
 (hK:∀ w',CkO a0 w' cb md ms (deps++[(m.name,dp+1)]) (strs++[(m.name,st)]) at_ (-1) fs→K w') :
 drawK w fun C12 w=>n31c8 (.pointer (some ⟨p2,0,none⟩)) (.pointer (some ⟨p3,0,none⟩)) (.pointer (some ⟨p6,0,none⟩)) (.pointer (some ⟨p9,0,none⟩)) C12 [Sw.mark B] (nxtR a0 at_ r K) w:=by
 obtain ⟨n1,n2,l1,l2,l3⟩:=h.nd
 have hne:=h.ne
 obtain ⟨dn,mv,ds,mn,fv',h1,h2⟩:=h.obj
 have m2:p2≠md:=by rintro rfl;have:=h.mdeps.obj;rw [o2] at this;cases this
 have m3:p3≠md:=by rintro rfl;have:=h.mdeps.obj;rw [o3] at this;cases this
 have m6:p6≠md:=by rintro rfl;have:=h.mdeps.obj;rw [o6] at this;cases this
 have m9:p9≠md:=by rintro rfl;have:=h.mdeps.obj;rw [o9] at this;cases this
 have q2:p2≠ms:=by rintro rfl;have:=h.mstrs.obj;rw [o2] at this;cases this
 have q3:p3≠ms:=by rintro rfl;have:=h.mstrs.obj;rw [o3] at this;cases this
 have q6:p6≠ms:=by rintro rfl;have:=h.mstrs.obj;rw [o6] at this;cases this
 have q9:p9≠ms:=by rintro rfl;have:=h.mstrs.obj;rw [o9] at this;cases this
 refine drawK_introB (w1:=w) md ms (fun _ _ _ _=>rfl) ?_
 unfold n31c8
 simp (disch:=try exact DI) only [↓PR,QR,simprocAttr,(cells_of_heap h1).1,(cells_of_heap o2).1,(cells_of_heap o3).1,(cells_of_heap o6).1,(cells_of_heap o9).1]
 have eD:Ext w w.drew:=(Ext.refl w).drew
 have hmd:MapOf w.drew md (vI deps):=h.mdeps.ext eD
 rw [op_mapEntryS Tryz.underlying161 Tryz.underlying9 ty3 hmd m.name]
 refine ⟨fun b hb b1 b2=>(World.putObj_heap_other b1),?_⟩
 unfold n31c7
 simp (disch:=try exact DI) only [↓PR,QR,simprocAttr]
 rw [op_entryStore (MapB.ent hmd m.name _) (hasK_ent _ _),ent_put,putObj_putObj]
 have hw1:w.drew.putObj md (mapObj (fun s:ByteArray=>Value.string s) (putL (bld (vI deps)).1 (bld (vI deps)).2 m.name (.int .i64 (IntKind.i64.wrap (dp+1)))) (putC (bld (vI deps)).1 (bld (vI deps)).2 m.name))=putW w.drew md (vI deps) m.name (.int .i64 (IntKind.i64.wrap (dp+1))):=by
  unfold putW;rw [bld_snoc]
 rw [hw1]
 have hms:MapOf (putW w.drew md (vI deps) m.name (.int .i64 (IntKind.i64.wrap (dp+1)))) ms (vB strs):=MapB.putOther (h.mstrs.ext eD) (fun e=>hne e.symm) _
 refine ⟨fun b hb b1 b2=>(World.putObj_heap_other b1),?_⟩
 rw [op_mapEntryS Tryz.underlying162 Tryz.underlying9 ty4 hms m.name]
 refine ⟨fun b hb b1 b2=>(World.putObj_heap_other b2).trans (World.putObj_heap_other b1),?_⟩
 unfold n31c6
 simp (disch:=try exact DI) only [↓PR,QR,simprocAttr]
 rw [op_entryStore (MapB.ent hms m.name _) (hasK_ent _ _),ent_put,putObj_putObj]
 have hw2:(putW w.drew md (vI deps) m.name (.int .i64 (IntKind.i64.wrap (dp+1)))).putObj ms (mapObj (fun s:ByteArray=>Value.string s) (putL (bld (vB strs)).1 (bld (vB strs)).2 m.name (.bool st)) (putC (bld (vB strs)).1 (bld (vB strs)).2 m.name))=putW (putW w.drew md (vI deps) m.name (.int .i64 (IntKind.i64.wrap (dp+1)))) ms (vB strs) m.name (.bool st):=by
  unfold putW;rw [bld_snoc,bld_snoc]
 rw [hw2]
 have hwr:IntKind.i64.wrap (dp+1)=dp+1:=wrap_ok (by omega) (by omega)
 rw [hwr]
 have hC2:CkO a0 (putW (putW w.drew md (vI deps) m.name (.int .i64 (dp+1))) ms (vB strs) m.name (.bool st)) cb md ms (deps++[(m.name,dp+1)]) (strs++[(m.name,st)]) at_ (-1) fs:=by
  refine ⟨(h.ext.drew.putObj h.lmd _).putObj h.lms _,⟨dn,mv,ds,mn,fv',((World.putObj_heap_other n2).trans (World.putObj_heap_other n1)).trans h1,h2⟩,?_,?_,h.lcb,h.lmd,h.lms,hne⟩
  · have:=MapB.putOther (hmd.put m.name (.int .i64 (dp+1))) hne (mapObjS (bld (vB strs++[(m.name,.bool st)])).1 (bld (vB strs++[(m.name,.bool st)])).2)
    unfold vI at this ⊢
    rw [List.map_append]
    exact this
  · rw [hwr] at hms
    have:=hms.put m.name (.bool st)
    unfold vB at this ⊢
    rw [List.map_append]
    exact this
 have hk2:MarkAt B (putW (putW w.drew md (vI deps) m.name (.int .i64 (dp+1))) ms (vB strs) m.name (.bool st)):=by
  have b1:B≠md:=by rintro rfl;have:=h.mdeps.obj;unfold MarkAt at hmk;rw [hmk] at this;cases this
  have b2:B≠ms:=by rintro rfl;have:=h.mstrs.obj;unfold MarkAt at hmk;rw [hmk] at this;cases this
  exact ((World.putObj_heap_other b2).trans (World.putObj_heap_other b1)).trans hmk
 have o2':(putW (putW w.drew md (vI deps) m.name (.int .i64 (dp+1))) ms (vB strs) m.name (.bool st)).heap[p2]?=some (.cells #[.pointer (some ⟨cb,0,none⟩)] 140 (0,0)):=((World.putObj_heap_other q2).trans (World.putObj_heap_other m2)).trans o2
 have o9':(putW (putW w.drew md (vI deps) m.name (.int .i64 (dp+1))) ms (vB strs) m.name (.bool st)).heap[p9]?=some (.cells #[.int .i64 dp] 3 (0,0)):=((World.putObj_heap_other q9).trans (World.putObj_heap_other m9)).trans o9
 generalize putW (putW w.drew md (vI deps) m.name (.int .i64 (dp+1))) ms (vB strs) m.name (.bool st)=W at hC2 hk2 o2' o9' ⊢
 refine turnK_intro ?_
 unfold n31c5
 simp (disch:=try exact DI) only [↓PR,QR,simprocAttr,(cells_of_heap o2').1,(cells_of_heap o9').1]
 refine callK_flw (need_flw hC2.chk _ 10 (by decide)) (fun w' e h0=>?_) (fun w' e h0=>?_)
 · refine outX_mark (hk2.ext e) ?_
   rw [outX_nil]
   have hC3:=(hC2.go e).unmark (hk2.ext e) hB
   refine nxtR_ret hC3.ext ?_ (hK _ hC3)
   rw [hr]
   by_cases hdp:dp < 16
   · rw [if_pos hdp]
   · rw [decide_eq_false hdp] at h0;exact absurd h0 (by decide)
 · refine outQ_mark (hk2.ext e) ?_
   rw [outQ_nil]
   have hC3:=(hC2.go e).unmark (hk2.ext e) hB
   by_cases hdp:dp < 16
   · rw [decide_eq_true hdp] at h0;exact absurd rfl h0
   · rw [decide_eq_false hdp]
     rw [if_neg hdp] at hr
     exact nxtR_pan hC3.ext hr (by decide)
theorem maxI_le {a b c:Int} (h1:a≤c) (h2:b≤c):maxI a b≤c:=by unfold maxI;split<;>assumption
theorem le_maxI (a b:Int):a≤maxI a b:=by unfold maxI;split<;>omega
theorem foldl_maxI (g:ByteArray→Int):∀ (l:List ByteArray) (d:Int),0≤d→(∀ s∈l,0≤g s∧g s≤16)→d≤16→0≤l.foldl (fun d s=>maxI d (g s)) d∧l.foldl (fun d s=>maxI d (g s)) d≤16
 | [],d,h0,_,h1=>⟨h0,h1⟩
 | s::l,d,h0,h,h1=>foldl_maxI g l _ (Int.le_trans h0 (le_maxI _ _)) (fun u hu=>h u (List.mem_cons_of_mem _ hu)) (maxI_le h1 (h s (List.mem_cons_self ..)).2)
def Low (deps:List (ByteArray×Int)):Prop:=∀ p∈deps,0≤p.2∧p.2≤16
theorem Low.get {deps:List (ByteArray×Int)} (h:Low deps) (s:ByteArray):0≤(lastP deps s).getD 0∧(lastP deps s).getD 0≤16:=by
 cases hl:lastP deps s with
 | none=>exact ⟨by decide,by decide⟩
 | some n=>exact h _ (lastP_mem hl)
theorem nxt_range (hlow:Low deps) (h:CkO a0 w cb md ms deps strs at_ fld fs) (p2 p3 p6:Nat) (m:MsgD) (fv:Value) (st:Bool) (hst:st=m.fields.all fun f=>!f.loose) (hF:FieldsOf a0 fv m.fields) (hb:(allRefs m.fields).length≤1048576) (hp2:a0.heap.size≤p2) (hp3:a0.heap.size≤p3) (hp6:a0.heap.size≤p6) (h26:p2 < p6) (h36:p3 < p6)
 (o2:w.heap[p2]?=some (.cells #[.pointer (some ⟨cb,0,none⟩)] 140 (0,0))) (o3:w.heap[p3]?=some (.cells (msgCells m fv).toArray 24 (0,0))) (o6:w.heap[p6]?=some (.cells #[.bool st] 4 (0,0)))
 (r:Int×Int) (hr:r=if depthM deps m < 16 then (-1,0) else (-1,10)) (K:World→Prop)
 (hK:∀ w',CkO a0 w' cb md ms (deps++[(m.name,depthM deps m+1)]) (strs++[(m.name,strictM strs m)]) at_ (-1) fs→K w') :
 n31c10 (.pointer (some ⟨p2,0,none⟩)) (.pointer (some ⟨p3,0,none⟩)) (.pointer (some ⟨p6,0,none⟩)) [] (nxtR a0 at_ r K) w:=by
 obtain ⟨n1,n2,l1,l2,l3⟩:=h.nd
 obtain ⟨dn,mv,ds,mn,fv',h1,h2⟩:=h.obj
 have c2:p2≠cb:=by rintro rfl;rw [o2] at h1;cases h1
 have c3:p3≠cb:=by rintro rfl;rw [o3] at h1;cases h1
 have c6:p6≠cb:=by rintro rfl;rw [o6] at h1;cases h1
 have lp6:p6 < w.heap.size:=(Array.getElem?_eq_some_iff.1 o6).1
 have lp3:p3 < w.heap.size:=(Array.getElem?_eq_some_iff.1 o3).1
 unfold n31c10
 simp (disch:=try exact DI) only [↓PR,QR,simprocAttr,(cells_of_heap h1).1,(cells_of_heap h1).2,(cells_of_heap o2).1,(cells_of_heap o3).1]
 have hC1:=h.setFld (-1)
 have o2':(w.setCell ⟨cb,6,none⟩ (.int .i64 (-1))).heap[p2]?=some (.cells #[.pointer (some ⟨cb,0,none⟩)] 140 (0,0)):=by rw [Only.setCell w cb 6 _ p2 c2];exact o2
 have o3':(w.setCell ⟨cb,6,none⟩ (.int .i64 (-1))).heap[p3]?=some (.cells (msgCells m fv).toArray 24 (0,0)):=by rw [Only.setCell w cb 6 _ p3 c3];exact o3
 have o6':(w.setCell ⟨cb,6,none⟩ (.int .i64 (-1))).heap[p6]?=some (.cells #[.bool st] 4 (0,0)):=by rw [Only.setCell w cb 6 _ p6 c6];exact o6
 simp only [World.size_setCell]
 have eW:=hC1.go ((Ext.refl (w.setCell ⟨cb,6,none⟩ (.int .i64 (-1)))).alloc (Obj.cells #[.int .i64 0] 3))
 have x2:=((Ext.refl (w.setCell ⟨cb,6,none⟩ (.int .i64 (-1)))).alloc (Obj.cells #[.int .i64 0] 3)).obj o2'
 have x3:=((Ext.refl (w.setCell ⟨cb,6,none⟩ (.int .i64 (-1)))).alloc (Obj.cells #[.int .i64 0] 3)).obj o3'
 have x6:=((Ext.refl (w.setCell ⟨cb,6,none⟩ (.int .i64 (-1)))).alloc (Obj.cells #[.int .i64 0] 3)).obj o6'
 have x9:=heap_new (w.setCell ⟨cb,6,none⟩ (.int .i64 (-1))) #[.int .i64 0] 3
 rw [World.size_setCell] at x9
 generalize hW:World.alloc (w.setCell ⟨cb,6,none⟩ (.int .i64 (-1))) _=W at eW x2 x3 x6 x9
 have hsz:W.heap.size=w.heap.size+1:=by rw [← hW];simp only [World.size_alloc,World.size_setCell]
 clear hW hC1 o2 o3 o6 o2' o3' o6' h
 have lW:a0.heap.size≤W.heap.size:=eW.ext.size
 refine callK_ret (Refers_ret W _ m ⟨fv,rfl,hF.ext eW.ext⟩ hb) ?_
 rintro _ w7 ⟨pb,sv,rfl,hS,hpb,e7⟩
 have s7:=e7.size
 unfold n31c9
 let rs:=refsM m
 let I:Nat→World→Prop:=fun k w'=>CkO a0 w' cb md ms deps strs at_ (-1) fs∧StrsAt w' pb sv (allRefs m.fields)∧w'.heap[p2]?=some (.cells #[.pointer (some ⟨cb,0,none⟩)] 140 (0,0))∧w'.heap[p3]?=some (.cells (msgCells m fv).toArray 24 (0,0)) ∧
  w'.heap[p6]?=some (.cells #[.bool (st&&(rs.take k).all fun s=>(lastP strs s).getD false)] 4 (0,0))∧w'.heap[w.heap.size]?=some (.cells #[.int .i64 ((rs.take k).foldl (fun d s=>maxI d ((lastP deps s).getD 0)) 0)] 3 (0,0))
 have hLI:∀ k,Lasts w7.heap.size (I k):=fun k=>Lasts.and (CkO.lasts (by omega)) (Lasts.and (StrsAt.lasts _ _ _ _) (Lasts.and (Lasts.has _ (by simp)) (Lasts.and (Lasts.has _ (by simp)) (Lasts.and (Lasts.has _ (by simp)) (Lasts.has _ (by simp))))))
 refine ⟨_,_,rs.length,strX rs,fun w=>StrsAt w pb sv (allRefs m.fields),I,fun _ _=>False,fun _ _=>False,rfl,c69,Refers_seq pb sv _,⟨eW.go e7,hS,e7.obj x2,e7.obj x3,?_,e7.obj x9⟩,fun k w h=>h.2.1,hLI,fun _=>Lasts.const _ _,?_,?_,?_,?_⟩
 · have:=e7.obj x6
   rw [this];simp
 · intro rec j w3 hj hI3 hrec hready
   refine ⟨hready,fun w4 hbz=>?_⟩
   have hrec4:=hrec.busied hbz
   have hI4:=(hLI j).busied hbz (Nat.le_succ _) hI3
   clear hI3 hrec hready hbz
   obtain ⟨hC4,hS4,y2,y3,y6,y9⟩:=hI4
   obtain ⟨s,hx⟩:=getElem?_lt hj
   have hrs:rs[j]?=some s:=hx
   rw [show strX rs j = .string s by unfold strX;rw [hrs]]
   obtain ⟨dn,mv,ds,mn,fv',h1,h2⟩:=hC4.obj
   have l9:w.heap.size < w4.heap.size:=(Array.getElem?_eq_some_iff.1 y9).1
   have hstep:rs.take (j+1)=rs.take j++[s]:=take_snoc hrs
   refine drawK_intro ?_
   unfold n31c4
   simp (disch:=try exact DI) only [↓PR,QR,simprocAttr,(cells_of_heap y9).1,(cells_of_heap y2).1,(cells_of_heap h1).1]
   rw [qV_lookup1E Tryz.underlying161 Tryz.underlying9 ty3 (hC4.mdeps.ext ((Ext.refl w4).wdrew)) s]
   have hg:(lastOf (vI deps) s).getD (.int .i64 0) = .int .i64 ((lastP deps s).getD 0):=by rw [lastOf_vI];cases lastP deps s<;>rfl
   rw [hg]
   simp (disch:=try exact DI) only [↓PR,QR,simprocAttr,(cells_of_heap y9).1,(cells_of_heap y9).2]
   refine turnK_intro ?_
   have e4:Ext w4 w4.drew:=(Ext.refl w4).wdrew
   have hC5:=(hC4.go e4).other (b:=w.heap.size) (o:=0) (by omega) (by omega) (.int .i64 (if (lastP deps s).getD 0 > (rs.take j).foldl (fun d s=>maxI d ((lastP deps s).getD 0)) 0 then (lastP deps s).getD 0 else (rs.take j).foldl (fun d s=>maxI d ((lastP deps s).getD 0)) 0))
   have hS5:StrsAt (w4.drew.setCell ⟨w.heap.size,0,none⟩ (.int .i64 (if (lastP deps s).getD 0 > (rs.take j).foldl (fun d s=>maxI d ((lastP deps s).getD 0)) 0 then (lastP deps s).getD 0 else (rs.take j).foldl (fun d s=>maxI d ((lastP deps s).getD 0)) 0))) pb sv (allRefs m.fields):=(hS4.ext e4).set (by omega) _
   have hrec5:RecAt rec w7.heap.size (w4.drew.setCell ⟨w.heap.size,0,none⟩ (.int .i64 (if (lastP deps s).getD 0 > (rs.take j).foldl (fun d s=>maxI d ((lastP deps s).getD 0)) 0 then (lastP deps s).getD 0 else (rs.take j).foldl (fun d s=>maxI d ((lastP deps s).getD 0)) 0))):=hrec4.drew.setCell _ _
   have z2:=(Only.setCell w4.drew w.heap.size 0 (.int .i64 (if (lastP deps s).getD 0 > (rs.take j).foldl (fun d s=>maxI d ((lastP deps s).getD 0)) 0 then (lastP deps s).getD 0 else (rs.take j).foldl (fun d s=>maxI d ((lastP deps s).getD 0)) 0)) p2 (by omega)).trans y2
   have z3:=(Only.setCell w4.drew w.heap.size 0 (.int .i64 (if (lastP deps s).getD 0 > (rs.take j).foldl (fun d s=>maxI d ((lastP deps s).getD 0)) 0 then (lastP deps s).getD 0 else (rs.take j).foldl (fun d s=>maxI d ((lastP deps s).getD 0)) 0)) p3 (by omega)).trans y3
   have z6:=(Only.setCell w4.drew w.heap.size 0 (.int .i64 (if (lastP deps s).getD 0 > (rs.take j).foldl (fun d s=>maxI d ((lastP deps s).getD 0)) 0 then (lastP deps s).getD 0 else (rs.take j).foldl (fun d s=>maxI d ((lastP deps s).getD 0)) 0)) p6 (by omega)).trans y6
   have z9:=heap_set (w:=w4.drew) (o:=0) y9 (.int .i64 (if (lastP deps s).getD 0 > (rs.take j).foldl (fun d s=>maxI d ((lastP deps s).getD 0)) 0 then (lastP deps s).getD 0 else (rs.take j).foldl (fun d s=>maxI d ((lastP deps s).getD 0)) 0))
   rw [show (#[Value.int .i64 ((rs.take j).foldl (fun d s=>maxI d ((lastP deps s).getD 0)) 0)]:Array Value).setIfInBounds 0 (.int .i64 (if (lastP deps s).getD 0 > (rs.take j).foldl (fun d s=>maxI d ((lastP deps s).getD 0)) 0 then (lastP deps s).getD 0 else (rs.take j).foldl (fun d s=>maxI d ((lastP deps s).getD 0)) 0)) = #[.int .i64 ((rs.take (j+1)).foldl (fun d s=>maxI d ((lastP deps s).getD 0)) 0)] from by rw [hstep,List.foldl_append];rfl] at z9
   generalize w4.drew.setCell ⟨w.heap.size,0,none⟩ _=w5 at hC5 hS5 hrec5 z2 z3 z6 z9 ⊢
   clear hC4 hS4 hrec4 y2 y3 y6 y9 h1 hg
   obtain ⟨dn,mv,ds,mn,fv',h1,h2⟩:=hC5.obj
   have hall:(st&&(rs.take (j+1)).all fun s=>(lastP strs s).getD false)=((st&&(rs.take j).all fun s=>(lastP strs s).getD false)&&(lastP strs s).getD false):=by
    rw [hstep,List.all_append,Bool.and_assoc];simp
   have fin:∀ b,b=(st&&(rs.take (j+1)).all fun s=>(lastP strs s).getD false)→RecAt rec w7.heap.size (w5.setCell ⟨p6,0,none⟩ (.bool b))∧I (j+1) (w5.setCell ⟨p6,0,none⟩ (.bool b)):=by
    rintro b rfl
    refine ⟨hrec5.setCell _ _,hC5.other hp6 c6 _,hS5.set (by omega) _,(Only.setCell w5 p6 0 _ p2 (by omega)).trans z2,(Only.setCell w5 p6 0 _ p3 (by omega)).trans z3,?_,(Only.setCell w5 p6 0 _ w.heap.size (by omega)).trans z9⟩
    have:=heap_set (o:=0) z6 (.bool (st&&(rs.take (j+1)).all fun s=>(lastP strs s).getD false))
    simpa using this
   rw [hall] at fin
   generalize (st&&(rs.take j).all fun s=>(lastP strs s).getD false)=sj at z6 fin
   unfold n31c3
   have hg:(lastOf (vB strs) s).getD (.bool false) = .bool ((lastP strs s).getD false):=by rw [lastOf_vB];cases lastP strs s<;>rfl
   cases sj with
   | false =>
    simp (disch:=try exact DI) only [↓PR,QR,simprocAttr,(cells_of_heap z6).1,(cells_of_heap z6).2,↓n31c1,↓n31c2,↓n31c3,↓n31c4,↓n31c5,↓n31c6,↓n31c7,↓n31c8,↓n31c9,↓n31c10,↓n31c11,↓n31c12,↓n31c13,↓n31c14,↓n31c15,↓n31c16,↓n31c17,↓n31c18]
    exact fin false rfl
   | true =>
    simp (disch:=try exact DI) only [↓PR,QR,simprocAttr,(cells_of_heap z6).1,(cells_of_heap z6).2,(cells_of_heap z2).1,(cells_of_heap h1).1]
    rw [op_lookup1O Tryz.underlying162 Tryz.underlying9 ty4 hC5.mstrs s,hg]
    generalize (lastP strs s).getD false=b at fin
    simp (disch:=try exact DI) only [↓PR,QR,simprocAttr,(cells_of_heap z6).1,(cells_of_heap z6).2,n31c1]
    exact fin b (by cases b<;>rfl)
 · rintro w3 hI3 hmk
   obtain ⟨hC3,hS3,y2,y3,y6,y9⟩:=hI3
   rw [List.take_length] at y6 y9
   have hfold:=foldl_maxI (fun s=>(lastP deps s).getD 0) rs 0 (by decide) (fun s _=>hlow.get s) (by decide)
   refine nxt_end hC3 p2 p3 p6 w.heap.size w7.heap.size m fv _ _ hfold.1 (by have:=hfold.2;omega) y2 y3 y6 y9 hmk (by omega) r hr K ?_
   rw [hst]
   exact hK
 · rintro c w3 h
   exact h.elim
 · rintro ch w3 h
   exact h.elim
end
section
variable {a0 w:World} {cb md ms:Nat} {deps:List (ByteArray×Int)} {strs:List (ByteArray×Bool)} {at_ fld:Int} {m:MsgD}
theorem nxt_loop (hlow:Low deps) (h:CkO a0 w cb md ms deps strs at_ fld m.fields) (p2 p3:Nat) (fv:Value) (hF:FieldsOf a0 fv m.fields) (hb:(allRefs m.fields).length≤1048576) (ht:∀ f∈m.fields,f.terms.length≤1048576) (hp2:a0.heap.size≤p2) (hp3:a0.heap.size≤p3)
 (o2:w.heap[p2]?=some (.cells #[.pointer (some ⟨cb,0,none⟩)] 140 (0,0))) (o3:w.heap[p3]?=some (.cells (msgCells m fv).toArray 24 (0,0)))
 (r:Int×Int) (hr:r=tailP deps m (fieldsP deps strs [] m.fields)) (K:World→Prop)
 (hK:∀ w',CkO a0 w' cb md ms (deps++[(m.name,depthM deps m+1)]) (strs++[(m.name,strictM strs m)]) at_ (-1) m.fields→K w') :
 n31c13 (.pointer (some ⟨p2,0,none⟩)) (.pointer (some ⟨p3,0,none⟩)) [] (nxtR a0 at_ r K) w:=by
 obtain ⟨n1,n2,l1,l2,l3⟩:=h.nd
 have lp2:p2 < w.heap.size:=(Array.getElem?_eq_some_iff.1 o2).1
 have lp3:p3 < w.heap.size:=(Array.getElem?_eq_some_iff.1 o3).1
 have lw:=h.ext.size
 obtain ⟨A,c,rfl,hlc,hcm,hlm,hel⟩:=SliceOf.open hF
 unfold n31c13
 simp (disch:=try exact DI) only [↓PR,QR,simprocAttr,(cells_of_heap o3).1]
 refine loop1_intro (fun i w'=>∃ (k:Nat) (fld':Int),i = .int .i64 k∧k≤m.fields.length∧CkO a0 w' cb md ms deps strs at_ fld' m.fields∧w'.heap[p2]?=some (.cells #[.pointer (some ⟨cb,0,none⟩)] 140 (0,0))∧w'.heap[p3]?=some (.cells (msgCells m (.slice A m.fields.length c)).toArray 24 (0,0)) ∧
  w'.heap[w.heap.size]?=some (.cells #[.bool ((m.fields.take k).all fun f=>!f.loose)] 4 (0,0))∧r=tailP deps m (fieldsP deps strs (m.fields.take k) (m.fields.drop k))) (fun i _=>m.fields.length - (intOf i).toNat) ⟨0,fld,rfl,by omega,h.go ((Ext.refl _).alloc _),((Ext.refl _).alloc _).obj o2,((Ext.refl _).alloc _).obj o3,heap_new w #[.bool true] 4,hr⟩ ?_
 rintro i w' ⟨k,fld',rfl,hk,hC,y2,y3,y6,hrk⟩
 have l6:w.heap.size < w'.heap.size:=(Array.getElem?_eq_some_iff.1 y6).1
 have lw':=hC.ext.size
 obtain ⟨dn,mv,ds,mn,fv',h1,h2⟩:=hC.obj
 have c2:p2≠cb:=by rintro rfl;rw [y2] at h1;cases h1
 have c3:p3≠cb:=by rintro rfl;rw [y3] at h1;cases h1
 rcases drop_cases hk with ⟨x,hx,hd,hlt,hdec⟩ | ⟨hk,hd,hdec⟩
 · obtain ⟨b,o,cs,rfl,hl,hA,hE⟩:=hel k x hx
   obtain ⟨tv,cv,rfl,hT,hCa,ht1,hc1⟩:=hE.op
   have hA':=hA.ext hC.ext
   rw [hd] at hrk
   simp only [fieldsP] at hrk
   unfold n31c12
   simp (disch:=try exact DI) only [↓PR,QR,simprocAttr,hdec]
   unfold n31c11
   try unfold X0
   try unfold L0
   rw [op_indexN Tryz.underlying22 ty48 _ _ _ _ _ k hlt,op_load (hA'.loads ty48 rfl)]
   simp (disch:=try exact DI) only [↓PR,QR,simprocAttr,(cells_of_heap y2).1,(cells_of_heap h1).1,(cells_of_heap h1).2]
   have hCw:=(hC.setFld (k:Int)).go ((Ext.refl _).alloc (Obj.cells (fieldCells x tv cv).toArray 48))
   have z2:=((Ext.refl _).alloc (Obj.cells (fieldCells x tv cv).toArray 48)).obj ((Only.setCell w' cb 6 (.int .i64 (k:Int)) p2 c2).trans y2)
   have z3:=((Ext.refl _).alloc (Obj.cells (fieldCells x tv cv).toArray 48)).obj ((Only.setCell w' cb 6 (.int .i64 (k:Int)) p3 c3).trans y3)
   have z6:=((Ext.refl _).alloc (Obj.cells (fieldCells x tv cv).toArray 48)).obj ((Only.setCell w' cb 6 (.int .i64 (k:Int)) w.heap.size (by omega)).trans y6)
   have z8:=heap_new (w'.setCell ⟨cb,6,none⟩ (.int .i64 (k:Int))) (fieldCells x tv cv).toArray 48
   rw [World.size_setCell] at z8
   generalize (World.alloc (w'.setCell ⟨cb,6,none⟩ (.int .i64 (k:Int))) (Obj.cells (fieldCells x tv cv).toArray 48))=W at hCw z2 z3 z6 z8 ⊢
   have hkt:(m.fields.take k).length=k:=by rw [List.length_take];omega
   refine callK_flw (examine_flw hCw.chk k rfl hlt _ x ⟨tv,cv,rfl,TermsOf.ext hT hCw.ext,CasesOf.ext hCa hCw.ext⟩ (ht x (List.mem_of_getElem? hx))) (fun w5 e5 h0=>?_) (fun w5 e5 h0=>?_)
   · rw [if_pos h0] at hrk
     have q6:=e5.obj z6
     have q8:=e5.obj z8
     have hC5:=hCw.go e5
     have l5:w'.heap.size < w5.heap.size:=(Array.getElem?_eq_some_iff.1 q8).1
     have htk:=take_snoc hx
     rw [← htk] at hrk
     have hall:((m.fields.take (k+1)).all fun f=>!f.loose)=(((m.fields.take k).all fun f=>!f.loose)&&!x.loose):=by rw [htk,List.all_append];simp
     have fin:∀ b' w6,Ext w5 w6→b'=((m.fields.take (k+1)).all fun f=>!f.loose)→(∃ (k':Nat) (fld':Int),Value.int .i64 ((k+1:Nat):Int) = .int .i64 k'∧k'≤m.fields.length∧CkO a0 (w6.setCell ⟨w.heap.size,0,none⟩ (.bool b')) cb md ms deps strs at_ fld' m.fields∧w6.heap[p2]?=some (.cells #[.pointer (some ⟨cb,0,none⟩)] 140 (0,0))∧w6.heap[p3]?=some (.cells (msgCells m (.slice (some ⟨b,o,none⟩) m.fields.length c)).toArray 24 (0,0)) ∧
      (w6.setCell ⟨w.heap.size,0,none⟩ (.bool b')).heap[w.heap.size]?=some (.cells #[.bool ((m.fields.take k').all fun f=>!f.loose)] 4 (0,0))∧r=tailP deps m (fieldsP deps strs (m.fields.take k') (m.fields.drop k')))∧m.fields.length - (intOf (Value.int .i64 ((k+1:Nat):Int))).toNat < m.fields.length - (intOf (Value.int IntKind.i64 k)).toNat:=by
      rintro b' w6 e6 rfl
      refine ⟨⟨k+1,k,rfl,by omega,(hC5.go e6).other (by omega) (by omega) _,e6.obj (e5.obj z2),e6.obj (e5.obj z3),?_,hrk⟩,meas_lt (kd := .i64) hlt⟩
      have:=heap_set (o:=0) (e6.obj q6) (.bool ((m.fields.take (k+1)).all fun f=>!f.loose))
      simpa using this
     unfold n31c2
     rw [hall] at fin
     generalize ((m.fields.take k).all fun f=>!f.loose)=sj at q6 fin
     cases sj with
     | true =>
      generalize hxl:x.loose=xl at fin
      simp (disch:=try exact DI) only [↓PR,QR,simprocAttr,(cells_of_heap q6).1,(cells_of_heap q6).2,(cells_of_heap q8).1,n31c1,hxl]
      simp only [Bool.true_and] at fin
      exact fin _ w5 (Ext.refl _) rfl
     | false =>
      simp (disch:=try exact DI) only [↓PR,QR,simprocAttr,(cells_of_heap q6).1,(cells_of_heap q6).2,(cells_of_heap q8).1,n31c1]
      simp only [Bool.false_and] at fin
      exact fin _ w5 (Ext.refl _) rfl
   · rw [if_neg h0] at hrk
     have hr2:r=((k:Int),examineC (m.fields.take k) (vI deps) (vB strs) x):=by
      rw [hrk,hkt];unfold tailP;rw [if_neg h0]
     show outQ _ _ _ _ _ _
     rw [outQ_nil]
     exact nxtR_pan (hCw.ext.trans e5) hr2 h0
 · subst hk
   rw [hd] at hrk
   rw [List.take_length] at y6
   unfold n31c12
   simp (disch:=try exact DI) only [↓PR,QR,simprocAttr,hdec]
   refine nxt_range hlow hC p2 p3 w.heap.size m _ _ rfl hF hb hp2 hp3 lw lp2 lp3 y2 y3 y6 r ?_ K hK
   rw [hrk]
   rfl
theorem next_flw {w0:World} {fs0:List FieldD} (hlow:Low deps) (h:CkO a0 w0 cb md ms deps strs at_ fld fs0) (v:Value) (hm:MsgVal a0 v m) (hb:(allRefs m.fields).length≤1048576) (ht:∀ f∈m.fields,f.terms.length≤1048576) (K:World→Prop)
 (hK:∀ w',CkO a0 w' cb md ms (deps++[(m.name,depthM deps m+1)]) (strs++[(m.name,strictM strs m)]) at_ (-1) m.fields→K w') :
 Calls Pg 124 #[.pointer (some ⟨cb,0,none⟩),v] w0 (nxtR a0 at_ (nextP deps strs m) K):=by
 obtain ⟨fv,rfl,hF⟩:=hm
 obtain ⟨n1,n2,l1,l2,l3⟩:=h.nd
 have lw:=h.ext.size
 have hf1:=SliceOf.oneCell hF
 refine n31s ?_;unfold n31
 simp (disch:=try exact DI) only [↓PR,QR,simprocAttr]
 have hC:=h.go (((Ext.refl w0).alloc (Obj.cells #[.pointer (some ⟨cb,0,none⟩)] 140)).alloc (Obj.cells (msgCells m fv).toArray 24))
 have z3:=heap_new (w0.alloc (Obj.cells #[.pointer (some ⟨cb,0,none⟩)] 140)) (msgCells m fv).toArray 24
 have z2:=((Ext.refl (w0.alloc (Obj.cells #[.pointer (some ⟨cb,0,none⟩)] 140))).alloc (Obj.cells (msgCells m fv).toArray 24)).obj (heap_new w0 _ _)
 simp only [World.size_alloc] at z3 ⊢
 generalize (World.alloc (World.alloc w0 _) _)=W at hC z2 z3 ⊢
 clear h
 obtain ⟨dn,mv,ds,mn,fv',h1,h2⟩:=hC.obj
 refine drawK_introB (w1:=W) cb cb (fun _ _ _ _=>rfl) ?_
 unfold n31c18
 simp (disch:=try exact DI) only [↓PR,QR,simprocAttr,(cells_of_heap z2).1]
 have L3:∀ w',KB W cb cb w'→Loads Pg w' 24 ⟨w0.heap.size+1,0,none⟩ (.agg (msgCells m fv).toArray):=fun w' hw'=>Loads.many ty24 rfl (fun j u hu=>by
  rw [Addr.add_lit]
  exact KB.cell (b:=w0.heap.size+1) hw' (by omega) (by omega) (by rw [(cells_of_heap z3).1];simpa using hu))
 rw [qV_loadG L3]
 simp (disch:=try exact DI) only [↓PR,QR,simprocAttr,(cells_of_heap h1).1,(cells_of_heap h1).2]
 have eD:Ext W W.drew:=(Ext.refl W).wdrew
 have hC1:=(hC.go eD).setMsg m.name fv m.fields hF
 have y2:=(Only.setCell (W.drew.setCell ⟨cb,7,none⟩ (.string m.name)) cb 8 fv w0.heap.size (by omega)).trans ((Only.setCell W.drew cb 7 (.string m.name) w0.heap.size (by omega)).trans (eD.obj z2))
 have y3:=(Only.setCell (W.drew.setCell ⟨cb,7,none⟩ (.string m.name)) cb 8 fv (w0.heap.size+1) (by omega)).trans ((Only.setCell W.drew cb 7 (.string m.name) (w0.heap.size+1) (by omega)).trans (eD.obj z3))
 refine ⟨fun b hb b1 _=>(Only.setCell _ cb 8 fv b b1).trans (Only.setCell W.drew cb 7 (.string m.name) b b1),?_⟩
 show n31c17 _ _ _ _ _ _ ((W.drew.setCell ⟨cb,7,none⟩ (.string m.name)).setCell ⟨cb,8,none⟩ fv)
 generalize ((W.drew.setCell ⟨cb,7,none⟩ (.string m.name)).setCell ⟨cb,8,none⟩ fv)=W1 at hC1 y2 y3 ⊢
 clear hC z2 z3 h1
 obtain ⟨dn,mv,ds,mn,fv',h1,h2'⟩:=hC1.obj
 unfold n31c17
 simp (disch:=try exact DI) only [↓PR,QR,simprocAttr,(cells_of_heap h1).1,(cells_of_heap h1).2]
 have hC2:=hC1.setFld (-1)
 have x2:=(Only.setCell W1 cb 6 (.int .i64 (-1)) w0.heap.size (by omega)).trans y2
 have x3:=(Only.setCell W1 cb 6 (.int .i64 (-1)) (w0.heap.size+1) (by omega)).trans y3
 generalize (W1.setCell ⟨cb,6,none⟩ (.int .i64 (-1)))=W2 at hC2 x2 x3 ⊢
 clear hC1 y2 y3 h1
 refine turnK_intro ?_
 refine drawK_intro ?_
 unfold n31c16
 simp (disch:=try exact DI) only [↓PR,QR,simprocAttr,(cells_of_heap x2).1,(cells_of_heap x3).1]
 refine zcr (Name_ret _ m.name) fun w3 e3=>?_
 have e3':Ext W2 w3:=(Ext.refl W2).wdrew.trans e3
 refine ⟨e3,?_⟩
 generalize hr:nextP deps strs m=r
 unfold nextP at hr
 refine callK_flw (need_flw (hC2.go e3').chk _ 1 (by decide)) (fun w4 e4 h0=>?_) (fun w4 e4 h0=>?_)
 · have e4':=e3'.trans e4
   have hn:nameB m.name=true:=needC_zero (by decide) h0
   rw [if_pos hn] at hr
   refine ⟨e3.trans e4,?_⟩
   have hC4:=hC2.go e4'
   have x2':=e4'.obj x2
   have x3':=e4'.obj x3
   obtain ⟨dn,mv,ds,mn,fv',h1,h2'⟩:=hC4.obj
   refine drawK_intro ?_
   unfold n31c15
   simp (disch:=try exact DI) only [↓PR,QR,simprocAttr,(cells_of_heap x2').1,(cells_of_heap x3').1,(cells_of_heap h1).1]
   have eD4:Ext w4 w4.drew:=(Ext.refl w4).wdrew
   rw [qV_lookupE Tryz.underlying161 Tryz.underlying9 ty3 (hC4.mdeps.ext eD4) m.name]
   have hsome:(lastOf (vI deps) m.name).isSome=(lastP deps m.name).isSome:=by rw [lastOf_vI,Option.isSome_map]
   rw [hsome]
   simp (disch:=try exact DI) only [↓PR,QR,simprocAttr,(cells_of_heap x2').1]
   refine callK_flw (need_flw (hC4.go eD4).chk _ 2 (by decide)) (fun w5 e5 h0=>?_) (fun w5 e5 h0=>?_)
   · have hs:(lastP deps m.name).isSome=false:=by have:=needC_zero (by decide) h0;simpa using this
     rw [hs,if_neg (by simp)] at hr
     have hC5:=hC4.go (eD4.trans e5)
     have x2'':=(eD4.trans e5).obj x2'
     have x3'':=(eD4.trans e5).obj x3'
     have fin:∀ b,b=decide (1≤m.fields.length∧m.fields.length≤40)→callK Pg 122 #[.pointer (some ⟨cb,0,none⟩),.bool b,.int .i64 3] (outQ Pg [] [] (nxtR a0 at_ r K)) w5 (fun _ w=>n31c13 (.pointer (some ⟨w0.heap.size,0,none⟩)) (.pointer (some ⟨w0.heap.size+1,0,none⟩)) [] (nxtR a0 at_ r K) w):=by
      rintro b rfl
      refine callK_flw (need_flw hC5.chk _ 3 (by decide)) (fun w6 e6 h0=>?_) (fun w6 e6 h0=>?_)
      · have hl:=needC_zero (by decide) h0
        simp only [decide_eq_true_eq] at hl
        rw [if_pos hl] at hr
        exact nxt_loop hlow (hC5.go e6) w0.heap.size (w0.heap.size+1) fv hF hb ht (by omega) (by omega) (e6.obj x2'') (e6.obj x3'') r hr.symm K hK
      · by_cases hl:1≤m.fields.length∧m.fields.length≤40
        · rw [decide_eq_true hl] at h0;exact absurd rfl h0
        · rw [if_neg hl] at hr
          rw [decide_eq_false hl]
          show outQ _ _ _ _ _ _
          rw [outQ_nil]
          exact nxtR_pan (hC5.ext.trans e6) hr.symm (by decide)
     obtain ⟨A,c,rfl,hlc,hcm,hlm,hel⟩:=SliceOf.open hF
     unfold n31c14
     by_cases h1l:1≤m.fields.length
     · have d1:decide ((m.fields.length:Int)≥1)=true:=by simp;omega
       by_cases h2l:m.fields.length≤40
       · have d2:decide ((m.fields.length:Int)≤40)=true:=by simp;omega
         simp (disch:=try exact DI) only [↓PR,QR,simprocAttr,(cells_of_heap x2'').1,(cells_of_heap x3'').1,d1,d2]
         exact fin _ (by simp [h1l,h2l])
       · have d2:decide ((m.fields.length:Int)≤40)=false:=by simp;omega
         simp (disch:=try exact DI) only [↓PR,QR,simprocAttr,(cells_of_heap x2'').1,(cells_of_heap x3'').1,d1,d2]
         exact fin _ (by simp [h2l])
     · have d1:decide ((m.fields.length:Int)≥1)=false:=by simp;omega
       simp (disch:=try exact DI) only [↓PR,QR,simprocAttr,(cells_of_heap x2'').1,(cells_of_heap x3'').1,d1]
       exact fin _ (by simp [h1l])
   · have hs:(lastP deps m.name).isSome=true:=by
      cases hq:(lastP deps m.name).isSome with
      | true=>rfl
      | false=>rw [hq] at h0;exact absurd rfl h0
     rw [hs,if_pos rfl] at hr
     rw [hs]
     show outQ _ _ _ _ _ _
     rw [outQ_nil]
     exact nxtR_pan (hC4.ext.trans (eD4.trans e5)) hr.symm (by decide)
 · have hn:nameB m.name=false:=by
    cases hq:nameB m.name with
    | false=>rfl
    | true=>rw [hq] at h0;exact absurd rfl h0
   rw [hn,if_neg (by simp)] at hr
   rw [hn]
   show outQ _ _ _ _ _ _
   rw [outQ_nil]
   exact nxtR_pan (hC2.ext.trans (e3'.trans e4)) hr.symm (by decide)
end
def stepD (deps:List (ByteArray×Int)) (m:MsgD):List (ByteArray×Int):=deps++[(m.name,depthM deps m+1)]
def stepS (strs:List (ByteArray×Bool)) (m:MsgD):List (ByteArray×Bool):=strs++[(m.name,strictM strs m)]
def depsOf (l:List MsgD):List (ByteArray×Int):=l.foldl stepD []
def strsOf (l:List MsgD):List (ByteArray×Bool):=l.foldl stepS []
def msgsP (deps:List (ByteArray×Int)) (strs:List (ByteArray×Bool)) (at_:Nat):List MsgD→Int×Int×Int
 | []=>(0,0,0)
 | m::l=>if (nextP deps strs m).2=0 then msgsP (stepD deps m) (stepS strs m) (at_+1) l else (at_,nextP deps strs m)
def endP (d:DefD) (r:Int×Int×Int):Int×Int×Int:=if r.2.2=0 then (if (lastP (depsOf d.msgs) d.start).isSome then (0,0,0) else (-1,-1,11)) else r
def checkP (d:DefD):Int×Int×Int :=
 if nameB d.name then (if 1≤d.msgs.length∧d.msgs.length≤60 then endP d (msgsP [] [] 0 d.msgs) else (-1,-1,3)) else (-1,-1,1)
theorem tailP_low {deps:List (ByteArray×Int)} {m:MsgD} {r:Int×Int} (h:(tailP deps m r).2=0):depthM deps m < 16:=by
 unfold tailP at h
 split at h
 · split at h
   · assumption
   · exact absurd h (by decide)
 · contradiction
theorem nextP_low {deps:List (ByteArray×Int)} {strs:List (ByteArray×Bool)} {m:MsgD} (h:(nextP deps strs m).2=0):depthM deps m < 16:=by
 unfold nextP at h
 split at h
 · split at h
   · exact absurd h (by decide)
   · split at h
     · exact tailP_low h
     · exact absurd h (by decide)
 · exact absurd h (by decide)
theorem Low.step {deps:List (ByteArray×Int)} {strs:List (ByteArray×Bool)} {m:MsgD} (hl:Low deps) (h:(nextP deps strs m).2=0):Low (stepD deps m):=by
 intro p hp
 rcases List.mem_append.1 hp with hp | hp
 · exact hl p hp
 · simp only [List.mem_singleton] at hp
   subst hp
   have h1:=nextP_low h
   have h2:=(foldl_maxI (fun s=>(lastP deps s).getD 0) (refsM m) 0 (by decide) (fun s _=>hl.get s) (by decide)).1
   exact ⟨by show 0≤depthM deps m+1;unfold depthM;omega,by show depthM deps m+1≤16;omega⟩
def calm (d:DefD):Prop:=∀ m∈d.msgs,(allRefs m.fields).length≤1048576∧∀ f∈m.fields,f.terms.length≤1048576
abbrev catchD (p3 p4:Nat):Deferred:={ target := .fn (.func 121) #[.pointer (some ⟨p3,0,none⟩),.pointer (some ⟨p4,0,none⟩)],args := #[] }
theorem catch_ret {p3 p4:Nat} {w:World} {k:FrameMode→World→Prop} (h:k .returning w):outM Pg [catchD p3 p4] .returning w k:=by
 refine ⟨by simp,.inr ⟨.func 121,_,121,#[.pointer (some ⟨p3,0,none⟩),.pointer (some ⟨p4,0,none⟩)],rfl,?_,?_⟩⟩
 · exact callFunc_run c121 _ w
 · refine n36s ?_
   unfold n36
   show opV _ (binS .neq _ true .nilIface .nilIface) _ _ _
   rw [op_neqNil_none Tryz.underlying20]
   simp (disch:=try exact DI) only [↓PR,QR,simprocAttr]
   exact h
theorem catch_pan {p3 p4:Nat} {w:World} {k:FrameMode→World→Prop} {a f c:Int} {x0 x1 x2 y:Value} (o3:w.heap[p3]?=some (.cells #[x0,x1,x2] 90 (0,0))) (o4:w.heap[p4]?=some (.cells #[y] 4 (0,0)))
 (h:k .returning ((((w.setCell ⟨p3,0,none⟩ (.int .i64 a)).setCell ⟨p3,1,none⟩ (.int .i64 f)).setCell ⟨p3,2,none⟩ (.int .i64 c)).setCell ⟨p4,0,none⟩ (.bool true))):outM Pg [catchD p3 p4] (.panicking [flawEntry a f c]) w k:=by
 have hne:p3≠p4:=by rintro rfl;rw [o3] at o4;cases o4
 refine ⟨by simp,.inr ⟨.func 121,_,121,#[.pointer (some ⟨p3,0,none⟩),.pointer (some ⟨p4,0,none⟩)],rfl,?_,?_⟩⟩
 · exact callFunc_run c121 _ w
 · refine n36s ?_
   rw [show recM (.panicking [flawEntry a f c])=(.iface 90 (flawVal a f c),.panicking [{ v := .iface 90 (flawVal a f c),recovered:=true }]) from rfl]
   unfold n36
   rw [op_neqNil_some Tryz.underlying20]
   simp (disch:=try exact DI) only [↓PR,QR,simprocAttr]
   unfold n36c1
   rw [op_assert_ok Tryz.underlying90 rfl]
   simp (disch:=try exact DI) only [↓PR,QR,simprocAttr,(cells_of_heap o3).1,(cells_of_heap o3).2,(cells_of_heap o4).1,(cells_of_heap o4).2]
   exact h
section
variable {w0:World}
def CkE (w:World) (cb:Nat) (deps:List (ByteArray×Int)) (strs:List (ByteArray×Bool)):Prop:=∃ md ms dn mv ds at_ fld mn fv,w.heap[cb]?=some (.cells #[.string dn,mv,.string ds,.map (some md),.map (some ms),.int .i64 at_,.int .i64 fld,.string mn,fv] 164 (0,0))∧MapOf w md (vI deps)∧MapOf w ms (vB strs)
theorem CkE.other {w:World} {cb b o:Nat} {deps:List (ByteArray×Int)} {strs:List (ByteArray×Bool)} (h:CkE w cb deps strs) (hn:b≠cb) (v:Value):CkE (w.setCell ⟨b,o,none⟩ v) cb deps strs:=by
 obtain ⟨md,ms,dn,mv,ds,at_,fld,mn,fv,h1,h2,h3⟩:=h
 exact ⟨md,ms,dn,mv,ds,at_,fld,mn,fv,(Only.setCell w b o v cb (fun e=>hn e.symm)).trans h1,h2.setCell _ _,h3.setCell _ _⟩
theorem CkO.left {a0 w:World} {cb md ms:Nat} {deps:List (ByteArray×Int)} {strs:List (ByteArray×Bool)} {at_ fld:Int} {fs:List FieldD} (h:CkO a0 w cb md ms deps strs at_ fld fs):CkE w cb deps strs:=by
 obtain ⟨dn,mv,ds,mn,fv,h1,_⟩:=h.obj
 exact ⟨md,ms,dn,mv,ds,at_,fld,mn,fv,h1,h.mdeps,h.mstrs⟩
def examK (w0:World) (d:DefD) (r:Value) (w':World):Prop:=Ext w0 w'∧∃ cb,r = .tuple #[.pointer (some ⟨cb,0,none⟩),flawVal (checkP d).1 (checkP d).2.1 (checkP d).2.2,.bool (decide ((checkP d).2.2≠0))] ∧
 ((checkP d).2.2=0→CkE w' cb (depsOf d.msgs) (strsOf d.msgs))
abbrev resL (cb p3 p4:Nat):List (Option TypeId×Value):=[(none,.pointer (some ⟨cb,0,none⟩)),(some 90,.pointer (some ⟨p3,0,none⟩)),(some 4,.pointer (some ⟨p4,0,none⟩))]
theorem exm_pan {w:World} {d:DefD} {cb p3 p4:Nat} {a f c:Int} {x0 x1 x2 y:Value} (e:Ext w0 w) (h3:w0.heap.size≤p3) (h4:w0.heap.size≤p4) (o3:w.heap[p3]?=some (.cells #[x0,x1,x2] 90 (0,0))) (o4:w.heap[p4]?=some (.cells #[y] 4 (0,0)))
 (h:checkP d=(a,f,c)) (hc:c≠0):outQ Pg [catchD p3 p4] (resL cb p3 p4) (retR (examK w0 d)) [flawEntry a f c] w:=by
 have hne:p3≠p4:=by rintro rfl;rw [o3] at o4;cases o4
 unfold outQ
 refine catch_pan o3 o4 ?_
 have q3:=heap_set (o:=2) (heap_set (o:=1) (heap_set (o:=0) o3 (.int .i64 a)) (.int .i64 f)) (.int .i64 c)
 have e1:Ext w0 ((((w.setCell ⟨p3,0,none⟩ (.int .i64 a)).setCell ⟨p3,1,none⟩ (.int .i64 f)).setCell ⟨p3,2,none⟩ (.int .i64 c)).setCell ⟨p4,0,none⟩ (.bool true)):=(((e.setCell h3 _).setCell h3 _).setCell h3 _).setCell h4 _
 have q4:=heap_set (o:=0) ((Only.setCell ((w.setCell ⟨p3,0,none⟩ (.int .i64 a)).setCell ⟨p3,1,none⟩ (.int .i64 f)) p3 2 (.int .i64 c) p4 (by omega)).trans ((Only.setCell (w.setCell ⟨p3,0,none⟩ (.int .i64 a)) p3 1 (.int .i64 f) p4 (by omega)).trans ((Only.setCell w p3 0 (.int .i64 a) p4 (by omega)).trans o4))) (.bool true)
 have q3':=(Only.setCell _ p4 0 (.bool true) p3 hne).trans q3
 simp only [List.setIfInBounds_toArray,List.set_cons_zero,List.set_cons_succ] at q3' q4
 generalize ((((w.setCell ⟨p3,0,none⟩ (.int .i64 a)).setCell ⟨p3,1,none⟩ (.int .i64 f)).setCell ⟨p3,2,none⟩ (.int .i64 c)).setCell ⟨p4,0,none⟩ (.bool true))=W at e1 q3' q4 ⊢
 unfold endM retV resOne resL
 simp only
 simp (disch:=try exact DI) only [↓PR,QR,simprocAttr,(cells_of_heap q3').1,(cells_of_heap q4).1]
 refine ⟨e1,cb,?_,fun h0=>?_⟩
 · rw [h];simp [hc]
 · rw [h] at h0;exact absurd h0 hc
theorem exm_fine {w:World} {d:DefD} {cb p3 p4:Nat} (e:Ext w0 w) (hC:CkE w cb (depsOf d.msgs) (strsOf d.msgs)) (o3:w.heap[p3]?=some (.cells #[.int .i64 0,.int .i64 0,.int .i64 0] 90 (0,0))) (o4:w.heap[p4]?=some (.cells #[.bool false] 4 (0,0)))
 (h:checkP d=(0,0,0)):outX Pg [catchD p3 p4] (resL cb p3 p4) (retR (examK w0 d)) w:=by
 unfold outX
 refine catch_ret ?_
 unfold endM retV resOne resL
 simp only
 simp (disch:=try exact DI) only [↓PR,QR,simprocAttr,(cells_of_heap o3).1,(cells_of_heap o4).1]
 refine ⟨e,cb,?_,fun h0=>hC⟩
 rw [h];simp
theorem callK_nxt {f:FuncId} {args:Array Value} {QP:List PanicEntry→World→Prop} {a0 w:World} {k:Value→World→Prop} {at_:Int} {r:Int×Int} {K:World→Prop} (h:Calls Pg f args w (nxtR a0 at_ r K)) (hk:∀ w',r.2=0→K w'→k (.tuple #[]) w') (hp:∀ w',Ext a0 w'→r.2≠0→QP [flawEntry at_ r.1 r.2] w'):callK Pg f args QP w k :=
 callK_calls h (fun v w' h=>by rcases h with ⟨e,⟨h1,h2,h3⟩ | ⟨_,h2⟩⟩<;>cases h2;exact hk w' h1 h3) (fun ch w' h=>by rcases h with ⟨e,⟨_,h2,_⟩ | ⟨h1,h2⟩⟩<;>cases h2;exact hp w' e h1) (fun w' h=>by rcases h with ⟨_,⟨_,h2,_⟩ | ⟨_,h2⟩⟩<;>cases h2)
theorem foldl_take {α β:Type} (g:β→α→β) {l:List α} {k:Nat} {x:α} (b:β) (hx:l[k]?=some x):(l.take (k+1)).foldl g b=g ((l.take k).foldl g b) x:=by rw [take_snoc hx,List.foldl_append];rfl
theorem exm_loop {A0 w:World} {d:DefD} {cb p1 p3 p4 md ms:Nat} {fs:List FieldD} {mv:Value} (ea:Ext w0 A0) (hM:MsgsOf A0 mv d.msgs) (ht:calm d) (hC:CkO A0 w cb md ms [] [] (-1) (-1) fs) (o1:A0.heap[p1]?=some (.cells (defCells d mv).toArray 28 (0,0)))
 (o3:A0.heap[p3]?=some (.cells #[.int .i64 0,.int .i64 0,.int .i64 0] 90 (0,0))) (o4:A0.heap[p4]?=some (.cells #[.bool false] 4 (0,0))) (h3:w0.heap.size≤p3) (h4:w0.heap.size≤p4) (hr:checkP d=endP d (msgsP [] [] 0 d.msgs)) :
 n35c6 (.pointer (some ⟨p1,0,none⟩)) (.pointer (some ⟨p3,0,none⟩)) (.pointer (some ⟨p4,0,none⟩)) (.pointer (some ⟨cb,0,none⟩)) [catchD p3 p4] (retR (examK w0 d)) w:=by
 have pan:∀ w' a f c,Ext A0 w'→checkP d=(a,f,c)→c≠0→outQ Pg [catchD p3 p4] (resL cb p3 p4) (retR (examK w0 d)) [flawEntry a f c] w':=fun w' a f c e h h0=>exm_pan (ea.trans e) h3 h4 (e.obj o3) (e.obj o4) h h0
 obtain ⟨A,c,rfl,hlc,hcm,hlm,hel⟩:=SliceOf.open hM
 unfold n35c6
 simp (disch:=try exact DI) only [↓PR,QR,simprocAttr,(cells_of_heap (hC.ext.obj o1)).1]
 refine loop1_intro (fun i w'=>∃ (k:Nat) (at':Int) (fs':List FieldD),i = .int .i64 k∧k≤d.msgs.length∧CkO A0 w' cb md ms (depsOf (d.msgs.take k)) (strsOf (d.msgs.take k)) at' (-1) fs'∧Low (depsOf (d.msgs.take k))∧checkP d=endP d (msgsP (depsOf (d.msgs.take k)) (strsOf (d.msgs.take k)) k (d.msgs.drop k))) (fun i _=>d.msgs.length - (intOf i).toNat) ⟨0,-1,fs,rfl,by omega,hC,(fun _ h=>by cases h),hr⟩ ?_
 rintro i w' ⟨k,at',fs',rfl,hk,hC',hlow,hrk⟩
 have lw':=hC'.ext.size
 obtain ⟨dn,mv,ds,mn,fv',x1,x2⟩:=hC'.obj
 obtain ⟨n1,n2,l1,l2,l3⟩:=hC'.nd
 rcases drop_cases hk with ⟨x,hx,hd,hlt,hdec⟩ | ⟨hk,hd,hdec⟩
 · obtain ⟨b,o,cs,rfl,hl,hA,fv,rfl,hF⟩:=hel k x hx
   have hf1:=SliceOf.oneCell hF
   rw [hd] at hrk
   simp only [msgsP] at hrk
   unfold n35c5
   simp (disch:=try exact DI) only [↓PR,QR,simprocAttr,hdec]
   unfold n35c4
   simp (disch:=try exact DI) only [↓PR,QR,simprocAttr,(hA.c2 hC'.ext).1,(hA.c2 hC'.ext).2,(cells_of_heap x1).1,(cells_of_heap x1).2]
   have hCw:=(hC'.setAt (k:Int)).go ((Ext.refl _).alloc (Obj.cells (msgCells x fv).toArray 24))
   refine callK_nxt (next_flw (m:=x) hlow hCw _ ⟨fv,rfl,hF⟩ (ht x (List.mem_of_getElem? hx)).1 (ht x (List.mem_of_getElem? hx)).2 (fun w'=>CkO A0 w' cb md ms (stepD (depsOf (d.msgs.take k)) x) (stepS (strsOf (d.msgs.take k)) x) k (-1) x.fields) (fun w' h=>h)) (fun w5 h0 hC5=>?_) (fun w5 e5 h0=>?_)
   · rw [if_pos h0] at hrk
     have hd1:depsOf (d.msgs.take (k+1))=stepD (depsOf (d.msgs.take k)) x:=foldl_take stepD [] hx
     have hs1:strsOf (d.msgs.take (k+1))=stepS (strsOf (d.msgs.take k)) x:=foldl_take stepS [] hx
     rw [← hd1,← hs1] at hrk hC5
     have hlow':Low (depsOf (d.msgs.take (k+1))):=by rw [hd1];exact hlow.step h0
     simp (disch:=try exact DI) only [↓PR,QR,simprocAttr]
     exact ⟨⟨k+1,k,x.fields,rfl,by omega,hC5,hlow',hrk⟩,meas_lt (kd := .i64) hlt⟩
   · rw [if_neg h0] at hrk
     refine pan _ _ _ _ e5 ?_ h0
     rw [hrk]
     unfold endP
     rw [if_neg h0]
 · subst hk
   rw [hd] at hrk
   rw [List.take_length] at hC' hrk
   unfold n35c5
   simp (disch:=try exact DI) only [↓PR,QR,simprocAttr,hdec]
   unfold n35c3
   simp (disch:=try exact DI) only [↓PR,QR,simprocAttr,(cells_of_heap x1).1,(cells_of_heap x1).2]
   have hC2:=hC'.setAt (-1)
   generalize (w'.setCell ⟨cb,5,none⟩ (.int .i64 (-1)))=W at hC2 ⊢
   clear x1 x2 hC'
   obtain ⟨dn,mv,ds,mn,fv',x1,x2⟩:=hC2.obj
   refine drawK_intro ?_
   have eD:Ext W W.drew:=(Ext.refl W).wdrew
   unfold n35c2
   simp (disch:=try exact DI) only [↓PR,QR,simprocAttr,(cells_of_heap x1).1,(cells_of_heap (hC2.ext.obj o1)).1]
   rw [qV_lookupE Tryz.underlying161 Tryz.underlying9 ty3 (hC2.mdeps.ext eD) d.start]
   have hsome:(lastOf (vI (depsOf d.msgs)) d.start).isSome=(lastP (depsOf d.msgs) d.start).isSome:=by rw [lastOf_vI,Option.isSome_map]
   rw [hsome]
   simp only [msgsP,endP,if_true] at hrk
   simp (disch:=try exact DI) only [↓PR,QR,simprocAttr]
   refine callK_flw (need_flw (hC2.go eD).chk _ 11 (by decide)) (fun w5 e5 h0=>?_) (fun w5 e5 h0=>?_)
   · have hs:=needC_zero (by decide) h0
     rw [hs,if_pos rfl] at hrk
     have hC5:=hC2.go (eD.trans e5)
     have y3:=hC5.ext.obj o3
     have y4:=hC5.ext.obj o4
     have ne34:p3≠p4:=by rintro rfl;rw [o3] at o4;cases o4
     unfold n35c1
     simp (disch:=try exact DI) only [↓PR,QR,simprocAttr,(cells_of_heap y3).1,(cells_of_heap y3).2,(cells_of_heap y4).1,(cells_of_heap y4).2]
     have c3:p3≠cb:=by have:=hC5.lcb;have:=(Array.getElem?_eq_some_iff.1 o3).1;omega
     have c4:p4≠cb:=by have:=hC5.lcb;have:=(Array.getElem?_eq_some_iff.1 o4).1;omega
     have q3:=heap_set (o:=2) (heap_set (o:=1) (heap_set (o:=0) y3 (.int .i64 0)) (.int .i64 0)) (.int .i64 0)
     have q4:=heap_set (o:=0) ((Only.setCell ((w5.setCell ⟨p3,0,none⟩ (.int .i64 0)).setCell ⟨p3,1,none⟩ (.int .i64 0)) p3 2 (.int .i64 0) p4 (by omega)).trans ((Only.setCell (w5.setCell ⟨p3,0,none⟩ (.int .i64 0)) p3 1 (.int .i64 0) p4 (by omega)).trans ((Only.setCell w5 p3 0 (.int .i64 0) p4 (by omega)).trans y4))) (.bool false)
     have q3':=(Only.setCell _ p4 0 (.bool false) p3 ne34).trans q3
     exact exm_fine (((((ea.trans hC5.ext).setCell h3 _).setCell h3 _).setCell h3 _).setCell h4 _) ((((hC5.left.other c3 _).other c3 _).other c3 _).other c4 _) (by simpa using q3') (by simpa using q4) hrk
   · have hs:(lastP (depsOf d.msgs) d.start).isSome=false:=by
      cases hq:(lastP (depsOf d.msgs) d.start).isSome with
      | false=>rfl
      | true=>rw [hq] at h0;exact absurd rfl h0
     rw [hs,if_neg (by simp)] at hrk
     rw [hs]
     exact pan _ _ _ _ (hC2.ext.trans (eD.trans e5)) hrk (by decide)
theorem examined_ret (v:Value) (d:DefD) (hd:DefVal w0 v d) (ht:calm d):Ret Pg 93 #[v] w0 (examK w0 d):=by
 obtain ⟨mv,rfl,hM⟩:=hd
 have hm1:=SliceOf.oneCell hM
 refine n35s (R:=retR _) ?_;unfold n35
 simp (disch:=try exact DI) only [↓PR,QR,simprocAttr]
 refine ⟨catchD (w0.heap.size+1) (w0.heap.size+1+1),_,rfl,?_⟩
 simp only [World.size_alloc]
 generalize hA0:((w0.alloc (Obj.cells (defCells d mv).toArray 28)).alloc (Obj.cells #[.int .i64 0,.int .i64 0,.int .i64 0] 90)).alloc (Obj.cells #[.bool false] 4)=A0
 have ea:Ext w0 A0:=by rw [← hA0];exact ee
 have o1:A0.heap[w0.heap.size]?=some (.cells (defCells d mv).toArray 28 (0,0)):=by rw [← hA0];simp (disch:=try exact DI) only [↓PR,QR,simprocAttr]
 have o3:A0.heap[w0.heap.size+1]?=some (.cells #[.int .i64 0,.int .i64 0,.int .i64 0] 90 (0,0)):=by rw [← hA0];simp (disch:=try exact DI) only [↓PR,QR,simprocAttr]
 have o4:A0.heap[w0.heap.size+1+1]?=some (.cells #[.bool false] 4 (0,0)):=by rw [← hA0];simp (disch:=try exact DI) only [↓PR,QR,simprocAttr]
 have hsz:A0.heap.size=w0.heap.size+1+1+1:=by rw [← hA0];simp only [World.size_alloc]
 clear hA0
 have hC:CkO A0 (((A0.alloc (Obj.map #[] 0)).alloc (Obj.map #[] 0)).alloc (Obj.cells #[.string d.name,mv,.string d.start,.map (some (w0.heap.size+1+1+1)),.map (some (w0.heap.size+1+1+1+1)),.int .i64 (-1),.int .i64 (-1),.string ByteArray.empty,.slice none 0 0] 164)) (w0.heap.size+1+1+1+1+1) (w0.heap.size+1+1+1) (w0.heap.size+1+1+1+1) [] [] (-1) (-1) []:=by
  refine ⟨ee,⟨d.name,mv,d.start,ByteArray.empty,.slice none 0 0,?_,SliceOf.nil _ _ _⟩,?_,?_,by omega,by omega,by omega,by omega⟩
  · have:=heap_new ((A0.alloc (Obj.map #[] 0)).alloc (Obj.map #[] 0)) #[.string d.name,mv,.string d.start,.map (some (w0.heap.size+1+1+1)),.map (some (w0.heap.size+1+1+1+1)),.int .i64 (-1),.int .i64 (-1),.string ByteArray.empty,.slice none 0 0] 164
    simp only [World.size_alloc,hsz] at this
    exact this
  · have:=(MapOf.new A0).ext (((Ext.refl _).alloc (Obj.map #[] 0)).alloc (Obj.cells #[.string d.name,mv,.string d.start,.map (some (w0.heap.size+1+1+1)),.map (some (w0.heap.size+1+1+1+1)),.int .i64 (-1),.int .i64 (-1),.string ByteArray.empty,.slice none 0 0] 164))
    simp only [World.size_alloc,hsz] at this
    exact this
  · have:=(MapOf.new (A0.alloc (Obj.map #[] 0))).ext ((Ext.refl _).alloc (Obj.cells #[.string d.name,mv,.string d.start,.map (some (w0.heap.size+1+1+1)),.map (some (w0.heap.size+1+1+1+1)),.int .i64 (-1),.int .i64 (-1),.string ByteArray.empty,.slice none 0 0] 164))
    simp only [World.size_alloc,hsz] at this
    exact this
 generalize (((A0.alloc (Obj.map #[] 0)).alloc (Obj.map #[] 0)).alloc (Obj.cells #[.string d.name,mv,.string d.start,.map (some (w0.heap.size+1+1+1)),.map (some (w0.heap.size+1+1+1+1)),.int .i64 (-1),.int .i64 (-1),.string ByteArray.empty,.slice none 0 0] 164))=W at hC ⊢
 generalize hcb:w0.heap.size+1+1+1+1+1=cb at hC ⊢
 generalize hmd:w0.heap.size+1+1+1=md at hC hsz
 generalize hms:w0.heap.size+1+1+1+1=ms at hC
 generalize hp3:w0.heap.size+1+1=p4 at o4 ⊢
 generalize hp4:w0.heap.size+1=p3 at o3 ⊢
 have l3:w0.heap.size≤p3:=by omega
 have l4:w0.heap.size≤p4:=by omega
 simp (disch:=try exact DI) only [↓PR,QR,simprocAttr,(cells_of_heap (hC.ext.obj o1)).1]
 refine zcr (Name_ret _ d.name) fun w1 e1=>?_
 have hC1:=hC.go e1
 have pan:∀ w' a f c,Ext A0 w'→checkP d=(a,f,c)→c≠0→outQ Pg [catchD p3 p4] (resL cb p3 p4) (retR (examK w0 d)) [flawEntry a f c] w':=fun w' a f c e h h0=>exm_pan (ea.trans e) l3 l4 (e.obj o3) (e.obj o4) h h0
 generalize hr:checkP d=r
 have hr':=hr
 unfold checkP at hr
 refine callK_flw (need_flw hC1.chk _ 1 (by decide)) (fun w2 e2 h0=>?_) (fun w2 e2 h0=>?_)
 · have hn:nameB d.name=true:=needC_zero (by decide) h0
   rw [if_pos hn] at hr
   have hC2:=hC1.go e2
   have fin:∀ b,b=decide (1≤d.msgs.length∧d.msgs.length≤60)→callK Pg 122 #[.pointer (some ⟨cb,0,none⟩),.bool b,.int .i64 3] (outQ Pg [catchD p3 p4] (resL cb p3 p4) (retR (examK w0 d))) w2 (fun _ w=>n35c6 (.pointer (some ⟨w0.heap.size,0,none⟩)) (.pointer (some ⟨p3,0,none⟩)) (.pointer (some ⟨p4,0,none⟩)) (.pointer (some ⟨cb,0,none⟩)) [catchD p3 p4] (retR (examK w0 d)) w):=by
    rintro b rfl
    refine callK_flw (need_flw hC2.chk _ 3 (by decide)) (fun w3 e3 h0=>?_) (fun w3 e3 h0=>?_)
    · have hl:=needC_zero (by decide) h0
      simp only [decide_eq_true_eq] at hl
      rw [if_pos hl] at hr
      exact exm_loop ea (hM.ext ea) ht (hC2.go e3) o1 o3 o4 l3 l4 (hr'.trans hr.symm)
    · by_cases hl:1≤d.msgs.length∧d.msgs.length≤60
      · rw [decide_eq_true hl] at h0;exact absurd rfl h0
      · rw [if_neg hl] at hr
        rw [decide_eq_false hl]
        exact pan _ _ _ _ (hC2.ext.trans e3) (hr'.trans hr.symm) (by decide)
   obtain ⟨A,c,rfl,hlc,hcm,hlm,hel⟩:=SliceOf.open hM
   have x1:=hC2.ext.obj o1
   unfold n35c9
   by_cases h1l:1≤d.msgs.length
   · have d1:decide ((d.msgs.length:Int)≥1)=true:=by simp;omega
     by_cases h2l:d.msgs.length≤60
     · have d2:decide ((d.msgs.length:Int)≤60)=true:=by simp;omega
       simp (disch:=try exact DI) only [↓PR,QR,simprocAttr,(cells_of_heap x1).1,d1,d2,↓n35c1,↓n35c2,↓n35c3,↓n35c4,↓n35c5,↓n35c6,↓n35c7,↓n35c8,↓n35c9]
       exact fin _ (by simp [h1l,h2l])
     · have d2:decide ((d.msgs.length:Int)≤60)=false:=by simp;omega
       simp (disch:=try exact DI) only [↓PR,QR,simprocAttr,(cells_of_heap x1).1,d1,d2,↓n35c1,↓n35c2,↓n35c3,↓n35c4,↓n35c5,↓n35c6,↓n35c7,↓n35c8,↓n35c9]
       exact fin _ (by simp [h2l])
   · have d1:decide ((d.msgs.length:Int)≥1)=false:=by simp;omega
     simp (disch:=try exact DI) only [↓PR,QR,simprocAttr,(cells_of_heap x1).1,d1,↓n35c1,↓n35c2,↓n35c3,↓n35c4,↓n35c5,↓n35c6,↓n35c7,↓n35c8,↓n35c9]
     exact fin _ (by simp [h1l])
 · have hn:nameB d.name=false:=by
    cases hq:nameB d.name with
    | false=>rfl
    | true=>rw [hq] at h0;exact absurd rfl h0
   rw [hn,if_neg (by simp)] at hr
   rw [hn]
   exact pan _ _ _ _ (hC1.ext.trans e2) (hr'.trans hr.symm) (by decide)
end
section
variable {w0:World}
abbrev flawOf (r:Int×Int×Int):Value:=flawVal r.1 r.2.1 r.2.2
abbrev flawedB (d:DefD):Bool:=decide ((checkP d).2.2≠0)
theorem Check_ret (v:Value) (d:DefD) (hd:DefVal w0 v d) (ht:calm d):Ret Pg 62 #[v] w0 fun r w'=>r = .tuple #[flawOf (checkP d),.bool (flawedB d)]∧Ext w0 w':=by
 obtain ⟨mv,rfl,hM⟩:=hd
 have hm1:=SliceOf.oneCell hM
 refine n11s (R:=retR _) ?_;unfold n11
 simp (disch:=try exact DI) only [↓PR,QR,simprocAttr]
 refine callK_ret (examined_ret _ d ⟨mv,rfl,MsgsOf.ext hM ee⟩ ht) ?_
 rintro _ w1 ⟨e1,cb,rfl,_⟩
 have s1:=e1.size
 simp only [World.size_alloc] at s1
 have o2:=e1.obj (heap_new (w0.alloc (Obj.cells (defCells d mv).toArray 28)) #[.int .i64 0,.int .i64 0,.int .i64 0] 90)
 rw [World.size_alloc] at o2
 simp (disch:=try exact DI) only [↓PR,QR,simprocAttr,↓n11c1,(cells_of_heap o2).1,(cells_of_heap o2).2]
 exact ⟨by first | trivial | rfl,ee⟩
theorem Valid_ret' (v:Value) (d:DefD) (hd:DefVal w0 v d) (ht:calm d):Ret Pg 29 #[v] w0 fun r w'=>r = .bool (!flawedB d)∧Ext w0 w':=by
 obtain ⟨mv,rfl,hM⟩:=hd
 have hm1:=SliceOf.oneCell hM
 refine n24s (R:=retR _) ?_;unfold n24
 simp (disch:=try exact DI) only [↓PR,QR,simprocAttr]
 refine zcr (Check_ret _ d ⟨mv,rfl,MsgsOf.ext hM ee⟩ ht) fun w1 e1=>?_
 simp (disch:=try exact DI) only [↓PR,QR,simprocAttr,↓n24c1]
 exact ⟨by first | trivial | rfl,ee⟩
end
def Sub {β:Type} (a b:List (ByteArray×β)):Prop:=∀ s v,lastP a s=some v→lastP b s=some v
section
variable {β:Type}
theorem Sub.refl (a:List (ByteArray×β)):Sub a a:=fun _ _ h=>h
theorem Sub.trans {a b c:List (ByteArray×β)} (h:Sub a b) (k:Sub b c):Sub a c:=fun s v x=>k s v (h s v x)
theorem Sub.snoc {a:List (ByteArray×β)} {p:ByteArray×β} (h:lastP a p.1=none):Sub a (a++[p]):=fun s v x=>by
 rw [lastP_snoc]
 by_cases e:p.1=s
 · subst e;rw [h] at x;cases x
 · rw [if_neg e];exact x
theorem Sub.is {a b:List (ByteArray×β)} (h:Sub a b) {s:ByteArray} (k:(lastP a s).isSome=true):(lastP b s).isSome=true:=by
 obtain ⟨v,hv⟩:=Option.isSome_iff_exists.1 k
 rw [h s v hv];rfl
theorem Sub.eq {a b:List (ByteArray×β)} (h:Sub a b) {s:ByteArray} (k:(lastP a s).isSome=true):lastP b s=lastP a s:=by
 obtain ⟨v,hv⟩:=Option.isSome_iff_exists.1 k
 rw [h s v hv,hv]
theorem lastP_none {l:List (ByteArray×β)} {s:ByteArray}:lastP l s=none↔∀ p∈l,p.1≠s:=by
 unfold lastP
 rw [Option.map_eq_none_iff,List.find?_eq_none]
 simp
end
theorem isI (deps:List (ByteArray×Int)) (s:ByteArray):(lastOf (vI deps) s).isSome=(lastP deps s).isSome:=by rw [lastOf_vI];simp
theorem orC_iff {a b:Int}:orC a b=0↔a=0∧b=0:=by
 unfold orC
 split
 · rename_i h;simp [h]
 · rename_i h;simp [h]
theorem needC_iff {b:Bool} {c:Int} (hc:c≠0):needC b c=0↔b=true:=by
 unfold needC
 cases b<;>simp [hc]
theorem mem_dedupA {s:ByteArray}:∀ {l seen:List ByteArray},s∈dedupA seen l→s∈l
 | [],_,h=>by cases h
 | x::l,seen,h=>by
  unfold dedupA at h
  split at h
  · exact List.mem_cons_of_mem _ (mem_dedupA h)
  · rcases List.mem_cons.1 h with rfl | h
    · exact List.mem_cons_self
    · exact List.mem_cons_of_mem _ (mem_dedupA h)
section
variable {deps deps':List (ByteArray×Int)} {strs strs':List (ByteArray×Bool)}
theorem casesL_mono (hd:Sub deps deps') (hi:Int):∀ (l:List CaseD) (lo:Int),casesL hi (vI deps) lo l=0→casesL hi (vI deps') lo l=0∧∀ c∈l,(lastP deps c.of).isSome=true
 | [],_,_=>⟨rfl,fun _ h=>by cases h⟩
 | x::l,lo,h=>by
  simp only [casesL,orC_iff,needC_iff (show (8:Int)≠0 by decide),isI] at h ⊢
  obtain ⟨h1,h2,h3⟩:=h
  obtain ⟨i1,i2⟩:=casesL_mono hd hi l _ h3
  refine ⟨⟨h1,hd.is h2,i1⟩,fun c hc=>?_⟩
  rcases List.mem_cons.1 hc with rfl | hc
  · exact h2
  · exact i2 c hc
theorem strB_some {s:ByteArray} (h:strB (vB strs) s=true):lastP strs s=some true:=by
 rw [strB_vB] at h
 cases hl:lastP strs s with
 | none=>rw [hl] at h;cases h
 | some b=>rw [hl] at h;simp at h;rw [h]
theorem examine_mono (hd:Sub deps deps') (hs:Sub strs strs') {bef:List FieldD} {f:FieldD} (h:examineC bef (vI deps) (vB strs) f=0):examineC bef (vI deps') (vB strs') f=0:=by
 unfold examineC at h ⊢
 simp only [orC_iff] at h ⊢
 refine ⟨h.1,h.2.1,h.2.2.1,h.2.2.2.1,?_⟩
 obtain ⟨_,_,_,_,h⟩:=h
 unfold checkC at h ⊢
 by_cases k1:f.kind=1
 · rw [if_pos k1] at h ⊢;exact h
 rw [if_neg k1] at h ⊢
 by_cases k2:f.kind=2
 · rw [if_pos k2] at h ⊢;exact h
 rw [if_neg k2] at h ⊢
 by_cases k3:f.kind=3
 · rw [if_pos k3] at h ⊢;exact h
 rw [if_neg k3] at h ⊢
 by_cases k4:f.kind=4
 · rw [if_pos k4] at h ⊢;exact h
 rw [if_neg k4] at h ⊢
 by_cases k5:f.kind=5
 · rw [if_pos k5] at h ⊢;exact h
 rw [if_neg k5] at h ⊢
 by_cases k6:f.kind=6
 · rw [if_pos k6] at h ⊢;exact h
 rw [if_neg k6] at h ⊢
 by_cases k7:f.kind=7
 · rw [if_pos k7] at h ⊢
   simp only [orC_iff,needC_iff (show (8:Int)≠0 by decide),isI] at h ⊢
   exact ⟨hd.is h.1,h.2⟩
 rw [if_neg k7] at h ⊢
 by_cases k8:f.kind=8
 · rw [if_pos k8] at h ⊢
   simp only [needC_iff (show (8:Int)≠0 by decide),isI] at h ⊢
   exact hd.is h
 rw [if_neg k8] at h ⊢
 by_cases k9:f.kind=9
 · rw [if_pos k9] at h ⊢
   unfold casesC at h ⊢
   simp only [orC_iff] at h ⊢
   exact ⟨h.1,h.2.1,(casesL_mono hd _ _ _ h.2.2).1⟩
 rw [if_neg k9] at h ⊢
 by_cases k10:f.kind=10
 · rw [if_pos k10] at h ⊢;exact h
 rw [if_neg k10] at h ⊢
 by_cases k11:f.kind=11
 · rw [if_pos k11] at h ⊢;exact h
 rw [if_neg k11] at h ⊢
 by_cases k12:f.kind=12
 · rw [if_pos k12] at h ⊢
   simp only [orC_iff,needC_iff (show (8:Int)≠0 by decide)] at h ⊢
   refine ⟨h.1,?_,h.2.2⟩
   rw [strB_vB,hs _ _ (strB_some h.2.1)];rfl
 rw [if_neg k12]
theorem examine_refs (hds:∀ s,(lastP strs s).isSome=true→(lastP deps s).isSome=true) {bef:List FieldD} {f:FieldD} (h:examineC bef (vI deps) (vB strs) f=0):∀ s∈refsF f,(lastP deps s).isSome=true:=by
 intro s hs
 unfold examineC at h
 simp only [orC_iff] at h
 obtain ⟨_,_,_,_,h⟩:=h
 unfold checkC at h
 unfold refsF at hs
 split at hs
 · rename_i hk
   simp only [List.mem_singleton] at hs
   subst hs
   rcases hk with hk | hk | hk
   · rw [if_neg (by omega),if_neg (by omega),if_neg (by omega),if_neg (by omega),if_neg (by omega),if_neg (by omega),if_pos hk] at h
     simp only [orC_iff,needC_iff (show (8:Int)≠0 by decide),isI] at h
     exact h.1
   · rw [if_neg (by omega),if_neg (by omega),if_neg (by omega),if_neg (by omega),if_neg (by omega),if_neg (by omega),if_neg (by omega),if_pos hk] at h
     simp only [needC_iff (show (8:Int)≠0 by decide),isI] at h
     exact h
   · rw [if_neg (by omega),if_neg (by omega),if_neg (by omega),if_neg (by omega),if_neg (by omega),if_neg (by omega),if_neg (by omega),if_neg (by omega),if_neg (by omega),if_neg (by omega),if_neg (by omega),if_pos hk] at h
     simp only [orC_iff,needC_iff (show (8:Int)≠0 by decide)] at h
     exact hds _ (by rw [strB_some h.2.1];rfl)
 · split at hs
   · rename_i hk
     obtain ⟨c,hc,rfl⟩:=List.mem_map.1 hs
     rw [if_neg (by omega),if_neg (by omega),if_neg (by omega),if_neg (by omega),if_neg (by omega),if_neg (by omega),if_neg (by omega),if_neg (by omega),if_pos hk] at h
     unfold casesC at h
     simp only [orC_iff] at h
     exact (casesL_mono (Sub.refl deps) _ _ _ h.2.2).2 c hc
   · cases hs
theorem fields_mono (hd:Sub deps deps') (hs:Sub strs strs') (hds:∀ s,(lastP strs s).isSome=true→(lastP deps s).isSome=true):∀ (l bef:List FieldD),(fieldsP deps strs bef l).2=0→fieldsP deps' strs' bef l=(-1,0)∧∀ s∈allRefs l,(lastP deps s).isSome=true
 | [],bef,h=>⟨rfl,fun s hs=>by cases hs⟩
 | f::l,bef,h=>by
  unfold fieldsP at h ⊢
  by_cases h0:examineC bef (vI deps) (vB strs) f=0
  · rw [if_pos h0] at h
    rw [if_pos (examine_mono hd hs h0)]
    obtain ⟨i1,i2⟩:=fields_mono hd hs hds l _ h
    refine ⟨i1,fun s hs=>?_⟩
    rcases List.mem_append.1 (show s∈refsF f++allRefs l from hs) with hs | hs
    · exact examine_refs hds h0 s hs
    · exact i2 s hs
  · rw [if_neg h0] at h;exact absurd h h0
theorem depth_mono (hd:Sub deps deps') {m:MsgD} (h:∀ s∈allRefs m.fields,(lastP deps s).isSome=true):depthM deps' m=depthM deps m:=by
 unfold depthM
 have:∀ (l:List ByteArray),(∀ s∈l,(lastP deps s).isSome=true)→∀ d,l.foldl (fun d s=>maxI d ((lastP deps' s).getD 0)) d=l.foldl (fun d s=>maxI d ((lastP deps s).getD 0)) d:=by
  intro l
  induction l with
  | nil=>intro _ d;rfl
  | cons x l ih =>
   intro hl d
   simp only [List.foldl_cons]
   rw [hd.eq (hl x List.mem_cons_self)]
   exact ih (fun s hs=>hl s (List.mem_cons_of_mem _ hs)) _
 exact this _ (fun s hs=>h s (mem_dedupA hs)) 0
theorem next_parts {m:MsgD} (h:(nextP deps strs m).2=0):nameB m.name=true∧lastP deps m.name=none∧(1≤m.fields.length∧m.fields.length≤40)∧(fieldsP deps strs [] m.fields).2=0∧depthM deps m < 16:=by
 have hl:=nextP_low h
 unfold nextP at h
 by_cases h1:nameB m.name=true
 · rw [if_pos h1] at h
   by_cases h2:(lastP deps m.name).isSome=true
   · rw [if_pos h2] at h;exact absurd h (by decide)
   · rw [if_neg h2] at h
     by_cases h3:1≤m.fields.length∧m.fields.length≤40
     · rw [if_pos h3] at h
       refine ⟨h1,by simpa using h2,h3,?_,hl⟩
       unfold tailP at h
       split at h
       · assumption
       · contradiction
     · rw [if_neg h3] at h;exact absurd h (by decide)
 · rw [if_neg h1] at h;exact absurd h (by decide)
end
section
variable {deps:List (ByteArray×Int)} {strs:List (ByteArray×Bool)}
theorem msgs_cons0 {m:MsgD} {l:List MsgD} {i:Nat} (h:(nextP deps strs m).2=0):msgsP deps strs i (m::l)=msgsP (stepD deps m) (stepS strs m) (i+1) l:=if_pos h
theorem msgs_cons1 {m:MsgD} {l:List MsgD} {i:Nat} (h:¬ (nextP deps strs m).2=0):msgsP deps strs i (m::l)=((i:Int),nextP deps strs m):=if_neg h
theorem msgs_append (r:List MsgD):∀ (l:List MsgD) (deps:List (ByteArray×Int)) (strs:List (ByteArray×Bool)) (i:Nat),((msgsP deps strs i l).2.2=0→msgsP deps strs i (l++r)=msgsP (l.foldl stepD deps) (l.foldl stepS strs) (i+l.length) r)∧((msgsP deps strs i l).2.2≠0→msgsP deps strs i (l++r)=msgsP deps strs i l)
 | [],deps,strs,i=>⟨fun _=>rfl,fun h=>absurd rfl h⟩
 | m::l,deps,strs,i=>by
  have ih:=msgs_append r l (stepD deps m) (stepS strs m) (i+1)
  by_cases h:(nextP deps strs m).2=0
  · rw [msgs_cons0 h,List.cons_append,msgs_cons0 h]
    simp only [List.foldl_cons,List.length_cons]
    rw [show i+(l.length+1)=i+1+l.length by omega]
    exact ih
  · rw [msgs_cons1 h,List.cons_append,msgs_cons1 h]
    exact ⟨fun k=>absurd k h,fun _=>rfl⟩
theorem msgs_at {l:List MsgD} {deps:List (ByteArray×Int)} {strs:List (ByteArray×Bool)} {i:Nat} (h:(msgsP deps strs i l).2.2=0) {k:Nat} {m:MsgD} (hk:l[k]?=some m):(nextP ((l.take k).foldl stepD deps) ((l.take k).foldl stepS strs) m).2=0∧(msgsP deps strs i (l.take k)).2.2=0:=by
 have hl:l=l.take k++m::l.drop (k+1):=by
  have:=(List.take_append_drop k l).symm
  rw [List.drop_eq_getElem_cons (List.getElem?_eq_some_iff.1 hk).1] at this
  rw [(List.getElem?_eq_some_iff.1 hk).2] at this
  exact this
 rw [hl] at h
 by_cases h0:(msgsP deps strs i (l.take k)).2.2=0
 · rw [(msgs_append _ _ _ _ _).1 h0] at h
   refine ⟨?_,h0⟩
   by_cases h1:(nextP ((l.take k).foldl stepD deps) ((l.take k).foldl stepS strs) m).2=0
   · exact h1
   · rw [msgs_cons1 h1] at h;exact absurd h h1
 · rw [(msgs_append _ _ _ _ _).2 h0] at h;exact absurd h h0
theorem deps_snoc (l:List MsgD) (m:MsgD):depsOf (l++[m])=depsOf l++[(m.name,depthM (depsOf l) m+1)]:=by unfold depsOf;rw [List.foldl_append];rfl
theorem strs_snoc (l:List MsgD) (m:MsgD):strsOf (l++[m])=strsOf l++[(m.name,strictM (strsOf l) m)]:=by unfold strsOf;rw [List.foldl_append];rfl
theorem fold_names:∀ (l:List MsgD) (a:List (ByteArray×Int)) (b:List (ByteArray×Bool)),(l.foldl stepD a).map (·.1)=a.map (·.1)++l.map (·.name)∧(l.foldl stepS b).map (·.1)=b.map (·.1)++l.map (·.name)
 | [],a,b=>by simp
 | m::l,a,b=>by
  have ih:=fold_names l (stepD a m) (stepS b m)
  simp only [List.foldl_cons,List.map_cons]
  rw [ih.1,ih.2]
  simp [stepD,stepS]
theorem isD {l:List MsgD} {s:ByteArray}:(lastP (depsOf l) s).isSome=true↔∃ m∈l,m.name=s:=by
 have h1:=(fold_names l [] []).1
 rw [← Option.ne_none_iff_isSome,ne_eq,lastP_none]
 constructor
 · intro h
   apply Classical.byContradiction
   intro hn
   apply h
   intro p hp he
   have:p.1∈(depsOf l).map (·.1):=List.mem_map.2 ⟨p,hp,rfl⟩
   rw [show depsOf l=l.foldl stepD [] from rfl,h1] at this
   obtain ⟨m,hm,hme⟩:=List.mem_map.1 (show p.1∈l.map (·.name) by simpa using this)
   exact hn ⟨m,hm,hme.trans he⟩
 · rintro ⟨m,hm,rfl⟩ h
   have:m.name∈(depsOf l).map (·.1):=by rw [show depsOf l=l.foldl stepD [] from rfl,h1];simpa using ⟨m,hm,rfl⟩
   obtain ⟨p,hp,hpe⟩:=List.mem_map.1 this
   exact h p hp hpe
theorem isS {l:List MsgD} {s:ByteArray}:(lastP (strsOf l) s).isSome=true↔∃ m∈l,m.name=s:=by
 have h1:=(fold_names l [] []).2
 rw [← Option.ne_none_iff_isSome,ne_eq,lastP_none]
 constructor
 · intro h
   apply Classical.byContradiction
   intro hn
   apply h
   intro p hp he
   have:p.1∈(strsOf l).map (·.1):=List.mem_map.2 ⟨p,hp,rfl⟩
   rw [show strsOf l=l.foldl stepS [] from rfl,h1] at this
   obtain ⟨m,hm,hme⟩:=List.mem_map.1 (show p.1∈l.map (·.name) by simpa using this)
   exact hn ⟨m,hm,hme.trans he⟩
 · rintro ⟨m,hm,rfl⟩ h
   have:m.name∈(strsOf l).map (·.1):=by rw [show strsOf l=l.foldl stepS [] from rfl,h1];simpa using ⟨m,hm,rfl⟩
   obtain ⟨p,hp,hpe⟩:=List.mem_map.1 this
   exact h p hp hpe
def Fine (l:List MsgD):Prop:=(msgsP [] [] 0 l).2.2=0
theorem Fine.next {l:List MsgD} (h:Fine l) {k:Nat} {m:MsgD} (hk:l[k]?=some m):(nextP (depsOf (l.take k)) (strsOf (l.take k)) m).2=0:=(msgs_at h hk).1
theorem Fine.sub {l:List MsgD} (h:Fine l):∀ (n k:Nat),Sub (depsOf (l.take k)) (depsOf (l.take (k+n)))∧Sub (strsOf (l.take k)) (strsOf (l.take (k+n)))
 | 0,k=>⟨Sub.refl _,Sub.refl _⟩
 | n+1,k=>by
  have ih:=h.sub n k
  rw [← Nat.add_assoc]
  by_cases hk:k+n < l.length
  · obtain ⟨m,hm⟩:=getElem?_lt hk
    have h2:=(next_parts (h.next hm)).2.1
    rw [take_snoc hm,deps_snoc,strs_snoc]
    refine ⟨ih.1.trans (Sub.snoc h2),ih.2.trans (Sub.snoc ?_)⟩
    show lastP (strsOf (l.take (k+n))) m.name=none
    rw [← Option.not_isSome_iff_eq_none,isS,← isD,Option.not_isSome_iff_eq_none]
    exact h2
  · rw [List.take_of_length_le (show l.length≤k+n+1 by omega)]
    rw [List.take_of_length_le (show l.length≤k+n by omega)] at ih
    exact ih
theorem Fine.suball {l:List MsgD} (h:Fine l) (k:Nat):Sub (depsOf (l.take k)) (depsOf l)∧Sub (strsOf (l.take k)) (strsOf l):=by
 have:=h.sub l.length k
 rw [List.take_of_length_le (show l.length≤k+l.length by omega)] at this
 exact this
theorem Fine.depth {l:List MsgD} (h:Fine l) {k:Nat} {m:MsgD} (hk:l[k]?=some m):lastP (depsOf l) m.name=some (depthM (depsOf (l.take k)) m+1):=by
 refine (h.suball (k+1)).1 _ _ ?_
 rw [take_snoc hk,deps_snoc,lastP_snoc,if_pos rfl]
theorem le_foldl (g:ByteArray→Int):∀ (l:List ByteArray) (d:Int),d≤l.foldl (fun d s=>maxI d (g s)) d∧∀ s∈l,g s≤l.foldl (fun d s=>maxI d (g s)) d
 | [],d=>⟨by simp,fun _ h=>by cases h⟩
 | x::l,d=>by
  have ih:=le_foldl g l (maxI d (g x))
  simp only [List.foldl_cons]
  have h1:d≤maxI d (g x):=le_maxI _ _
  have h2:g x≤maxI d (g x):=by unfold maxI;split<;>omega
  refine ⟨by omega,fun s hs=>?_⟩
  rcases List.mem_cons.1 hs with rfl | hs
  · omega
  · exact ih.2 s hs
theorem mem_refsM {m:MsgD} {s:ByteArray} (h:s∈refsM m):s∈allRefs m.fields:=mem_dedupA h
theorem ds_of (l:List MsgD) (s:ByteArray) (h:(lastP (strsOf l) s).isSome=true):(lastP (depsOf l) s).isSome=true:=isD.2 (isS.1 h)
theorem Fine.refs {l:List MsgD} (h:Fine l) {k:Nat} {m:MsgD} (hk:l[k]?=some m) {s:ByteArray} (hs:s∈refsM m) :
 ∃ i m',i < k∧l[i]?=some m'∧m'.name=s∧(∀ j m'',j < i→l[j]?=some m''→m''.name≠s)∧∃ v,lastP (depsOf l) s=some v∧v≤depthM (depsOf (l.take k)) m:=by
 obtain ⟨_,_,_,h4,_⟩:=next_parts (h.next hk)
 have h5:=(fields_mono (Sub.refl _) (Sub.refl _) (ds_of _) _ _ h4).2 s (mem_refsM hs)
 obtain ⟨m',hm',hn⟩:=isD.1 h5
 obtain ⟨i,hi⟩:=List.getElem?_of_mem hm'
 have hik:i < k∧l[i]?=some m':=by
  rw [List.getElem?_take] at hi
  split at hi
  · exact ⟨by assumption,hi⟩
  · cases hi
 obtain ⟨v,hv⟩:=Option.isSome_iff_exists.1 h5
 refine ⟨i,m',hik.1,hik.2,hn,fun j m'' hj hj2 hne=>?_,v,(h.suball k).1 _ _ hv,?_⟩
 · have h6:=(next_parts (h.next hik.2)).2.1
   rw [← Option.not_isSome_iff_eq_none,isD] at h6
   exact h6 ⟨m'',List.mem_of_getElem? (i:=j) (by rw [List.getElem?_take,if_pos hj];exact hj2),hne.trans hn.symm⟩
 · have:=(le_foldl (fun s=>(lastP (depsOf (l.take k)) s).getD 0) (refsM m) 0).2 s hs
   rw [hv] at this
   exact this
end
section
variable {d:DefD}
theorem check_fine (h:(checkP d).2.2=0):nameB d.name=true∧(1≤d.msgs.length∧d.msgs.length≤60)∧Fine d.msgs∧(lastP (depsOf d.msgs) d.start).isSome=true:=by
 unfold checkP at h
 by_cases h1:nameB d.name=true
 · rw [if_pos h1] at h
   by_cases h2:1≤d.msgs.length∧d.msgs.length≤60
   · rw [if_pos h2] at h
     unfold endP at h
     by_cases h3:(msgsP [] [] 0 d.msgs).2.2=0
     · rw [if_pos h3] at h
       by_cases h4:(lastP (depsOf d.msgs) d.start).isSome=true
       · exact ⟨h1,h2,h3,h4⟩
       · rw [if_neg h4] at h;exact absurd h (by decide)
     · rw [if_neg h3] at h;exact absurd h h3
   · rw [if_neg h2] at h;exact absurd h (by decide)
 · rw [if_neg h1] at h;exact absurd h (by decide)
theorem fine_check (h1:nameB d.name=true) (h2:1≤d.msgs.length∧d.msgs.length≤60) (h3:Fine d.msgs) (h4:(lastP (depsOf d.msgs) d.start).isSome=true):(checkP d).2.2=0:=by
 unfold checkP
 rw [if_pos h1,if_pos h2]
 unfold endP
 rw [if_pos (show (msgsP [] [] 0 d.msgs).2.2=0 from h3),if_pos h4]
end
theorem rise_ext:∀ {a b:List Int},a.Pairwise (· < ·)→b.Pairwise (· < ·)→(∀ x,x∈a↔x∈b)→a=b
 | [],[],_,_,_=>rfl
 | [],y::b,_,_,h=>by have:=(h y).2 (List.mem_cons_self ..);cases this
 | x::a,[],_,_,h=>by have:=(h x).1 (List.mem_cons_self ..);cases this
 | x::a,y::b,ha,hb,h=>by
  obtain ⟨ha1,ha2⟩:=List.pairwise_cons.1 ha
  obtain ⟨hb1,hb2⟩:=List.pairwise_cons.1 hb
  have hxy:x=y:=by
   rcases List.mem_cons.1 ((h x).1 (List.mem_cons_self ..)) with e | e
   · exact e
   · rcases List.mem_cons.1 ((h y).2 (List.mem_cons_self ..)) with e' | e'
     · exact e'.symm
     · have:=hb1 x e
       have:=ha1 y e'
       omega
  subst hxy
  rw [rise_ext ha2 hb2 fun z=>?_]
  have hz:=h z
  simp only [List.mem_cons] at hz
  constructor
  · intro hm
    have:=ha1 z hm
    rcases hz.1 (.inr hm) with e | e
    · omega
    · exact e
  · intro hm
    have:=hb1 z hm
    rcases hz.2 (.inr hm) with e | e
    · omega
    · exact e
open Go.Lib in
theorem compact_rise {d:Array Int} (hs:∀ i,i+1 < d.size→d[i]! ≤ d[i+1]!):∀ m,m≤d.size→(compactUpTo d m).Pairwise (· < ·)∧(∀ x,x∈compactUpTo d m↔∃ j,j < m∧d[j]! = x)∧∀ x∈compactUpTo d m,x≤d[m - 1]!
 | 0,_=>by simp [compactUpTo]
 | m+1,hm=>by
  obtain ⟨h1,h2,h3⟩:=compact_rise hs m (by omega)
  have hstep:∀ x∈compactUpTo d m,x≤d[m]! := fun x hx=>by
   have h4:=h3 x hx
   cases m with
   | zero=>simp [compactUpTo] at hx
   | succ m=>have:=hs m (by omega);rw [show m+1 - 1=m by omega] at h4;omega
  rw [compactUpTo_succ]
  by_cases hk:keeps d m=true
  · rw [if_pos hk]
    have hlt:∀ x∈compactUpTo d m,x < d[m]! := fun x hx=>by
     have h4:=h3 x hx
     cases m with
     | zero=>simp [compactUpTo] at hx
     | succ m =>
      have:=hs m (by omega)
      unfold keeps at hk
      simp only [decide_eq_true_eq] at hk
      rw [show m+1 - 1=m by omega] at h4 hk
      omega
    refine ⟨List.pairwise_append.2 ⟨h1,List.pairwise_singleton _ _,fun x hx y hy=>?_⟩,fun x=>?_,fun x hx=>?_⟩
    · simp only [List.mem_singleton] at hy;subst hy;exact hlt x hx
    · simp only [List.mem_append,List.mem_singleton,h2]
      constructor
      · rintro (⟨j,hj,e⟩ | e)
        · exact ⟨j,by omega,e⟩
        · exact ⟨m,by omega,e.symm⟩
      · rintro ⟨j,hj,e⟩
        by_cases hjm:j=m
        · subst hjm;exact .inr e.symm
        · exact .inl ⟨j,by omega,e⟩
    · simp only [List.mem_append,List.mem_singleton] at hx
      rw [show m+1 - 1=m by omega]
      rcases hx with hx | hx
      · exact hstep x hx
      · omega
  · rw [if_neg hk,List.append_nil]
    have hm0:0 < m∧d[m]! = d[m - 1]! := by
     unfold keeps at hk
     simp only [decide_eq_true_eq,not_or,Classical.not_not] at hk
     exact ⟨by omega,hk.2⟩
    refine ⟨h1,fun x=>?_,fun x hx=>by rw [show m+1 - 1=m by omega];exact hstep x hx⟩
    rw [h2]
    constructor
    · rintro ⟨j,hj,e⟩
      exact ⟨j,by omega,e⟩
    · rintro ⟨j,hj,e⟩
      by_cases hjm:j=m
      · subst hjm;exact ⟨j - 1,by omega,by rw [← hm0.2];exact e⟩
      · exact ⟨j,by omega,e⟩
theorem sorted_get {l:List Int} (h:l.Pairwise (· ≤ ·)):∀ i,i+1 < l.toArray.size→l.toArray[i]! ≤ l.toArray[i+1]! := by
 intro i hi
 have hi':i+1 < l.length:=by simpa using hi
 rw [getElem!_pos _ i (by simp;omega),getElem!_pos _ (i+1) (by simpa using hi')]
 simp only [List.getElem_toArray]
 exact List.pairwise_iff_getElem.1 h i (i+1) (by omega) hi' (by omega)
theorem merge_sorted (l:List Int):(l.mergeSort fun x y=>decide (x≤y)).Pairwise (· ≤ ·):=by
 have:=List.pairwise_mergeSort (le:=fun x y:Int=>decide (x≤y)) (fun a b c h1 h2=>by simp only [decide_eq_true_eq] at *;omega) (fun a b=>by simp only [Bool.or_eq_true,decide_eq_true_eq];omega) l
 exact this.imp fun h=>by simpa using h
theorem mem_merge {l:List Int} {x:Int}:x∈l.mergeSort (fun x y=>decide (x≤y))↔x∈l:=(List.mergeSort_perm l _).mem_iff
theorem sort_compact (l:List Int):(Go.Lib.compact (l.mergeSort fun x y=>decide (x≤y))).Pairwise (· < ·)∧∀ x,x∈Go.Lib.compact (l.mergeSort fun x y=>decide (x≤y))↔x∈l:=by
 obtain ⟨h1,h2,_⟩:=compact_rise (sorted_get (merge_sorted l)) (l.mergeSort fun x y=>decide (x≤y)).length (by simp)
 refine ⟨h1,fun x=>?_⟩
 unfold Go.Lib.compact
 rw [h2,← mem_merge (l:=l)]
 constructor
 · rintro ⟨j,hj,e⟩
   rw [getElem!_pos _ j (by simpa using hj)] at e
   rw [← e]
   simp only [List.getElem_toArray]
   exact List.getElem_mem hj
 · intro hx
   obtain ⟨j,hj,e⟩:=List.getElem_of_mem hx
   exact ⟨j,hj,by rw [getElem!_pos _ j (by simpa using hj)];simpa using e⟩
theorem sort_rise {l:List Int} (h:l.Nodup):(l.mergeSort fun x y=>decide (x≤y)).Pairwise (· < ·):=by
 have h1:=merge_sorted l
 have h2:(l.mergeSort fun x y=>decide (x≤y)).Nodup:=(List.mergeSort_perm l _).nodup_iff.2 h
 exact (h1.and h2).imp fun ⟨a,b⟩=>by omega
def selP (n:Nat) (p:Nat→Bool):List Int:=((List.range n).filter p).map fun i:Nat=>(i:Int)
theorem sel_rise (n:Nat) (p:Nat→Bool):(selP n p).Pairwise (· < ·):=by
 unfold selP
 rw [List.pairwise_map]
 exact (List.Pairwise.filter p List.pairwise_lt_range).imp fun h=>by omega
theorem mem_sel {n:Nat} {p:Nat→Bool} {x:Int}:x∈selP n p↔∃ i:Nat,i < n∧p i=true∧x=i:=by
 unfold selP
 simp only [List.mem_map,List.mem_filter,List.mem_range]
 constructor
 · rintro ⟨i,⟨h1,h2⟩,rfl⟩;exact ⟨i,h1,h2,rfl⟩
 · rintro ⟨i,h1,h2,rfl⟩;exact ⟨i,⟨h1,h2⟩,rfl⟩
theorem sel_succ (n:Nat) (p:Nat→Bool):selP (n+1) p=selP n p++(if p n then [(n:Int)] else []):=by
 unfold selP
 rw [List.range_succ,List.filter_append,List.map_append]
 congr 1
 cases h:p n<;>simp [h]
theorem sel_congr {n:Nat} {p q:Nat→Bool} (h:∀ i,i < n→p i=q i):selP n p=selP n q:=by
 unfold selP
 congr 1
 exact List.filter_congr fun i hi=>h i (List.mem_range.1 hi)
theorem sel_len (n:Nat) (p:Nat→Bool):(selP n p).length≤n:=by
 unfold selP
 rw [List.length_map]
 exact Nat.le_trans (List.length_filter_le _ _) (by simp)
def namesU (f:FieldD):List ByteArray:=if f.kind=4∨f.kind=7∨f.kind=12 then f.terms.map (·.field) else if f.kind=9 then [f.tag] else if f.kind=11 then [f.fr] else []
def hitsU (bef:List FieldD) (ns:List ByteArray):List Int:=ns.filterMap fun s=>if bef.any (fun g=>decide (g.name=s)) then some (idx (fun g=>decide (g.name=s)) bef) else none
def usesB (l:List FieldD) (k i:Nat):Bool:=match l[k]? with
 | some f=>(namesU f).any fun s=>idx (fun g=>decide (g.name=s)) (l.take k) == (i:Int)
 | none=>false
def usesP (l:List FieldD) (k:Nat):List Int:=selP k (usesB l k)
def usersP (l:List FieldD) (k:Nat):List Int:=selP l.length fun i=>(usesP l i).contains (k:Int)
def freeP (l:List FieldD):List Int:=selP l.length fun i=>(match l[i]? with
 | some f=>numberB f
 | none=>false)&&(usersP l i).isEmpty
theorem mem_hits {bef:List FieldD} {ns:List ByteArray} {x:Int}:x∈hitsU bef ns↔∃ s∈ns,idx (fun g=>decide (g.name=s)) bef=x∧0≤x:=by
 unfold hitsU
 simp only [List.mem_filterMap]
 constructor
 · rintro ⟨s,hs,h⟩
   split at h
   · rename_i ha
     injection h with h
     refine ⟨s,hs,h,?_⟩
     rw [← idx_neg] at ha
     rw [← h]
     simpa using ha
   · cases h
 · rintro ⟨s,hs,rfl,h0⟩
   exact ⟨s,hs,by rw [if_pos (by rw [← idx_neg];simpa using h0)]⟩
theorem uses_sorted {l:List FieldD} {k:Nat} {f:FieldD} (hf:l[k]?=some f):Go.Lib.compact ((hitsU (l.take k) (namesU f)).mergeSort fun x y=>decide (x≤y))=usesP l k:=by
 obtain ⟨h1,h2⟩:=sort_compact (hitsU (l.take k) (namesU f))
 refine rise_ext h1 (sel_rise _ _) fun x=>?_
 rw [h2,mem_hits,usesP,mem_sel]
 constructor
 · rintro ⟨s,hs,h,h0⟩
   obtain ⟨hb1,hb2⟩:=idx_bounds (fun g:FieldD=>decide (g.name=s)) (l.take k)
   rw [List.length_take] at hb2
   refine ⟨x.toNat,by omega,?_,by omega⟩
   unfold usesB
   rw [hf]
   simp only [List.any_eq_true,beq_iff_eq]
   exact ⟨s,hs,by omega⟩
 · rintro ⟨i,hi,h,rfl⟩
   unfold usesB at h
   rw [hf] at h
   simp only [List.any_eq_true,beq_iff_eq] at h
   obtain ⟨s,hs,h⟩:=h
   exact ⟨s,hs,h,by omega⟩
theorem uses_lt {l:List FieldD} {k:Nat} {x:Int} (h:x∈usesP l k):0≤x∧x < k:=by
 obtain ⟨i,hi,_,rfl⟩:=mem_sel.1 h
 omega
def n123 (t0:Value) (R:RT) (w:World):Prop :=
 opV Pg (Instr.box 30 t0) (panK R) w fun t1 w =>
 opV Pg (Instr.makeFunc (.func 86) #[] #[t1]) (panK R) w fun t3 w =>
 R (.returned t3) w
theorem n123s {t0:Value} {R:RT} {w:World} (h:n123 t0 R w):Calls Pg 50 #[t0] w R:=by
 refine yD Tryz.func50 ?_
 exact zs<|zr<|yv h fun _ w h=>zm<|zn<|zk<|zs<|zr<|yF h fun _ w h=>zm<|zn<|zk<|sim_ret<|body_ret1 rfl rfl h
def n74c1 (t3 t10:Value) (R:RT) (w:World):Prop :=
 opV Pg (Instr.extract t10 0) (panK R) w fun t11 w =>
 opV Pg (Instr.extract t10 1) (panK R) w fun t12 w =>
 opV Pg (Instr.makeFunc (.func 88) #[] #[t3]) (panK R) w fun t14 w =>
 C0 87 #[t11,t14] R w fun t15 w =>
 R (.returned (.tuple #[t15,t12])) w
def n74 (t0 t1:Value) (R:RT) (w:World):Prop :=
 opV Pg (Instr.box 28 t0) (panK R) w fun t2 w =>
 opV Pg (Instr.box 4 t1) (panK R) w fun t3 w =>
 L0 28 t2 R w fun t9 w =>
 C0 55 #[t9] R w fun t10 w =>
 n74c1 t3 t10 R w
theorem n74s {t0 t1:Value} {R:RT} {w:World} (h:n74 t0 t1 R w):Calls Pg 51 #[t0,t1] w R:=by
 refine yD Tryz.func51 ?_
 refine zs<|zr<|yv h fun _ w h=>yv h fun _ w h=>zm<|zm<|zn<|zk<|zs<|zr<|yv h fun _ w h=>yc h c55 fun _ w h=>zm<|yv h fun _ w h=>yv h fun _ w h=>?_
 refine zm<|zm<|zn<|zk<|zs<|zr<|zm<|yF h fun _ w h=>yc h c87 fun _ w h=>zm<|zm<|zm<|zn<|zk<|sim_ret ?_
 exact body_ret2 rfl rfl rfl h
theorem op_boxA {P:Program} {QP:List PanicEntry→World→Prop} {w:World} {k:Value→World→Prop} (T:TypeId) (cs:Array Value):opV P (Instr.box T (.agg cs)) QP w k=k (.pointer (some ⟨w.heap.size,0,none⟩)) (w.alloc (.cells cs T)):=op_box T (.agg cs)
theorem open1 {α:Type} {w:World} {n:Nat} {E:World→List Value→α→Prop} {v:Value} {l:List α} (h:SliceOf w n E v l) {i:Nat} {x:α} (hi:l[i]?=some x) :
 ∃ b o c,v = .slice (some ⟨b,o,none⟩) l.length c∧l.length≤c∧c≤9223372036854775807∧l.length≤9223372036854775807∧i < l.length∧∀ k x,l[k]?=some x→∃ cs,cs.length=n∧ElemAt w b (o+k*n) cs∧E w cs x:=by
 obtain ⟨A,c,h1,h2,h3,h4⟩:=h
 obtain ⟨b,o,rfl,h5⟩:=h4 (by rintro rfl;cases hi)
 exact ⟨b,o,c,h1,h2,h3,by omega,(List.getElem?_eq_some_iff.1 hi).1,h5⟩
open Go.Shelf
def sh_lays189_ren:Go.Shelf.Ren:=⟨fun | 189=>83 | 125=>116 | 257=>115 | 128=>144 | 129=>145 | 294=>135 | 295=>136 | 296=>137 | 297=>138 | 298=>139 | 299=>140 | 216=>141 | 300=>142 | 301=>143 | 328=>176 | 329=>177 | 330=>178 | 331=>179 | 332=>180 | 215=>181 | 343=>191 | n=>n,fun | 28=>30 | 3=>3 | 46=>159 | 0=>0 | 51=>186 | 53=>188 | 4=>4 | 183=>179 | 182=>178 | 131=>63 | 5=>5 | 9=>9 | 218=>207 | 222=>211 | 228=>223 | 229=>194 | n=>n,fun | n=>n⟩
theorem sh_lays189:Go.Proofs.Lays.n189 Pg sh_lays189_ren:={
 mixed:=by kernel_rfl
 f125:=Tryz.func116.trans (congrArg some (by kernel_rfl))
 f128:=Tryz.func144.trans (congrArg some (by kernel_rfl))
 f129:=Tryz.func145.trans (congrArg some (by kernel_rfl))
 f189:=Tryz.func83.trans (congrArg some (by kernel_rfl))
 f215:=Tryz.func181.trans (congrArg some (by kernel_rfl))
 f216:=Tryz.func141.trans (congrArg some (by kernel_rfl))
 f257:=Tryz.func115.trans (congrArg some (by kernel_rfl))
 f294:=Tryz.func135.trans (congrArg some (by kernel_rfl))
 f295:=Tryz.func136.trans (congrArg some (by kernel_rfl))
 f296:=Tryz.func137.trans (congrArg some (by kernel_rfl))
 f297:=Tryz.func138.trans (congrArg some (by kernel_rfl))
 f298:=Tryz.func139.trans (congrArg some (by kernel_rfl))
 f299:=Tryz.func140.trans (congrArg some (by kernel_rfl))
 f300:=Tryz.func142.trans (congrArg some (by kernel_rfl))
 f301:=Tryz.func143.trans (congrArg some (by kernel_rfl))
 f328:=Tryz.func176.trans (congrArg some (by kernel_rfl))
 f329:=Tryz.func177.trans (congrArg some (by kernel_rfl))
 f330:=Tryz.func178.trans (congrArg some (by kernel_rfl))
 f331:=Tryz.func179.trans (congrArg some (by kernel_rfl))
 f332:=Tryz.func180.trans (congrArg some (by kernel_rfl))
 f343:=Tryz.func191.trans (congrArg some (by kernel_rfl))
 t0:=Tryz.underlying0
 a0:=Tryz.isAgg0
 z0:=Tryz.sizeOf0
 v0:=Tryz.zeroValue0
 t3:=Tryz.underlying3
 a3:=Tryz.isAgg3
 z3:=Tryz.sizeOf3
 v3:=Tryz.zeroValue3
 t4:=Tryz.underlying4
 a4:=Tryz.isAgg4
 z4:=Tryz.sizeOf4
 v4:=Tryz.zeroValue4
 t5:=Tryz.underlying5
 a5:=Tryz.isAgg5
 z5:=Tryz.sizeOf5
 v5:=Tryz.zeroValue5
 t9:=Tryz.underlying9
 a9:=Tryz.isAgg9
 z9:=Tryz.sizeOf9
 v9:=Tryz.zeroValue9
 t28:=Tryz.underlying30
 a28:=Tryz.isAgg30
 z28:=Tryz.sizeOf30
 v28:=Tryz.zeroValue30
 t46:=Tryz.underlying159
 a46:=Tryz.isAgg159
 z46:=Tryz.sizeOf159
 v46:=Tryz.zeroValue159
 t51:=Tryz.underlying186
 a51:=Tryz.isAgg186
 z51:=Tryz.sizeOf186
 v51:=Tryz.zeroValue186
 t53:=Tryz.underlying188
 a53:=Tryz.isAgg188
 z53:=Tryz.sizeOf188
 v53:=Tryz.zeroValue188
 t131:=Tryz.underlying63
 a131:=Tryz.isAgg63
 z131:=Tryz.sizeOf63
 v131:=Tryz.zeroValue63
 t182:=Tryz.underlying178
 a182:=Tryz.isAgg178
 z182:=Tryz.sizeOf178
 v182:=Tryz.zeroValue178
 t183:=Tryz.underlying179
 a183:=Tryz.isAgg179
 z183:=Tryz.sizeOf179
 v183:=Tryz.zeroValue179
 t218:=Tryz.underlying207
 a218:=Tryz.isAgg207
 z218:=Tryz.sizeOf207
 v218:=Tryz.zeroValue207
 t222:=Tryz.underlying211
 a222:=Tryz.isAgg211
 z222:=Tryz.sizeOf211
 v222:=Tryz.zeroValue211
 t228:=Tryz.underlying223
 a228:=Tryz.isAgg223
 z228:=Tryz.sizeOf223
 v228:=Tryz.zeroValue223
 t229:=Tryz.underlying194
 a229:=Tryz.isAgg194
 z229:=Tryz.sizeOf194
 v229:=Tryz.zeroValue194 }
open Go.Sort Go.RowKit in
theorem sh_slices_Sort_int (blk off cap:Nat) (zs:List Int) (w:World) (hH:Holds (Value.int .i64) w blk off zs.toArray) (hblk:blk < w.heap.size) (hsz:zs.length < 4611686018427387904) :
 Calls Pg 83 #[.slice (some ⟨blk,off,none⟩) zs.length cap] w fun e w' =>
  e = .returned (.tuple #[])∧∃ n os,w'=grow (putRow (Value.int .i64) (Sort.ahead w n) blk off (zs.mergeSort fun x y=>decide (x≤y)).toArray) os:=Any.slices_Sort_int sh_lays189 blk off cap zs w hH hblk hsz
def sh_laysNm220_ren:Go.Shelf.Ren:=⟨fun | 20=>84 | n=>n,fun | 22=>30 | 3=>3 | 4=>4 | 0=>0 | n=>n,fun | n=>n⟩
theorem sh_laysNm220:Go.Proofs.Lays2.n20 Pg sh_laysNm220_ren:={
 mixed:=by kernel_rfl
 f20:=Tryz.func84.trans (congrArg some (by kernel_rfl))
 t0:=Tryz.underlying0
 a0:=Tryz.isAgg0
 z0:=Tryz.sizeOf0
 v0:=Tryz.zeroValue0
 t3:=Tryz.underlying3
 a3:=Tryz.isAgg3
 z3:=Tryz.sizeOf3
 v3:=Tryz.zeroValue3
 t4:=Tryz.underlying4
 a4:=Tryz.isAgg4
 z4:=Tryz.sizeOf4
 v4:=Tryz.zeroValue4
 t22:=Tryz.underlying30
 a22:=Tryz.isAgg30
 z22:=Tryz.sizeOf30
 v22:=Tryz.zeroValue30
 i3:=by kernel_rfl }
open Go.RowKit Go.Lib Go.Sort in
open Go.RowKit Go.Lib Go.Sort in
theorem sh_slices_Compact_int (blk off cap:Nat) (zs:List Int) (w:World) (hH:Holds (Value.int .i64) w blk off zs.toArray) (hsz:zs.length≤9223372036854775807) (hcap:zs.length≤cap) :
 Calls Pg 84 #[.slice (some ⟨blk,off,none⟩) zs.length cap] w fun e w'=>e = .returned (.slice (some ⟨blk,off,none⟩) (Lib.compact zs).length cap)∧∃ q,w'=putRow (Value.int .i64) (Sort.ahead w q) blk off (Lib.compact zs++List.replicate (zs.length - (Lib.compact zs).length) 0).toArray:=Any.slices_Compact_int sh_laysNm220 blk off cap zs w hH hsz hcap
open Go.RowKit Go.Lib Go.Sort in
theorem sh_slices_Compact_int_empty (a:Option Addr) (cap:Nat) (w:World) :
 Calls Pg 84 #[.slice a 0 cap] w fun e w'=>e = .returned (.slice a 0 cap)∧w'=w:=Any.slices_Compact_int_empty sh_laysNm220 a cap w
open Go.RowKit Go.Sort in
theorem sh_slices_Sort_int_none (p:Option Addr) (cap:Nat) (w:World) :
 Calls Pg 83 #[.slice p 0 cap] w fun e w'=>e = .returned (.tuple #[])∧w'=w:=Any.slices_Sort_int_none sh_lays189 p cap w
abbrev encI (n:Int):List Value:=[.int .i64 n]
abbrev RowI (w:World) (base:Nat) (v:Value) (l:List Int):Prop:=OwnE w base 3 1 encI v l
theorem flat_encI (l:List Int):l.flatMap encI=l.map fun n=>Value.int .i64 n:=by
 induction l with
 | nil=>rfl
 | cons x l ih=>rw [List.flatMap_cons,ih];rfl
def Goes (base:Nat) (w w':World):Prop:=w.heap.size≤w'.heap.size∧(∀ a,Ext a w→a.heap.size≤base→Ext a w')∧∀ (k:Nat) (o:Obj),w.heap[k]?=some o→(∀ cs T fr,o ≠ .cells cs T fr)→w'.heap[k]?=some o
theorem Goes.refl (base:Nat) (w:World):Goes base w w:=⟨Nat.le_refl _,fun _ e _=>e,fun _ _ h _=>h⟩
theorem Goes.trans {base:Nat} {w w1 w2:World} (h:Goes base w w1) (k:Goes base w1 w2):Goes base w w2:=⟨Nat.le_trans h.1 k.1,fun a e ha=>k.2.1 a (h.2.1 a e ha) ha,fun q o hq hn=>k.2.2 q o (h.2.2 q o hq hn) hn⟩
theorem Goes.mark {base:Nat} {w w':World} (h:Goes base w w') {B:Nat} (hm:MarkAt B w):MarkAt B w':=h.2.2 _ _ hm (fun _ _ _ e=>by cases e)
theorem Goes.rec {base:Nat} {w w':World} (h:Goes base w w') {r:Loop} {B:Nat} (hm:RecAt r B w):RecAt r B w':=⟨h.mark hm.1,let ⟨st,p,hp⟩:=hm.2; ⟨st,p,h.2.2 _ _ hp (fun _ _ _ e=>by cases e)⟩⟩
theorem Goes.low {base:Nat} {w w':World} (h:Goes base w w') {k:Nat} (hk:k < base) {o:Obj} (ho:w.heap[k]?=some o):w'.heap[k]?=some o:=by
 have hkl:=(Array.getElem?_eq_some_iff.1 ho).1
 have hb:∀ g,g < k+1→(w.heap.extract 0 (k+1))[g]?=w.heap[g]?:=fun g hg=>by
  rw [Array.getElem?_extract]
  simp only [Nat.zero_add]
  rw [if_pos (by omega)]
 have hs:(w.heap.extract 0 (k+1)).size=k+1:=by rw [Array.size_extract];omega
 have ea:Ext { w with heap:=w.heap.extract 0 (k+1) } w:=⟨rfl,rfl,rfl,by show (w.heap.extract 0 (k+1)).size≤_;omega,fun g hg=>(hb g (by rw [← hs];exact hg)).symm⟩
 have:=h.2.1 _ ea (by show (w.heap.extract 0 (k+1)).size≤base;omega)
 exact this.obj ((hb k (Nat.lt_succ_self _)).trans ho)
theorem own_type {w:World} {base:Nat} {v:Value} {l:List Int} (h:RowI w base v l) {g:Nat} (hg:v.ownBlock=some g):∃ cur,w.heap[g]?=some (.cells cur 3 (0,0)):=by
 rcases h.2 with ⟨rfl,_⟩ | ⟨g',cap,cur,rfl,_,h3,_⟩
 · cases hg
 · injection hg with hg;subst hg;exact ⟨cur,h3⟩
theorem goes_grown {α:Type} {base n:Nat} {T:TypeId} {enc:α→List Value} {w w':World} {v:Value} {l:List α} (h:OwnE w base T n enc v l) (hg:w.grownBy w' v.ownBlock):Goes base w w':=by
 refine ⟨hg.size,fun a e ha=>e.grown hg fun k hk=>Nat.le_trans ha ((World.ownsRow.lt h k hk).1),fun q o hq hn=>(hg.block q (Array.getElem?_eq_some_iff.1 hq).1 fun e=>?_).trans hq⟩
 rcases h.2 with ⟨rfl,_⟩ | ⟨g',cap,cur,rfl,_,h3,_⟩
 · cases e
 · injection e with e;subst e;rw [hq] at h3;injection h3 with h3;exact hn _ _ _ h3
theorem put_own {w:World} {base g cap:Nat} {l l':List Int} (h:RowI w base (.slice (some ⟨g,0,none⟩) l.length cap) l) (hl:l'.length=l.length) (n:Nat) (os:Array Obj) :
 RowI (Sort.grow (Sort.putRow (Value.int .i64) (Sort.ahead w n) g 0 l'.toArray) os) base (.slice (some ⟨g,0,none⟩) l.length cap) l'∧Goes base w (Sort.grow (Sort.putRow (Value.int .i64) (Sort.ahead w n) g 0 l'.toArray) os):=by
 rcases h.2 with ⟨h0,_⟩ | ⟨g',cap',cur,h1,hb,hg,hc,hm,hs,ht⟩
 · cases h0
 injection h1 with h1 h1' h1''
 injection h1 with h1
 injection h1 with h1
 subst h1 h1''
 have hlt:=(Array.getElem?_eq_some_iff.1 hg).1
 have hkeep:∀ k,k < w.heap.size→k≠g→(Sort.grow (Sort.putRow (Value.int .i64) (Sort.ahead w n) g 0 l'.toArray) os).heap[k]?=w.heap[k]?:=by
  intro k hk hne
  unfold Sort.grow Sort.putRow Sort.mapBlock Sort.ahead
  dsimp only
  rw [Array.getElem?_append_left (by simpa using hk),Array.getElem?_modify,if_neg (Ne.symm hne)]
 have hrow:(Sort.grow (Sort.putRow (Value.int .i64) (Sort.ahead w n) g 0 l'.toArray) os).heap[g]?=some (.cells (Sort.putCells (Value.int .i64) 0 l'.toArray cur) 3 (0,0)):=by
  unfold Sort.grow Sort.putRow Sort.mapBlock Sort.ahead
  dsimp only
  rw [Array.getElem?_append_left (by simpa using hlt),Array.getElem?_modify,if_pos rfl,hg]
  rfl
 have hsz:w.heap.size≤(Sort.grow (Sort.putRow (Value.int .i64) (Sort.ahead w n) g 0 l'.toArray) os).heap.size:=by
  unfold Sort.grow Sort.putRow Sort.mapBlock Sort.ahead
  simp
 refine ⟨⟨by rw [flat_encI,List.length_map,Nat.mul_one],.inr ⟨g,cap,_,by rw [hl],hb,hrow,by rw [hl];exact hc,hm,by unfold Sort.putCells;rw [Array.size_mapIdx];exact hs,?_⟩⟩,hsz,fun a e ha=>⟨e.os,e.tape,e.output,Nat.le_trans e.size hsz,fun k hk=>(hkeep k (Nat.lt_of_lt_of_le hk e.size) (by omega)).trans (e.block k hk)⟩,fun q o hq hn=>(hkeep q (Array.getElem?_eq_some_iff.1 hq).1 (by rintro rfl;rw [hg] at hq;injection hq with hq;exact hn _ _ _ hq.symm)).trans hq⟩
 rw [flat_encI]
 apply List.ext_getElem?
 intro k
 rw [List.getElem?_take,List.getElem?_map]
 by_cases hk:k < l'.length
 · rw [if_pos (by omega),Array.getElem?_toList]
   unfold Sort.putCells
   rw [Array.getElem?_mapIdx]
   have hkc:k < cur.size:=by rw [hs,Nat.mul_one];omega
   rw [Array.getElem?_eq_getElem hkc,List.getElem?_eq_getElem hk]
   simp only [Option.map_some,List.size_toArray]
   rw [if_pos ⟨Nat.zero_le _,by omega⟩,Nat.sub_zero,getElem!_pos _ k (by simpa using hk)]
   simp
 · rw [if_neg (by omega),List.getElem?_eq_none (by omega)]
   rfl
theorem own_front {w:World} {base g cap:Nat} {l r:List Int} {n:Nat} (h:RowI w base (.slice (some ⟨g,0,none⟩) n cap) (l++r)):RowI w base (.slice (some ⟨g,0,none⟩) l.length cap) l:=by
 rcases h.2 with ⟨h0,_⟩ | ⟨g',cap',cur,h1,hb,hg,hc,hm,hs,ht⟩
 · cases h0
 injection h1 with h1 h1' h1''
 injection h1 with h1
 injection h1 with h1
 subst h1 h1''
 refine ⟨by rw [flat_encI,List.length_map,Nat.mul_one],.inr ⟨g,cap,cur,rfl,hb,hg,by rw [List.length_append] at hc;omega,hm,hs,?_⟩⟩
 rw [flat_encI,Nat.mul_one] at *
 rw [List.map_append] at ht
 have:=congrArg (List.take l.length) ht
 rw [List.take_take,List.length_append,Nat.min_eq_left (by omega),List.take_append_of_le_length (by simp)] at this
 rw [this,List.take_of_length_le (by simp)]
theorem own_holds {w:World} {base g cap n:Nat} {l:List Int} (h:RowI w base (.slice (some ⟨g,0,none⟩) n cap) l):g < w.heap.size∧l.length≤cap∧cap≤9223372036854775807∧Sort.Holds (Value.int .i64) w g 0 l.toArray:=by
 rcases h.2 with ⟨h0,_⟩ | ⟨g',cap',cur,h1,hb,hg,hc,hm,hs,ht⟩
 · cases h0
 injection h1 with h1 h1' h1''
 injection h1 with h1
 injection h1 with h1
 subst h1 h1''
 refine ⟨(Array.getElem?_eq_some_iff.1 hg).1,hc,by simp only [maxLen] at hm;omega,fun j hj=>⟨?_,(cells_of_heap hg).2 _⟩⟩
 have hj':j < l.length:=by simpa using hj
 rw [(cells_of_heap hg).1,Nat.zero_add,getElem!_pos _ j hj]
 rw [flat_encI,Nat.mul_one] at ht
 have:=congrArg (fun x:List Value=>x[j]?) ht
 rw [List.getElem?_take,if_pos hj',List.getElem?_map,List.getElem?_eq_getElem hj',Array.getElem?_toList] at this
 simpa using this
theorem Sort_ret {w:World} {base:Nat} {v:Value} {l:List Int} (h:RowI w base v l) (hl:l.length≤1048576):Ret Pg 83 #[v] w fun r w'=>r = .tuple #[]∧RowI w' base v (l.mergeSort fun x y=>decide (x≤y))∧Goes base w w':=by
 rcases h.2 with ⟨rfl,h0⟩ | ⟨g,cap,cur,rfl,hb,hg,hc,hm,hs,ht⟩
 · obtain rfl:l=[]:=List.eq_nil_of_length_eq_zero h0
   refine Calls.mono (sh_slices_Sort_int_none none 0 w) ?_
   rintro e w' ⟨rfl,rfl⟩
   exact ⟨_,rfl,rfl,by rw [List.mergeSort_nil];exact h,Goes.refl _ _⟩
 · obtain ⟨a1,a2,a3,a4⟩:=own_holds h
   refine Calls.mono (sh_slices_Sort_int g 0 cap l w a4 a1 (by omega)) ?_
   rintro e w' ⟨rfl,n,os,rfl⟩
   have:=put_own h (l':=l.mergeSort fun x y=>decide (x≤y)) (List.length_mergeSort _) n os
   exact ⟨_,rfl,rfl,this.1,this.2⟩
theorem Compact_ret {w:World} {base:Nat} {v:Value} {l:List Int} (h:RowI w base v l) (hl:l.length≤1048576):Ret Pg 84 #[v] w fun r w'=>RowI w' base r (Go.Lib.compact l)∧Goes base w w':=by
 rcases h.2 with ⟨rfl,h0⟩ | ⟨g,cap,cur,rfl,hb,hg,hc,hm,hs,ht⟩
 · obtain rfl:l=[]:=List.eq_nil_of_length_eq_zero h0
   refine Calls.mono (sh_slices_Compact_int_empty none 0 w) ?_
   rintro e w' ⟨rfl,rfl⟩
   exact ⟨_,rfl,h,Goes.refl _ _⟩
 · obtain ⟨a1,a2,a3,a4⟩:=own_holds h
   refine Calls.mono (sh_slices_Compact_int g 0 cap l w a4 (by omega) a2) ?_
   rintro e w' ⟨rfl,q,rfl⟩
   have hcl:(Go.Lib.compact l).length≤l.length:=by
    unfold Go.Lib.compact Go.Lib.compactUpTo
    rw [List.length_map]
    exact Nat.le_trans (List.length_filter_le _ _) (by simp)
   have:=put_own h (l':=Go.Lib.compact l++List.replicate (l.length - (Go.Lib.compact l).length) 0) (by simp;omega) q #[]
   rw [Sort.grow_empty] at this
   exact ⟨_,rfl,own_front this.1,this.2⟩
theorem RowI.ints {w:World} {base:Nat} {v:Value} {l:List Int} (h:RowI w base v l):SliceOf w 1 EInt v l:=h.slice (fun _=>rfl) (fun _ _=>rfl)
def n81c1 (t2 t7 t9:Value) (next1:KW) (R:RT) (w:World):Prop :=
 X0 43 t7 t9 R w fun t11 w =>
 L0 62 t11 R w fun t12 w =>
 opV Pg (Instr.alloc 62 true (.tuple #[])) (panK R) w fun t4 w =>
 opU Pg (Instr.storeAt 62 t4 t12) (panK R) w fun w =>
 F0 62 t4 0 R w fun t14 w =>
 L0 9 t14 R w fun t15 w =>
 opV Pg (Instr.buildSlice 82 1 #[(0,t15)]) (panK R) w fun t16 w =>
 opV Pg (Builtin.append_ #[82,82] 82 #[t2,t16]) (panK R) w fun t17 w =>
 B0 .add 3 true t9 (.int .i64 1) R w fun t18 w =>
 next1 t17 t18 w
def n81 (t0:Value) (R:RT) (w:World):Prop :=
 opV Pg (Instr.box 48 t0) (panK R) w fun t1 w =>
 F0 48 t1 7 R w fun t5 w =>
 F0 45 t5 1 R w fun t6 w =>
 L0 43 t6 R w fun t7 w =>
 opV Pg (Builtin.len_ #[43] 3 #[t7]) (panK R) w fun t8 w =>
 loop2 (fun t2 t9 w next1 =>
 B0 .lss 3 false t9 t8 R w fun t10 w =>
 condP t10 (
 n81c1 t2 t7 t9 next1 R w) (
 R (.returned t2) w)) (Value.slice none 0 0) (.int .i64 0) w
theorem n81s {t0:Value} {R:RT} {w:World} (h:n81 t0 R w):Calls Pg 110 #[t0] w R:=by
 refine yD Tryz.func110 ?_
 refine zs<|zr<|yv h fun _ w h=>zm<|zn<|zk<|zs<|zs<|zr<|yv h fun _ w h=>yv h fun _ w h=>yv h fun _ w h=>yx h fun _ w h=>zm<|zn ?_
 refine zk<|sim_block<|yl2 [2,4,9,10,11,12,13,14,15,16,17,18] 2 9 h fun σ w next h=>zs<|zr<|yb h fun _ w h=>zn<|zk<|zs<|yC h (fun h=>?_) fun h=>?_
 · refine sim_skip<|zk<|zs<|sim_block<|zs<|zr<|yv h fun _ w h=>yv h fun _ w h=>yv h fun _ w h=>yu h fun w h=>zn<|zk<|zr<|zm<|yv h fun _ w h=>?_
   exact yv h fun _ w h=>yS h fun _ w h=>yx h fun _ w h=>zm<|zn<|sim_block_normal<|zk<|zr<|yb h fun _ w h=>zm<|zn<|zk<|⟨rfl,h⟩
 exact sim_exit<|sim_then_exit<|sim_then_exit<|sim_block_hit<|zk<|zs<|zr<|zm<|zm<|zn<|zk<|sim_ret<|body_ret1 rfl rfl h
def n82 (t0:Value) (R:RT) (w:World):Prop :=
 opV Pg (Instr.box 48 t0) (panK R) w fun t1 w =>
 F0 48 t1 9 R w fun t3 w =>
 L0 9 t3 R w fun t4 w =>
 opV Pg (Instr.buildSlice 82 1 #[(0,t4)]) (panK R) w fun t5 w =>
 R (.returned t5) w
theorem n82s {t0:Value} {R:RT} {w:World} (h:n82 t0 R w):Calls Pg 111 #[t0] w R:=by
 refine yD Tryz.func111 ?_
 refine zs<|zr<|yv h fun _ w h=>zm<|zn<|zk<|zs<|zr<|yv h fun _ w h=>yv h fun _ w h=>yS h fun _ w h=>zm<|zn<|zk<|sim_ret ?_
 exact body_ret1 rfl rfl h
theorem append_int {w:World} {QP:List PanicEntry→World→Prop} {k:Value→World→Prop} {base b:Nat} {v:Value} {l:List Int} (n:Int) (h:RowI w base v l) (hc:w.cell? ⟨b,0,none⟩=some (.int .i64 n)) (hb:base≤w.heap.size) (hl:l.length≤1048576) (hk:∀ v' w',RowI w' base v' (l++[n])→Goes base w w'→k v' w') :
 opV Pg (Builtin.append_ #[30,30] 30 #[v,.slice (some ⟨b,0,none⟩) 1 1]) QP w k:=by
 refine op_appendE (l':=[n]) Tryz.underlying30 ty3 rfl (by decide) (fun _=>rfl) (fun x hx u hu=>?_) h (fun j x hx=>?_) hb ?_ (by simp;omega) (fun v' w' ho hg=>hk v' w' ho (goes_grown h hg))
 · simp at hu;subst hu;rfl
 · cases j with
   | zero=>simp at hx;subst hx;intro i u hu;cases i with
    | zero=>injection hu with hu;subst hu;simpa using hc
    | succ i=>cases hu
   | succ j=>cases hx
 · exact Nat.le_trans (Nat.mul_le_mul (show l.length+[n].length≤1048577 by simp;omega) by3) (by decide)
theorem append_str' {w:World} {QP:List PanicEntry→World→Prop} {k:Value→World→Prop} {base b:Nat} {v:Value} {l:List ByteArray} (s:ByteArray) (h:OwnE w base 9 1 strEnc v l) (hc:w.cell? ⟨b,0,none⟩=some (.string s)) (hb:base≤w.heap.size) (hl:l.length≤1048576) (hk:∀ v' w',OwnE w' base 9 1 strEnc v' (l++[s])→Goes base w w'→k v' w') :
 opV Pg (Builtin.append_ #[82,82] 82 #[v,.slice (some ⟨b,0,none⟩) 1 1]) QP w k :=
 append_str s h hc hb hl fun v' w' ho hg=>hk v' w' ho (goes_grown h hg)
def Names (g:FuncId) (ns:FieldD→List ByteArray):Prop:=∀ (w:World) (v:Value) (f:FieldD),FieldVal w v f→f.terms.length≤1048576→Ret Pg g #[v] w fun r w'=>SliceOf w' 1 EStr r (ns f)∧Ext w w'
theorem uses1_names:Names 110 (fun f=>f.terms.map (·.field)):=by
 intro w0 v f hf hl
 obtain ⟨tv,cv,rfl,hT,hC⟩:=hf
 have ht1:=SliceOf.oneCell hT
 have hc1:=SliceOf.oneCell hC
 obtain ⟨A,c,rfl,hlc,hcm,hlm,hel⟩:=SliceOf.open hT
 refine n81s (R:=retR _) ?_;unfold n81
 rw [op_boxA]
 have hBW:=ElemAt.new (w:=w0) (fieldCells f (.slice A f.terms.length c) cv) (48)
 have eW:Ext w0 (w0.alloc (Obj.cells (List.toArray (fieldCells f (.slice A f.terms.length c) cv)) (48))):=(Ext.refl _).alloc _
 generalize (w0.alloc (Obj.cells (List.toArray (fieldCells f (.slice A f.terms.length c) cv)) (48)))=W at hBW eW ⊢
 simp (disch:=try exact DI) only [↓PR,QR,simprocAttr,hBW.c15 (Ext.refl W)]
 have hs:=eW.size
 refine loop2_intro (fun a0 a1 w=>∃ (k:Nat) (sv:Value),a0=sv∧a1 = .int .i64 (k:Int)∧k≤f.terms.length∧Ext w0 w∧OwnE w W.heap.size 9 1 strEnc sv ((f.terms.take k).map (·.field))∧W.heap.size≤w.heap.size) (fun a0 a1 _=>f.terms.length - (intOf a1).toNat) ⟨0,.slice none 0 0,rfl,rfl,Nat.zero_le _,ee,⟨OwnE.nil _ _ _ _ _,Nat.le_refl _⟩⟩ ?_
 rintro _ _ w ⟨k,sv,rfl,rfl,hk,e,hI⟩
 have se:=e.size
 rcases drop_cases hk with ⟨x,hx,hd,hlt,hdec⟩ | ⟨hk,hd,hdec⟩
 · obtain ⟨hO,hs1⟩:=hI
   obtain ⟨b,o,cs,rfl,hl',hA,rfl⟩:=hel k x hx
   simp (disch:=try exact DI) only [↓PR,QR,simprocAttr,hdec,↓n81c1,hA.c2 e]
   generalize hV:World.alloc (World.alloc w _) _=V
   have eV:Ext w V:=by rw [← hV];exact ee
   have oV:V.heap[w.heap.size+1]?=some (.cells #[.string x.field] 9 (0,0)):=by rw [← hV];simp (disch:=try exact DI) only [↓PR,QR,simprocAttr]
   have sV:=eV.size
   clear hV
   refine append_str' x.field (hO.ext eV) (by rw [(cells_of_heap oV).1];rfl) (by omega) (by simp;omega) ?_
   intro v' w' hO' hg
   have e':=hg.2.1 w0 (e.trans eV) eW.size
   have s':=hg.1
   simp (disch:=try exact DI) only [↓PR,QR,simprocAttr]
   exact ⟨⟨k+1,v',rfl,rfl,by omega,ee,⟨by rw [take_snoc hx,List.map_append];exact hO',by omega⟩⟩,meas_lt (kd := .i64) hlt⟩
 · obtain ⟨hO,hs1⟩:=hI
   subst hk
   simp (disch:=try exact DI) only [↓PR,QR,simprocAttr,hdec]
   rw [List.take_length] at hO
   exact ⟨hO.slice (fun _=>rfl) (fun _ _=>rfl),e⟩
theorem uses2_names:Names 111 (fun f=>[f.tag]):=by
 intro w0 v f hf hl
 obtain ⟨tv,cv,rfl,hT,hC⟩:=hf
 have ht1:=SliceOf.oneCell hT
 have hc1:=SliceOf.oneCell hC
 refine n82s (R:=retR _) ?_;unfold n82
 simp (disch:=try exact DI) only [↓PR,QR,simprocAttr]
 refine ⟨?_,ee⟩
 have:=SliceOf.new1 (E:=EStr) (fun s=>Value.string s) (fun _ _=>rfl) (w0.alloc (.cells (fieldCells f tv cv).toArray 48)) [f.tag] 9 (by simp)
 simpa using this
theorem uses3_names:Names 112 (fun f=>[f.fr]):=by
 intro w0 v f hf hl
 obtain ⟨tv,cv,rfl,hT,hC⟩:=hf
 have ht1:=SliceOf.oneCell hT
 have hc1:=SliceOf.oneCell hC
 refine n83s (R:=retR _) ?_;unfold n83
 simp (disch:=try exact DI) only [↓PR,QR,simprocAttr]
 refine ⟨?_,ee⟩
 have:=SliceOf.new1 (E:=EStr) (fun s=>Value.string s) (fun _ _=>rfl) (w0.alloc (.cells (fieldCells f tv cv).toArray 48)) [f.fr] 9 (by simp)
 simpa using this
def UsesIn (L:List (Int×Value×Nat)):Prop:=(∀ k,¬ (k=4∨k=7∨k=12∨k=9∨k=11)→Sw.look L k=none)∧(∀ k,k=4∨k=7∨k=12→Sw.look L k=some (.func (.func 110) #[] #[]))∧Sw.look L 9=some (.func (.func 111) #[] #[])∧Sw.look L 11=some (.func (.func 112) #[] #[])
theorem use_step {w0 w:World} {m c:Nat} {L:List (Int×Value×Nat)} {QP:List PanicEntry→World→Prop} {ku:World→Prop} (hM:MapB w m kindEnc L c) (e:Ext w0 w) (hm:w0.heap.size≤m) (k:Int) (v:Value)
 (h:∀ w' L' c',MapB w' m kindEnc L' c'→(∀ k',Sw.look L' k'=if k'=k then some v else Sw.look L k')→Ext w0 w'→ku w'):opU Pg (Instr.mapUpdate 128 (.map (some m)) (.int .i64 k) v) QP w ku:=by
 rw [op_mapUpdate Tryz.underlying128 (KeyOK.int Tryz.underlying42) hM k v]
 exact h _ _ _ (hM.put k v) (fun k'=>look_put _ _ _ _ _) (e.putObj hm _)
theorem uses_ret (w0:World):Ret Pg 81 #[] w0 fun r w'=>∃ m L c,r = .map (some m)∧w0.heap.size≤m∧MapB w' m kindEnc L c∧UsesIn L∧Ext w0 w':=by
 refine n80s (R:=retR _) ?_;unfold n80
 simp (disch:=try exact DI) only [↓PR,QR,simprocAttr]
 have hM0:MapB (w0.alloc (.map #[] 0)) w0.heap.size kindEnc [] 0:=MapB.new w0 _
 have e0:Ext w0 (w0.alloc (.map #[] 0)):=ee
 refine use_step hM0 e0 (Nat.le_refl _) 4 _ (fun w1 L1 c1 hM1 hl1 e1=>?_)
 simp (disch:=try exact DI) only [↓PR,QR,simprocAttr]
 refine use_step hM1 e1 (Nat.le_refl _) 7 _ (fun w2 L2 c2 hM2 hl2 e2=>?_)
 simp (disch:=try exact DI) only [↓PR,QR,simprocAttr]
 refine use_step hM2 e2 (Nat.le_refl _) 12 _ (fun w3 L3 c3 hM3 hl3 e3=>?_)
 simp (disch:=try exact DI) only [↓PR,QR,simprocAttr]
 refine use_step hM3 e3 (Nat.le_refl _) 9 _ (fun w4 L4 c4 hM4 hl4 e4=>?_)
 simp (disch:=try exact DI) only [↓PR,QR,simprocAttr]
 refine use_step hM4 e4 (Nat.le_refl _) 11 _ (fun w5 L5 c5 hM5 hl5 e5=>?_)
 simp (disch:=try exact DI) only [↓PR,QR,simprocAttr]
 have hn:∀ k,Sw.look ([]:List (Int×Value×Nat)) k=none:=fun _=>rfl
 refine ⟨_,_,_,rfl,Nat.le_refl _,hM5,⟨fun k hk=>?_,fun k hk=>?_,?_,?_⟩,e5⟩
 · rw [hl5,if_neg (by omega),hl4,if_neg (by omega),hl3,if_neg (by omega),hl2,if_neg (by omega),hl1,if_neg (by omega),hn]
 · rcases hk with rfl | rfl | rfl
   · rw [hl5,if_neg (by decide),hl4,if_neg (by decide),hl3,if_neg (by decide),hl2,if_neg (by decide),hl1,if_pos rfl]
   · rw [hl5,if_neg (by decide),hl4,if_neg (by decide),hl3,if_neg (by decide),hl2,if_pos rfl]
   · rw [hl5,if_neg (by decide),hl4,if_neg (by decide),hl3,if_pos rfl]
 · rw [hl5,if_neg (by decide),hl4,if_pos rfl]
 · rw [hl5,if_pos rfl]
theorem where_Field_ret (w0:World) (v:Value) (l:List FieldD) (g:FuncId) (caps:Array Value) (p:Nat→Bool) (hs:FieldsOf w0 v l) (hl:l.length≤1048576) (hg:Callable Pg g)
 (hc:∀ (w:World) (i:Nat) (x:FieldD) (u:Value),l[i]?=some x→Ext w0 w→FieldVal w u x→Ret Pg g (#[.int .i64 (i:Int),u]++caps) w fun r w'=>r = .bool (p i)∧Ext w w') :
 Ret Pg 41 #[v,.func (.func g) #[] caps] w0 fun r w'=>RowI w' w0.heap.size r (selP l.length p)∧Ext w0 w':=by
 obtain ⟨A,c,rfl,hlc,hcm,hlm,hel⟩:=SliceOf.open hs
 refine n84s (R:=retR _) ?_;unfold n84
 simp (disch:=try exact DI) only [↓PR,QR,simprocAttr]
 refine loop2_intro (fun a0 a1 w=>∃ (k:Nat) (sv:Value),a0=sv∧a1 = .int .i64 (k:Int)∧k≤l.length∧Ext w0 w∧RowI w w0.heap.size sv (selP k p)) (fun a0 a1 _=>l.length - (intOf a1).toNat) ⟨0,.slice none 0 0,rfl,rfl,Nat.zero_le _,ee,OwnE.nil _ _ _ _ _⟩ ?_
 rintro _ _ w ⟨k,sv,rfl,rfl,hk,e,hI⟩
 have se:=e.size
 rcases drop_cases hk with ⟨x,hx,hd,hlt,hdec⟩ | ⟨hk,hd,hdec⟩
 · obtain ⟨b,o,cs,rfl,hl',hA,hE⟩:=hel k x hx
   obtain ⟨tv,cv,rfl,hT,hC,ht1,hc1⟩:=hE.op
   simp (disch:=try exact DI) only [↓PR,QR,simprocAttr,hdec,↓n84c2,hA.c15 e]
   generalize hV:World.alloc w _=V
   have eV:Ext w V:=by rw [← hV];exact ee
   have sV:=eV.size
   clear hV
   rw [callV_func hg]
   simp only [Array.empty_append]
   refine zcr (hc V k x _ hx (e.trans eV) ⟨tv,cv,rfl,TermsOf.ext hT (e.trans eV),CasesOf.ext hC (e.trans eV)⟩) fun w2 e2=>?_
   have e02:=e.trans (eV.trans e2)
   have hR:=hI.ext (eV.trans e2)
   have hss:=sel_succ k p
   have hsl:=sel_len k p
   cases hp:p k with
   | false =>
    rw [hp] at hss
    simp only [Bool.false_eq_true,if_false,List.append_nil] at hss
    simp (disch:=try exact DI) only [↓PR,QR,simprocAttr,↓n84c1]
    exact ⟨⟨k+1,_,rfl,rfl,by omega,ee,by rw [hss];exact hR⟩,meas_lt (kd := .i64) hlt⟩
   | true =>
    rw [hp] at hss
    simp only [if_true] at hss
    simp (disch:=try exact DI) only [↓PR,QR,simprocAttr,↓n84c1]
    generalize hY:World.alloc w2 _=Y
    have eY:Ext w2 Y:=by rw [← hY];exact ee
    have oY:Y.heap[w2.heap.size]?=some (.cells #[.int .i64 (k:Int)] 3 (0,0)):=by rw [← hY];exact heap_new _ _ _
    clear hY
    refine append_int (k:Int) (hR.ext eY) (by rw [(cells_of_heap oY).1];rfl) (e02.trans eY).size (by omega) ?_
    intro v' w' hO' hg'
    have e':=hg'.2.1 w0 (e02.trans eY) (Nat.le_refl _)
    simp (disch:=try exact DI) only [↓PR,QR,simprocAttr]
    exact ⟨⟨k+1,v',rfl,rfl,by omega,ee,by rw [hss];exact hO'⟩,meas_lt (kd := .i64) hlt⟩
 · subst hk
   simp (disch:=try exact DI) only [↓PR,QR,simprocAttr,hdec]
   exact ⟨hI,e⟩
structure Save (lo hi:Nat) (w w':World):Prop where
 os:w'.os=w.os
 tape:w'.tape=w.tape
 output:w'.output=w.output
 size:w.heap.size≤w'.heap.size
 block:∀ k,k < w.heap.size→(k < lo∨hi≤k)→w'.heap[k]?=w.heap[k]?
section
variable {lo hi:Nat} {w w' w1 w2:World}
theorem Save.refl (lo hi:Nat) (w:World):Save lo hi w w:=⟨rfl,rfl,rfl,Nat.le_refl _,fun _ _ _=>rfl⟩
theorem Save.ext (h:Save lo hi w w1) (e:Ext w1 w2):Save lo hi w w2:=⟨e.os.trans h.os,e.tape.trans h.tape,e.output.trans h.output,Nat.le_trans h.size e.size,fun k hk hb=>(e.block k (Nat.lt_of_lt_of_le hk h.size)).trans (h.block k hk hb)⟩
theorem Save.setCell (h:Save lo hi w w1) {b o:Nat} (h1:lo≤b) (h2:b < hi) (v:Value):Save lo hi w (w1.setCell ⟨b,o,none⟩ v) :=
 ⟨h.os,h.tape,h.output,by rw [World.size_setCell];exact h.size,fun k hk hb=>(Only.setCell w1 b o v k (by omega)).trans (h.block k hk hb)⟩
theorem Save.to_ext {a:World} (h:Save lo hi w w') (e:Ext a w) (hl:a.heap.size≤lo):Ext a w':=⟨h.os.trans e.os,h.tape.trans e.tape,h.output.trans e.output,Nat.le_trans e.size h.size,fun k hk=>(h.block k (Nat.lt_of_lt_of_le hk e.size) (.inl (by omega))).trans (e.block k hk)⟩
theorem Save.obj (h:Save lo hi w w') {b:Nat} {o:Obj} (hb:w.heap[b]?=some o) (hr:b < lo∨hi≤b):w'.heap[b]?=some o:=(h.block b (Array.getElem?_eq_some_iff.1 hb).1 hr).trans hb
theorem Save.cell (h:Save lo hi w w') {b o:Nat} {v:Value} (hb:w.cell? ⟨b,o,none⟩=some v) (hr:b < lo∨hi≤b):w'.cell? ⟨b,o,none⟩=some v:=(World.cell?_of_block (h.block b (World.block_lt_of_cell? w _ hb) hr)).trans hb
theorem Save.strs (h:Save lo hi w w') {pb:Nat} {sv:Value} {l:List ByteArray} (hs:StrsAt w pb sv l) (hp:hi≤pb):StrsAt w' pb sv l:=by
 obtain ⟨h1,⟨A,c,hv,h2,h3,h4⟩,h5⟩:=hs
 refine ⟨h.cell h1 (.inr hp),⟨A,c,hv,h2,h3,fun hne=>?_⟩,h5⟩
 obtain ⟨b,o,hA,hel⟩:=h4 hne
 refine ⟨b,o,hA,fun k x hx=>?_⟩
 obtain ⟨cs,a1,a2,a3⟩:=hel k x hx
 have hb:pb < b:=h5 ⟨b,o,none⟩ _ _ (by rw [hv,hA])
 exact ⟨cs,a1,fun j v hv=>h.cell (a2 j v hv) (.inr (by omega)),a3⟩
end
theorem sl_front {α:Type} {w:World} {n:Nat} {E:World→List Value→α→Prop} {b o c:Nat} {l:List α} (h:SliceOf w n E (.slice (some ⟨b,o,none⟩) l.length c) l) {i:Nat} (hi:i≤l.length):SliceOf w n E (.slice (some ⟨b,o,none⟩) i c) (l.take i):=by
 obtain ⟨A,c',hv,h1,h2,h3⟩:=h
 injection hv with hA hv hc
 subst hA hc
 have hlen:(l.take i).length=i:=by rw [List.length_take];omega
 refine ⟨_,c,by rw [hlen],by rw [hlen];omega,h2,fun hne=>?_⟩
 obtain ⟨b',o',hA,hel⟩:=h3 (by intro e;rw [e] at hne;simp at hne)
 refine ⟨b',o',hA,fun k y hy=>hel k y ?_⟩
 rw [List.getElem?_take] at hy
 split at hy
 · exact hy
 · cases hy
theorem hits_snoc {bef:List FieldD} {ns:List ByteArray} {k:Nat} {s:ByteArray} (h:ns[k]?=some s):hitsU bef (ns.take (k+1))=hitsU bef (ns.take k)++(if bef.any (fun g=>decide (g.name=s)) then [idx (fun g=>decide (g.name=s)) bef] else []):=by
 unfold hitsU
 rw [take_snoc h,List.filterMap_append]
 congr 1
 rw [List.filterMap_cons,List.filterMap_nil]
 cases hb:bef.any (fun g=>decide (g.name=s))<;>simp
theorem hits_len {bef:List FieldD} {ns:List ByteArray}:(hitsU bef ns).length≤ns.length:=by unfold hitsU;exact List.length_filterMap_le _ _
theorem idx0_any {α:Type} {p:α→Bool} {l:List α} (h:l.any p=true):idx0 p l=idx p l:=by
 rw [← idx_neg] at h
 unfold idx0
 rw [if_neg (by simpa using h)]
theorem names_len {f:FieldD} (h:f.terms.length≤1048576):(namesU f).length≤1048576:=by
 unfold namesU
 split
 · simpa using h
 · split
   · simp
   · split<;>simp
theorem uses_nil {l:List FieldD} {k:Nat} {f:FieldD} (hf:l[k]?=some f) (hn:namesU f=[]):usesP l k=[]:=by
 unfold usesP selP
 rw [List.filter_eq_nil_iff.2]
 · rfl
 · intro i _
   unfold usesB
   rw [hf]
   simp [hn]
theorem used_tail {w0 w:World} {m:MsgD} {fv:Value} {k p2 p5:Nat} {f:FieldD} {tv cv:Value} {g:FuncId} (hk:m.fields[k]?=some f) (hF:FieldsOf w0 fv m.fields) (hb:f.terms.length≤1048576) (hT:TermsOf w0 tv f.terms) (hC:CasesOf w0 cv f.cases) (e:Ext w0 w) (hg:Callable Pg g) (ns:FieldD→List ByteArray) (hns:Names g ns) (hnu:ns f=namesU f)
 (o2:w.heap[p2]?=some (.cells (msgCells m fv).toArray 24 (0,0))) (o5:w.heap[p5]?=some (.cells (fieldCells f tv cv).toArray 48 (0,0))) :
 n79c4 (.int .i64 (k:Int)) (.pointer (some ⟨p2,0,none⟩)) (.pointer (some ⟨p5,0,none⟩)) (.func (.func g) #[] #[]) (retR fun r w'=>RowI w' w0.heap.size r (usesP m.fields k)∧Ext w0 w') w:=by
 have hkl:=(List.getElem?_eq_some_iff.1 hk).1
 obtain ⟨b,o,c,rfl,_,hcm,_,_,_⟩:=open1 hF hk
 have hlen:(m.fields.take k).length=k:=by rw [List.length_take];omega
 have hpre:=sl_front hF (i:=k) (by omega)
 have ht1:=SliceOf.oneCell hT
 have hc1:=SliceOf.oneCell hC
 have e00:=Ext.refl w
 unfold n79c4
 simp (disch:=try exact DI) only [↓PR,QR,simprocAttr,(cells_of_heap o2).1]
 rw [op_sliceTo Tryz.underlying22 ty48 b o m.fields.length c .i64 k (by omega)]
 have eq1:Ext w (w.alloc (.cells #[.string ByteArray.empty,.slice (some ⟨b,o,none⟩) k c] 24)):=ee
 simp (disch:=try exact DI) only [↓PR,QR,simprocAttr,(cells_of_heap (eq1.obj o5)).1]
 have o9:=heap_new w #[.string ByteArray.empty,.slice (some ⟨b,o,none⟩) k c] 24
 generalize (w.alloc (.cells #[.string ByteArray.empty,.slice (some ⟨b,o,none⟩) k c] 24))=V at eq1 o9 ⊢
 generalize w.heap.size=p9 at o9 ⊢
 have E1:=e.trans eq1
 rw [callV_func hg]
 simp only [Array.empty_append,Array.append_empty]
 refine callK_ret (hns V _ f ⟨tv,cv,rfl,hT.ext E1,hC.ext E1⟩ hb) ?_
 rintro nv W ⟨hN,e2⟩
 have E2:=E1.trans e2
 have s2:=E2.size
 rw [hnu] at hN
 obtain ⟨An,cn,rfl,hlcn,hcmn,hlmn,heln⟩:=SliceOf.open hN
 have x9:=e2.obj o9
 have hnl:=names_len hb
 have hus:=uses_sorted hk
 generalize namesU f=nl at *
 simp (disch:=try exact DI) only [↓PR,QR,simprocAttr]
 refine loop2_intro (fun a0 a1 wx=>∃ (kx:Nat) (sv:Value),a0=sv∧a1 = .int .i64 (kx:Int)∧kx≤nl.length∧Ext W wx∧RowI wx W.heap.size sv (hitsU (m.fields.take k) (nl.take kx))) (fun a0 a1 _=>nl.length - (intOf a1).toNat) ⟨0,.slice none 0 0,rfl,rfl,Nat.zero_le _,ee,OwnE.nil _ _ _ _ _⟩ ?_
 rintro _ _ wx ⟨kx,sv,rfl,rfl,hkx,ex,hIx⟩
 have sex:=ex.size
 rcases drop_cases hkx with ⟨xx,hxx,hdx,hltx,hdecx⟩ | ⟨hkx,hdx,hdecx⟩
 · obtain ⟨b',o',cs,rfl,hl',hA,rfl⟩:=heln kx xx hxx
   have hA':=hA.ext ex
   simp (disch:=try exact DI) only [↓PR,QR,simprocAttr,hdecx,↓n79c3,↓n79c2,(cells_of_heap (ex.obj x9)).1,hA'.c1 (Ext.refl _)]
   refine zcr (Field_ret wx _ ⟨ByteArray.empty,m.fields.take k⟩ xx ⟨_,rfl,by have:=FieldsOf.ext hpre (E2.trans ex);rw [hlen] at *;exact this⟩) fun w3 e3=>?_
   have hss:=hits_snoc (bef:=m.fields.take k) hxx
   have hsl:=hits_len (bef:=m.fields.take k) (ns:=nl.take kx)
   rw [List.length_take] at hsl
   have hR:=hIx.ext e3
   have s3:=(ex.trans e3).size
   dsimp only
   cases hp:(m.fields.take k).any (fun g=>decide (g.name=xx)) with
   | false =>
    rw [hp] at hss
    simp only [Bool.false_eq_true,if_false,List.append_nil] at hss
    simp (disch:=try exact DI) only [↓PR,QR,simprocAttr,↓n79c1]
    exact ⟨⟨kx+1,_,rfl,rfl,by omega,ee,by rw [hss];exact hR⟩,meas_lt (kd := .i64) hltx⟩
   | true =>
    rw [hp] at hss
    simp only [if_true] at hss
    rw [idx0_any hp]
    simp (disch:=try exact DI) only [↓PR,QR,simprocAttr,↓n79c1]
    generalize hY:World.alloc w3 _=Y
    have eY:Ext w3 Y:=by rw [← hY];exact ee
    have oY:Y.heap[w3.heap.size]?=some (.cells #[.int .i64 (idx (fun g=>decide (g.name=xx)) (m.fields.take k))] 3 (0,0)):=by rw [← hY];exact heap_new _ _ _
    clear hY
    refine append_int _ (hR.ext eY) (by rw [(cells_of_heap oY).1];rfl) (by have:=eY.size;omega) (by omega) ?_
    intro v' w' hO' hg'
    have e':=hg'.2.1 W ((ex.trans e3).trans eY) (Nat.le_refl _)
    simp (disch:=try exact DI) only [↓PR,QR,simprocAttr]
    exact ⟨⟨kx+1,v',rfl,rfl,by omega,ee,by rw [hss];exact hO'⟩,meas_lt (kd := .i64) hltx⟩
 · subst hkx
   simp (disch:=try exact DI) only [↓PR,QR,simprocAttr,hdecx,↓n79c3]
   rw [List.take_length] at hIx
   have hsl:=hits_len (bef:=m.fields.take k) (ns:=nl)
   refine callK_ret (Sort_ret hIx (by omega)) ?_
   rintro _ w4 ⟨rfl,hR4,g4⟩
   refine callK_ret (Compact_ret hR4 (by rw [List.length_mergeSort];omega)) ?_
   rintro r w5 ⟨hR5,g5⟩
   rw [hus] at hR5
   exact ⟨r,rfl,hR5.base s2,E2.trans ((g4.trans g5).2.1 W ex (Nat.le_refl _))⟩
def toB (l:List MsgD) (k i:Nat):Bool:=match l[k]? with
 | some m=>(refsM m).any fun s=>idx (fun x=>decide (x.name=s)) l == (i:Int)
 | none=>false
def toP (l:List MsgD) (k:Nat):List Int:=selP k (toB l k)
theorem fine_idx {l:List MsgD} (h:Fine l) {k:Nat} {m:MsgD} (hk:l[k]?=some m) {s:ByteArray} (hs:s∈refsM m):∃ (i:Nat) (m':MsgD),i < k∧l[i]?=some m'∧m'.name=s∧idx (fun x=>decide (x.name=s)) l=i∧idx (fun x=>decide (x.name=s)) (l.take k)=i:=by
 obtain ⟨i,m',h1,h2,h3,h4,_⟩:=h.refs hk hs
 refine ⟨i,m',h1,h2,h3,idx_here h2 (by simpa using h3) fun j y hj hy=>by simpa using h4 j y hj hy,idx_here (x:=m') (by rw [List.getElem?_take,if_pos h1];exact h2) (by simpa using h3) fun j y hj hy=>?_⟩
 rw [List.getElem?_take,if_pos (by omega)] at hy
 simpa using h4 j y hj hy
theorem to_lt {l:List MsgD} (h:Fine l) {k i:Nat} (ht:toB l k i=true):i < k∧k < l.length:=by
 unfold toB at ht
 cases hk:l[k]? with
 | none=>rw [hk] at ht;cases ht
 | some m =>
  rw [hk] at ht
  simp only [List.any_eq_true,beq_iff_eq] at ht
  obtain ⟨s,hs,he⟩:=ht
  obtain ⟨j,_,hj,_,_,hi,_⟩:=fine_idx h hk hs
  exact ⟨by omega,(List.getElem?_eq_some_iff.1 hk).1⟩
section
variable {l:List MsgD} {s:Nat}
def reachN (l:List MsgD) (s:Nat):Nat→Nat→Bool
 | 0,i=>i == s
 | t+1,i=>reachN l s t i||(reachN l s t (l.length - 1 - t)&&toB l (l.length - 1 - t) i)
def reachB (l:List MsgD) (s i:Nat):Bool:=reachN l s l.length i
def reachP (l:List MsgD) (s:Nat):List Int:=selP l.length (reachB l s)
theorem reachN_skip (h:Fine l):∀ t,t≤l.length - 1 - s→∀ i,reachN l s t i=(i == s)
 | 0,_,i=>rfl
 | t+1,ht,i=>by
  have ih:=reachN_skip h t (by omega)
  unfold reachN
  rw [ih,ih]
  have:(l.length - 1 - t == s)=false:=by simp;omega
  rw [this,Bool.false_and,Bool.or_false]
theorem reachN_stay (h:Fine l) {i:Nat}:∀ u t,l.length - 1 - t≤i→reachN l s (t+u) i=reachN l s t i
 | 0,t,_=>rfl
 | u+1,t,ht=>by
  rw [← Nat.add_assoc,reachN,reachN_stay h u t ht]
  cases hb:toB l (l.length - 1 - (t+u)) i with
  | false=>rw [Bool.and_false,Bool.or_false]
  | true=>have:=to_lt h hb;omega
theorem reach_stay (h:Fine l) {i t:Nat} (ht:l.length - 1 - t≤i) (htl:t≤l.length):reachB l s i=reachN l s t i:=by
 unfold reachB
 have:=reachN_stay (s:=s) h (i:=i) (l.length - t) t ht
 rw [show t+(l.length - t)=l.length by omega] at this
 exact this
theorem reachN_mono:∀ (u t i:Nat),reachN l s t i=true→reachN l s (t+u) i=true
 | 0,_,_,h=>h
 | u+1,t,i,h=>by rw [← Nat.add_assoc,reachN,reachN_mono u t i h,Bool.true_or]
theorem reach_start (hs:s < l.length):reachB l s s=true:=by
 have:=reachN_mono (l:=l) (s:=s) l.length 0 s (by unfold reachN;simp)
 rwa [Nat.zero_add] at this
theorem reach_more (h:Fine l) {k i:Nat} (hr:reachB l s k=true) (ht:toB l k i=true):reachB l s i=true:=by
 obtain ⟨h1,h2⟩:=to_lt h ht
 rw [reach_stay h (t:=l.length - 1 - k) (by omega) (by omega)] at hr
 have h3:reachN l s (l.length - 1 - k+1) i=true:=by
  rw [reachN,show l.length - 1 - (l.length - 1 - k)=k by omega,hr,ht];simp
 have:=reachN_mono (l:=l) (s:=s) k _ i h3
 rw [show l.length - 1 - k+1+k=l.length by omega] at this
 exact this
theorem reach_from (h:Fine l):∀ (t i:Nat),t≤l.length→reachN l s t i=true→i=s∨∃ k,reachB l s k=true∧toB l k i=true
 | 0,i,_,hr=>by unfold reachN at hr;simp only [beq_iff_eq] at hr;exact .inl hr
 | t+1,i,ht,hr=>by
  unfold reachN at hr
  simp only [Bool.or_eq_true,Bool.and_eq_true] at hr
  rcases hr with hr | ⟨h1,h2⟩
  · exact reach_from h t i (by omega) hr
  · exact .inr ⟨_,by rw [reach_stay h (Nat.le_refl _) (by omega)];exact h1,h2⟩
def refsI (l:List MsgD) (k:Nat):List Int:=match l[k]? with
 | some m=>(refsM m).map fun s=>idx (fun x=>decide (x.name=s)) l
 | none=>[]
theorem mem_refsI {k i:Nat}:(i:Int)∈refsI l k↔toB l k i=true:=by
 unfold refsI toB
 cases l[k]? with
 | none=>simp
 | some m=>simp only [List.mem_map,List.any_eq_true,beq_iff_eq]
theorem refsI_lt (h:Fine l) {k:Nat} {x:Int} (hx:x∈refsI l k):0≤x∧x < k:=by
 unfold refsI at hx
 cases hk:l[k]? with
 | none=>rw [hk] at hx;cases hx
 | some m =>
  rw [hk] at hx
  simp only [List.mem_map] at hx
  obtain ⟨s,hs,rfl⟩:=hx
  obtain ⟨i,_,hi,_,_,he,_⟩:=fine_idx h hk hs
  omega
def minI' (a b:Int):Int:=if b < a then b else a
def distS (to:Nat) (l:List MsgD) (ds:List Int) (k:Nat):Int:=if k=to then 0 else (refsI l k).foldl (fun n x=>minI' n (1+(ds[x.toNat]?).getD 1000)) 1000
def distL (to:Nat) (l:List MsgD):Nat→List Int
 | 0=>[]
 | k+1=>distL to l k++[distS to l (distL to l k) k]
def dN (to:Nat) (l:List MsgD) (k:Nat):Int:=distS to l (distL to l k) k
theorem distL_len (to:Nat):∀ k,(distL to l k).length=k
 | 0=>rfl
 | k+1=>by unfold distL;rw [List.length_append,distL_len to k];rfl
theorem distL_get (to:Nat):∀ (n k:Nat),k < n→(distL to l n)[k]?=some (dN to l k)
 | 0,k,h=>by omega
 | n+1,k,h=>by
  unfold distL
  by_cases hk:k=n
  · subst hk
    rw [List.getElem?_append_right (by rw [distL_len];exact Nat.le_refl _),distL_len,Nat.sub_self];rfl
  · rw [List.getElem?_append_left (by rw [distL_len];omega)]
    exact distL_get to n k (by omega)
theorem minI_le (a b:Int):minI' a b≤a∧minI' a b≤b∧(minI' a b=a∨minI' a b=b):=by unfold minI';split<;>omega
theorem fold_min (g:Int→Int):∀ (xs:List Int) (n:Int),xs.foldl (fun n x=>minI' n (g x)) n≤n∧(∀ x∈xs,xs.foldl (fun n x=>minI' n (g x)) n≤g x)∧(xs.foldl (fun n x=>minI' n (g x)) n=n∨∃ x∈xs,xs.foldl (fun n x=>minI' n (g x)) n=g x)
 | [],n=>⟨Int.le_refl _,fun x h=>(by cases h),.inl rfl⟩
 | x::xs,n=>by
  obtain ⟨h1,h2,h3⟩:=fold_min g xs (minI' n (g x))
  obtain ⟨a1,a2,a3⟩:=minI_le n (g x)
  simp only [List.foldl_cons]
  refine ⟨by omega,fun y hy=>?_,?_⟩
  · rcases List.mem_cons.1 hy with rfl | hy
    · omega
    · exact h2 y hy
  · rcases h3 with h3 | ⟨y,hy,h3⟩
    · rcases a3 with a3 | a3
      · exact .inl (h3.trans a3)
      · exact .inr ⟨x,List.mem_cons_self ..,h3.trans a3⟩
    · exact .inr ⟨y,List.mem_cons_of_mem _ hy,h3⟩
variable {to:Nat}
theorem dN_to:dN to l to=0:=by unfold dN distS;rw [if_pos rfl]
theorem dN_fold {k:Nat} (hk:k≠to):dN to l k=(refsI l k).foldl (fun n x=>minI' n (1+((distL to l k)[x.toNat]?).getD 1000)) 1000:=by unfold dN distS;rw [if_neg hk]
theorem dN_le (h:Fine l) {k i:Nat} (ht:toB l k i=true):dN to l k≤1+dN to l i∨k=to:=by
 by_cases hk:k=to
 · exact .inr hk
 · have:=(fold_min (fun x=>1+((distL to l k)[x.toNat]?).getD 1000) (refsI l k) 1000).2.1 i (mem_refsI.2 ht)
   rw [← dN_fold hk,Int.toNat_natCast,distL_get to k i (to_lt h ht).1] at this
   exact .inl this
theorem dN_ge (h:Fine l):∀ (n k:Nat),k < n→0≤dN to l k∧(k≠to→1≤dN to l k)
 | 0,k,hk=>by omega
 | n+1,k,hk=>by
  by_cases ht:k=to
  · subst ht;rw [dN_to];exact ⟨Int.le_refl _,fun h=>absurd rfl h⟩
  · have key:1≤dN to l k:=by
     rcases (fold_min (fun x=>1+((distL to l k)[x.toNat]?).getD 1000) (refsI l k) 1000).2.2 with h1 | ⟨x,hx,h1⟩
     · rw [← dN_fold ht] at h1;omega
     · rw [← dN_fold ht] at h1
       obtain ⟨a,b⟩:=refsI_lt h hx
       have:=(dN_ge h n x.toNat (by omega)).1
       rw [distL_get to k x.toNat (by omega)] at h1
       simp only [Option.getD_some] at h1
       omega
    exact ⟨by omega,fun _=>key⟩
theorem dN_pos (h:Fine l) (k:Nat):0≤dN to l k:=(dN_ge h (k+1) k (by omega)).1
theorem dN_zero (h:Fine l) {k:Nat}:dN to l k=0↔k=to:=by
 constructor
 · intro h0
   apply Classical.byContradiction
   intro hk
   have:=(dN_ge (to:=to) h (k+1) k (by omega)).2 hk
   omega
 · rintro rfl;exact dN_to
theorem dN_next (h:Fine l) {k:Nat} (hk:k≠to) (hf:dN to l k < 1000):∃ i,toB l k i=true∧dN to l i=dN to l k - 1:=by
 rcases (fold_min (fun x=>1+((distL to l k)[x.toNat]?).getD 1000) (refsI l k) 1000).2.2 with h1 | ⟨x,hx,h1⟩
 · rw [← dN_fold hk] at h1;omega
 · rw [← dN_fold hk] at h1
   obtain ⟨a,b⟩:=refsI_lt h hx
   rw [distL_get to k x.toNat (by omega)] at h1
   simp only [Option.getD_some] at h1
   refine ⟨x.toNat,mem_refsI.1 (by rw [Int.toNat_of_nonneg a];exact hx),by omega⟩
theorem dN_up (h:Fine l):∀ (n i:Nat),l.length - i≤n→reachB l s i=true→∀ c:Int,dN to l i≤c→i < l.length→dN to l s≤c+(s - i)
 | 0,i,hn,_,c,_,hi=>by omega
 | n+1,i,hn,hr,c,hc,hi=>by
  rcases reach_from h l.length i (Nat.le_refl _) hr with rfl | ⟨k,h1,h2⟩
  · omega
  · obtain ⟨h3,h4⟩:=to_lt h h2
    have hk:dN to l k≤c+(k - i):=by
     rcases dN_le (to:=to) h h2 with h5 | h5
     · omega
     · subst h5;rw [dN_to];have:=dN_pos (to:=k) h i;omega
    have:=dN_up h n k (by omega) h1 _ hk h4
    omega
theorem reach_down (h:Fine l) (hs:s < l.length):∀ (n:Nat) (k:Nat),k < n→reachB l s k=true→dN to l k < 1000→reachB l s to=true
 | 0,k,hk,_,_=>by omega
 | n+1,k,hk,hr,hf=>by
  by_cases he:k=to
  · subst he;exact hr
  · obtain ⟨i,h1,h2⟩:=dN_next h he hf
    exact reach_down h hs n i (by have:=(to_lt h h1).1;omega) (reach_more h hr h1) (by omega)
theorem reach_dist (h:Fine l) (hs:s < l.length) (hto:to < l.length) (hl:l.length≤900):reachB l s to=true↔dN to l s < 1000:=by
 constructor
 · intro hr
   have:=dN_up (to:=to) h l.length to (by omega) hr 0 (by rw [dN_to];exact Int.le_refl _) hto
   omega
 · exact reach_down h hs (s+1) s (by omega) (reach_start hs)
def nextK (to:Nat) (l:List MsgD) (k:Nat):Nat:=(((List.range k).find? fun i=>toB l k i&&(dN to l i == dN to l k - 1))).getD 0
theorem next_spec (h:Fine l) {k:Nat} (hk:k≠to) (hf:dN to l k < 1000):toB l k (nextK to l k)=true∧dN to l (nextK to l k)=dN to l k - 1∧∀ i,i < nextK to l k→toB l k i=true→dN to l i≠dN to l k - 1:=by
 obtain ⟨i,h1,h2⟩:=dN_next h hk hf
 have hik:=(to_lt h h1).1
 cases hf':(List.range k).find? fun i=>toB l k i&&(dN to l i == dN to l k - 1) with
 | none =>
  rw [List.find?_eq_none] at hf'
  have:=hf' i (List.mem_range.2 hik)
  simp [h1,h2] at this
 | some j =>
  have hn:nextK to l k=j:=by unfold nextK;rw [hf'];rfl
  rw [hn]
  have hp:=List.find?_some hf'
  simp only [Bool.and_eq_true,beq_iff_eq] at hp
  refine ⟨hp.1,hp.2,fun i hi hti he=>?_⟩
  obtain ⟨_,l1,l2,hab,hno⟩:=List.find?_eq_some_iff_append.1 hf'
  have hjl:j < k:=List.mem_range.1 (List.mem_of_find?_eq_some hf')
  have hmem:i∈l1:=by
   have hi':(List.range k)[i]?=some i:=by rw [List.getElem?_range (by omega)]
   have hj':l1.length=j:=by
    have hl:(List.range k)[l1.length]?=some j:=by rw [hab,List.getElem?_append_right (Nat.le_refl _),Nat.sub_self];rfl
    have hlt:=(List.getElem?_eq_some_iff.1 hl).1
    rw [List.getElem?_range (by simpa using hlt)] at hl
    injection hl
   rw [hab,List.getElem?_append_left (by omega)] at hi'
   exact List.mem_of_getElem? hi'
  have:=hno i hmem
  simp [hti,he] at this
def pk (to:Nat) (l:List MsgD) (s:Nat):Nat→Nat
 | 0=>s
 | j+1=>nextK to l (pk to l s j)
def preP (to:Nat) (l:List MsgD) (s j:Nat):List Int:=(List.range (j+1)).map fun i=>(pk to l s i:Int)
def pathP (to:Nat) (l:List MsgD) (s:Nat):List Int:=preP to l s (dN to l s).toNat
theorem pre_succ (j:Nat):preP to l s (j+1)=preP to l s j++[(pk to l s (j+1):Int)]:=by unfold preP;rw [List.range_succ,List.map_append];rfl
theorem pre_len (j:Nat):(preP to l s j).length=j+1:=by unfold preP;simp
theorem pk_dist (h:Fine l) (hf:dN to l s < 1000):∀ j:Nat,(j:Int)≤dN to l s→dN to l (pk to l s j)=dN to l s - j
 | 0,_=>by unfold pk;omega
 | j+1,hj=>by
  have ih:=pk_dist h hf j (by omega)
  have hne:pk to l s j≠to:=fun he=>by rw [he,dN_to] at ih;omega
  have:=(next_spec h hne (by omega)).2.1
  unfold pk
  omega
theorem pk_to (h:Fine l) (hf:dN to l s < 1000) {j:Nat} (hj:(j:Int) < dN to l s):toB l (pk to l s j) (pk to l s (j+1))=true:=by
 have ih:=pk_dist h hf j (by omega)
 have hne:pk to l s j≠to:=fun he=>by rw [he,dN_to] at ih;omega
 exact (next_spec h hne (by omega)).1
theorem pk_lt (h:Fine l) (hs:s < l.length) (hf:dN to l s < 1000):∀ j:Nat,(j:Int)≤dN to l s→pk to l s j < l.length
 | 0,_=>hs
 | j+1,hj=>by
  have h1:=to_lt h (pk_to h hf (j:=j) (by omega))
  omega
end
end Go.Proofs.YtfjjgjjlebllmaaGreat
namespace Go.Sw
open Go.RowKit (Below)
theorem OwnE.grown {α:Type} {w w':World} {lo n:Nat} {T:TypeId} {enc:α→List Value} {v:Value} {l:List α} {row:Option Nat} (h:OwnE w lo T n enc v l) (hg:w.grownBy w' row) (hne:∀ b,v.ownBlock=some b→row≠some b):OwnE w' lo T n enc v l:=by
 obtain ⟨h1,h2⟩:=h
 refine ⟨h1,?_⟩
 rcases h2 with h2 | ⟨g,cap,cur,hv,hb,hc,h3⟩
 · exact .inl h2
 · refine .inr ⟨g,cap,cur,hv,hb,?_,h3⟩
   rw [hg.block g (Array.getElem?_eq_some_iff.1 hc).1 (fun e=>hne g (by rw [hv];rfl) e.symm)]
   exact hc
end Go.Sw
namespace Go.Proofs.YtfjjgjjlebllmaaGreat
open Sw
def n77c1 (t16 t36 t39 t45 t50:Value) (next2:KV) (R:RT) (w:World):Prop :=
 pickK t45 (.bool true) t50 fun t51 =>
 X0 93 t16 t39 R w fun t52 w =>
 opU Pg (Instr.storeAt 4 t52 t51) (panK R) w fun w =>
 B0 .add 3 true t36 (.int .i64 1) R w fun t53 w =>
 next2 t53 w
def n77c2 (t7 t16 t34 t36:Value) (next2:KV) (R:RT) (w:World):Prop :=
 X0 30 t34 t36 R w fun t38 w =>
 L0 3 t38 R w fun t39 w =>
 X0 93 t16 t39 R w fun t44 w =>
 L0 4 t44 R w fun t45 w =>
 joinK (fun (t50:Value) (w:World) =>
 n77c1 t16 t36 t39 t45 t50 next2 R w) fun K3 =>
 guardP t45 false (
 X0 93 t16 t7 R w fun t49 w =>
 L0 4 t49 R w fun t50 w =>
 K3 t50 w) (
 K3 undef w)
def n77c3 (t7 t16 t34 t35 t36:Value) (next1:KV) (next2:KV) (R:RT) (w:World):Prop :=
 B0 .lss 3 false t36 t35 R w fun t37 w =>
 condP t37 (
 n77c2 t7 t16 t34 t36 next2 R w) (
 B0 .sub 3 true t7 (.int .i64 1) R w fun t31 w =>
 next1 t31 w)
def n77c4 (t1 t7 t16:Value) (next1:KV) (R:RT) (w:World):Prop :=
 L0 28 t1 R w fun t32 w =>
 C0 56 #[t32,t7] R w fun t34 w =>
 opV Pg (Builtin.len_ #[30] 3 #[t34]) (panK R) w fun t35 w =>
 loop1 (fun t36 w next2 =>
 n77c3 t7 t16 t34 t35 t36 next1 next2 R w) (.int .i64 0) w
def n77c5 (t1 t16 t21:Value) (R:RT) (w:World):Prop :=
 opV Pg (Instr.extract t21 0) (panK R) w fun t22 w =>
 opV Pg (Instr.extract t21 1) (panK R) w fun t23 w =>
 X0 93 t16 t22 R w fun t26 w =>
 opU Pg (Instr.storeAt 4 t26 (.bool true)) (panK R) w fun w =>
 loop1 (fun t7 w next1 =>
 B0 .geq 3 true t7 (.int .i64 0) R w fun t29 w =>
 condP t29 (
 n77c4 t1 t7 t16 next1 R w) (
 R (.returned (.tuple #[t16,(.int .i64 0)])) w)) t22 w
def n77c6 (t1:Value) (R:RT) (w:World):Prop :=
 F0 28 t1 1 R w fun t13 w =>
 L0 26 t13 R w fun t14 w =>
 opV Pg (Builtin.len_ #[26] 3 #[t14]) (panK R) w fun t15 w =>
 opV Pg (Instr.makeSlice 93 t15 t15) (panK R) w fun t16 w =>
 L0 28 t1 R w fun t18 w =>
 F0 28 t1 2 R w fun t19 w =>
 L0 9 t19 R w fun t20 w =>
 C0 31 #[t18,t20] R w fun t21 w =>
 n77c5 t1 t16 t21 R w
def n77 (t0:Value) (R:RT) (w:World):Prop :=
 opV Pg (Instr.box 28 t0) (panK R) w fun t1 w =>
 L0 28 t1 R w fun t10 w =>
 C0 29 #[t10] R w fun t11 w =>
 opV Pg (Op.unary .not t11) (panK R) w fun t12 w =>
 condP t12 (
 R (.returned (.tuple #[(Value.slice none 0 0),(.int .i64 2)])) w) (
 n77c6 t1 R w)
theorem n77s {t0:Value} {R:RT} {w:World} (h:n77 t0 R w):Calls Pg 55 #[t0] w R:=by
 refine yD Tryz.func55 ?_
 refine zs<|zr<|yv h fun _ w h=>zm<|zm<|zn<|zk<|zs<|zs<|zr<|yv h fun _ w h=>yc h c29 fun _ w h=>yv h fun _ w h=>zn<|zk ?_
 refine yC h (fun h=>zs<|zr<|zm<|zm<|zn<|zk<|sim_ret<|sim_then_ret<|body_ret2 rfl rfl rfl h) fun h=>sim_skip<|zk<|zs<|zr<|yv h fun _ w h=>yv h fun _ w h=>yx h fun _ w h=>yv h fun _ w h=>zm<|zn<|zk<|zs<|zr ?_
 refine yv h fun _ w h=>yv h fun _ w h=>yv h fun _ w h=>yc h c31 fun _ w h=>zm<|yv h fun _ w h=>yv h fun _ w h=>zm<|zm<|zn<|zk<|zs<|zr<|zm<|zm ?_
 refine yv h fun _ w h=>yu h fun w h=>zn<|zk<|zs<|zs<|zr<|zm<|zm<|zn<|zk<|sim_block<|yl1 [7,9,28,29,30,31,32,33,34,35,36,37,38,39,40,41,42,43,44,45,46,47,48,49,50,51,52,53] 7 h fun σ w next h=>zs<|zs ?_
 refine zr<|zm<|yb h fun _ w h=>zn<|zk<|yC h (fun h=>?_) fun h=>?_
 · refine sim_skip<|zk<|zs<|sim_block<|zs<|zr<|yv h fun _ w h=>zm<|yc h c56 fun _ w h=>yx h fun _ w h=>zm<|zn<|zk<|sim_block<|yl1 [9,36,37,38,39,40,41,42,43,44,45,46,47,48,49,50,51,52,53] 36 h fun σ w next h=>?_
   refine zs<|zr<|yb h fun _ w h=>zn<|zk<|zs<|yC h (fun h=>?_) fun h=>?_
   · refine sim_skip<|zk<|zs<|sim_block<|zs<|zr<|yv h fun _ w h=>yv h fun _ w h=>zm<|zn<|zk<|sim_regionG<|yG 7<|zm<|zm ?_
     refine zm<|zm<|yv h fun _ w h=>yv h fun _ w h=>zm<|zn<|yg1 4 6 false [47,48,49,50] 50 h (fun _ T hT h=>?_) fun σ w h=>?_
     · refine zm<|zm<|yv h fun _ w h=>yv h fun _ w h=>zn ?_
       exact zt hT h
     exact yG 3<|yp h fun _ h=>yv h fun _ w h=>yu h fun w h=>zn<|sim_end<|sim_block_normal<|zk<|zr<|yb h fun _ w h=>zm<|zn<|zk<|⟨rfl,h⟩
   exact sim_exit<|sim_then_exit<|sim_then_exit<|sim_block_hit<|sim_block_normal<|zk<|zr<|zm<|yb h fun _ w h=>zm<|zn<|zk<|⟨rfl,h⟩
 exact sim_exit<|sim_then_exit<|sim_then_exit<|sim_block_hit<|zk<|zs<|zr<|zm<|zm<|zm<|zn<|zk<|sim_ret<|body_ret2 rfl rfl rfl h
def n78c1 (t5 t19:Value) (Kr1:World→Prop) (Qr1:List PanicEntry→World→Prop) (R:RT) (w:World):Prop :=
 opV Pg (Instr.extract t19 0) Qr1 w fun t20 w =>
 opV Pg (Instr.extract t19 1) Qr1 w fun t21 w =>
 opV Pg (Instr.loadAt 30 t5) Qr1 w fun t22 w =>
 opV Pg (Instr.buildSlice 30 1 #[(0,t20)]) Qr1 w fun t24 w =>
 opV Pg (Builtin.append_ #[30,30] 30 #[t22,t24]) Qr1 w fun t25 w =>
 opU Pg (Instr.storeAt 30 t5 t25) Qr1 w fun w =>
 Kr1 w
def n78c2 (t5:Value) (ds:List Deferred) (R:RT) (w:World):Prop :=
 opV Pg (Instr.loadAt 30 t5) (outQ Pg ds [(none,(Value.slice none 0 0))] R) w fun t26 w =>
 callK Pg 83 #[t26] (outQ Pg ds [(none,(Value.slice none 0 0))] R) w fun t27 w =>
 opV Pg (Instr.loadAt 30 t5) (outQ Pg ds [(none,(Value.slice none 0 0))] R) w fun t28 w =>
 outX Pg ds [(none,t28)] R w
def n78c3 (t2 t5 t14:Value) (ds:List Deferred) (R:RT) (w:World):Prop :=
 rangeN Pg t14 ds (fun l1 t15 w Kr1 Xr1 Qr1 =>
 busyK l1 w fun w =>
 opV Pg (Instr.loadAt 28 t2) Qr1 w fun t17 w =>
 callK Pg 31 #[t17,t15] Qr1 w fun t19 w =>
 n78c1 t5 t19 Kr1 Qr1 R w) (fun ch ds w=>outQ Pg ds [(none,(Value.slice none 0 0))] R ch w) w (fun ds w =>
 n78c2 t5 ds R w) []
def n78 (t0 t1:Value) (R:RT) (w:World):Prop :=
 (fun (ds:List Deferred) =>
 opV Pg (Instr.box 28 t0) (outQ Pg ds [(none,undef)] R) w fun t2 w =>
 opV Pg (Instr.alloc 30 true (.tuple #[])) (outQ Pg ds [(none,(Value.slice none 0 0))] R) w fun t5 w =>
 opV Pg (Instr.fieldAt 28 t2 1) (outQ Pg ds [(none,(Value.slice none 0 0))] R) w fun t9 w =>
 opV Pg (Instr.loadAt 26 t9) (outQ Pg ds [(none,(Value.slice none 0 0))] R) w fun t10 w =>
 opV Pg (Instr.indexAt 26 t10 t1) (outQ Pg ds [(none,(Value.slice none 0 0))] R) w fun t12 w =>
 opV Pg (Instr.loadAt 24 t12) (outQ Pg ds [(none,(Value.slice none 0 0))] R) w fun t13 w =>
 callK Pg 32 #[t13] (outQ Pg ds [(none,(Value.slice none 0 0))] R) w fun t14 w =>
 n78c3 t2 t5 t14 ds R w) []
theorem n78s {t0 t1:Value} {R:RT} {w:World} (h:n78 t0 t1 R w):Calls Pg 56 #[t0,t1] w R:=by
 refine yE Tryz.func56 ?_
 unfold n78 at h
 dsimp only at h
 refine zs<|zr<|yv h fun _ w h=>zm<|zn<|zk<|zs<|zr<|yv h fun _ w h=>zn<|zk<|zs<|zs<|zr<|yv h fun _ w h=>?_
 refine yv h fun _ w h=>zm<|yv h fun _ w h=>yv h fun _ w h=>yc h c32 fun _ w h=>zn<|zk<|sim_block<|sim_range [] h rfl (fun l1 t15 w Kr1 Xr1 Qr1 h=>?_) (fun ds w h=>?_) (fun c ds w h=>?_) (fun ch ds w h=>outQ_of rfl h)
 · refine zr<|zm<|zn<|zk ?_
   obtain ⟨hr,h⟩:=h
   refine ⟨rfl,hr,fun w hb=>?_⟩
   have h:=h w hb
   refine sim_block<|zs<|zr<|yv h fun _ w h=>zm<|yc h c31 fun _ w h=>zm<|yv h fun _ w h=>yv h fun _ w h=>zm<|zm<|zn<|zk<|zr<|yv h fun _ w h=>?_
   exact zm<|yS h fun _ w h=>yx h fun _ w h=>yu h fun w h=>zn<|sim_block_normal<|⟨rfl,h⟩
 · refine sim_block_normal<|zk<|zs<|zr<|yv h fun _ w h=>yc h c83 fun _ w h=>zn<|zk<|zs<|zr<|yv h fun _ w h=>zm<|zn<|zk<|sim_ret ?_
   exact bodyM_ret rfl h
 exact h.elim
open Go.RowKit (intOf Below)
theorem mem_dedup:∀ (l seen:List ByteArray) (s:ByteArray),s∈dedupA seen l↔s∈l∧s ∉ seen
 | [],seen,s=>by simp [dedupA]
 | a::l,seen,s=>by
  simp only [dedupA]
  by_cases h:(seen.any fun y=>decide (a=y))=true
  · rw [if_pos h,mem_dedup l]
    have ha:a∈seen:=by obtain ⟨y,h1,h2⟩:=List.any_eq_true.1 h;simp at h2;subst h2;exact h1
    simp only [List.mem_append,List.mem_singleton,List.mem_cons,not_or]
    constructor
    · rintro ⟨h1,h2,h3⟩;exact ⟨.inr h1,h2⟩
    · rintro ⟨h1 | h1,h2⟩
      · subst h1;exact absurd ha h2
      · exact ⟨h1,h2,⟨fun (e:s=a)=>h2 (e ▸ ha),by simp⟩⟩
  · rw [if_neg h]
    have ha:a ∉ seen:=fun h2=>h (List.any_eq_true.2 ⟨a,h2,by simp⟩)
    simp only [List.mem_cons,mem_dedup l,List.mem_append,List.mem_singleton,not_or]
    by_cases e:s=a
    · subst e;simp [ha]
    · simp [e]
theorem append_intG {w:World} {QP:List PanicEntry→World→Prop} {k:Value→World→Prop} {base b:Nat} {v:Value} {l:List Int} (n:Int) (h:RowI w base v l) (hc:w.cell? ⟨b,0,none⟩=some (.int .i64 n)) (hb:base≤w.heap.size) (hl:l.length≤1048576) (hk:∀ v' w',RowI w' base v' (l++[n])→w.grownBy w' v.ownBlock→k v' w') :
 opV Pg (Builtin.append_ #[30,30] 30 #[v,.slice (some ⟨b,0,none⟩) 1 1]) QP w k:=by
 refine op_appendE (l':=[n]) Tryz.underlying30 ty3 rfl (by decide) (fun _=>rfl) (fun x hx u hu=>?_) h (fun j x hx=>?_) hb ?_ (by simp;omega) hk
 · simp at hu;subst hu;rfl
 · cases j with
   | zero=>simp at hx;subst hx;intro i u hu;cases i with
    | zero=>injection hu with hu;subst hu;simpa using hc
    | succ i=>cases hu
   | succ j=>cases hx
 · exact Nat.le_trans (Nat.mul_le_mul (show l.length+[n].length≤1048577 by simp;omega) by3) (by decide)
theorem lasts_own {B base:Nat} {v:Value} {l:List Int}:Lasts B (fun w=>RowI w base v l):=⟨fun _ _ h e=>h.ext e,fun w q r r' _ h hq=>by
 refine ⟨h.1,?_⟩
 rcases h.2 with h2 | ⟨g,cap,cur,h1,h2,h3,h4⟩
 · exact .inl h2
 · refine .inr ⟨g,cap,cur,h1,h2,(World.putObj_heap_other (by rintro rfl;rw [h3] at hq;cases hq)).trans h3,h4⟩⟩
theorem own_put {w:World} {base q:Nat} {v:Value} {l:List Int} {o:Obj} (h:RowI w base v l) (hq:w.heap[q]?=some o) (hn:∀ cs T fr,o ≠ .cells cs T fr) (o':Obj):RowI (w.putObj q o') base v l:=by
 refine ⟨h.1,?_⟩
 rcases h.2 with h2 | ⟨g,cap,cur,h1,h2,h3,h4⟩
 · exact .inl h2
 · refine .inr ⟨g,cap,cur,h1,h2,(World.putObj_heap_other (by rintro rfl;rw [h3] at hq;injection hq with hq;exact hn _ _ _ hq.symm)).trans h3,h4⟩
theorem lasts_save {B p:Nat} {W:World} (hB:W.heap.size≤B):Lasts B (Save p (p+1) W):=⟨fun _ _ h e=>h.ext e,fun w q r r' hq h hr=>⟨h.os,h.tape,h.output,by rw [World.putObj_size];exact h.size,fun k hk hb=>(World.putObj_heap_other (by omega)).trans (h.block k hk hb)⟩⟩
theorem dedup_nodup:∀ (l seen:List ByteArray),(dedupA seen l).Nodup
 | [],_=>List.nodup_nil
 | x::l,seen=>by
  have ih:=dedup_nodup l (seen++[x])
  unfold dedupA
  split
  · exact ih
  · refine List.nodup_cons.2 ⟨fun h=>?_,ih⟩
    exact ((mem_dedup _ _ _).1 h).2 (by simp)
theorem dedup_len:∀ (l seen:List ByteArray),(dedupA seen l).length≤l.length
 | [],_=>Nat.le_refl _
 | x::l,seen=>by
  have ih:=dedup_len l (seen++[x])
  unfold dedupA
  split
  · simp only [List.length_cons];omega
  · simp only [List.length_cons];omega
theorem refsI_nodup {l:List MsgD} (h:Fine l) {k:Nat} {m:MsgD} (hk:l[k]?=some m):(refsI l k).Nodup:=by
 unfold refsI
 rw [hk]
 refine List.pairwise_map.2 (List.Pairwise.imp_of_mem (R:=(· ≠ ·)) ?_ (dedup_nodup _ []))
 intro s t hs ht hne he
 obtain ⟨i,m1,_,h2,h3,h4,_⟩:=fine_idx h hk hs
 obtain ⟨j,m2,_,h6,h7,h8,_⟩:=fine_idx h hk ht
 have hij:i=j:=by omega
 subst hij
 rw [h2] at h6
 injection h6 with h6
 subst h6
 exact hne (h3.symm.trans h7)
theorem refs_sorted {l:List MsgD} (h:Fine l) {k:Nat} {m:MsgD} (hk:l[k]?=some m):(refsI l k).mergeSort (fun x y=>decide (x≤y))=toP l k:=by
 refine rise_ext (sort_rise (refsI_nodup h hk)) (sel_rise _ _) fun x=>?_
 rw [mem_merge,toP,mem_sel]
 constructor
 · intro hx
   obtain ⟨a,b⟩:=refsI_lt h hx
   refine ⟨x.toNat,by omega,mem_refsI.1 (by rw [Int.toNat_of_nonneg a];exact hx),by omega⟩
 · rintro ⟨i,_,hi,rfl⟩
   exact mem_refsI.2 hi
theorem refers_ret (w0:World) (v:Value) (d:DefD) (k:Nat) (m:MsgD) (hd:DefVal w0 v d) (hk:d.msgs[k]?=some m) (hf:Fine d.msgs) (hb:(allRefs m.fields).length≤1048576):Ret Pg 56 #[v,.int .i64 (k:Int)] w0 fun r w'=>RowI w' w0.heap.size r (toP d.msgs k)∧Ext w0 w':=by
 obtain ⟨mv,rfl,hM⟩:=hd
 have hm1:=SliceOf.oneCell hM
 have hM0:=hM
 obtain ⟨b,o,c,rfl,_,hcm,_,hkl,hel⟩:=open1 hM hk
 obtain ⟨cs,_,hA,fv,rfl,hF⟩:=hel k m hk
 have hsort:=refs_sorted hf hk
 have hrI:refsI d.msgs k=(refsM m).map fun s=>idx (fun x=>decide (x.name=s)) d.msgs:=by unfold refsI;rw [hk]
 have hany:∀ s∈refsM m,(d.msgs.any fun x=>decide (x.name=s))=true:=fun s hs=>by
  obtain ⟨i,m',_,h2,h3,_⟩:=fine_idx hf hk hs
  exact List.any_eq_true.2 ⟨m',List.mem_of_getElem? h2,by simpa using h3⟩
 refine n78s (R:=retR _) ?_;unfold n78
 have eW:Ext w0 ((w0.alloc (.cells (defCells d (.slice (some ⟨b,o,none⟩) d.msgs.length c)).toArray 28)).alloc (.cells #[.slice none 0 0] 30)):=ee
 have o5:=heap_new (w0.alloc (.cells (defCells d (.slice (some ⟨b,o,none⟩) d.msgs.length c)).toArray 28)) #[.slice none 0 0] 30
 have o2:=((Ext.refl (w0.alloc (.cells (defCells d (.slice (some ⟨b,o,none⟩) d.msgs.length c)).toArray 28))).alloc (.cells #[.slice none 0 0] 30)).obj (heap_new w0 (defCells d (.slice (some ⟨b,o,none⟩) d.msgs.length c)).toArray 28)
 rw [World.size_alloc] at o5
 simp (disch:=try exact DI) only [↓PR,QR,simprocAttr,hA.c2 eW]
 simp only [World.size_alloc]
 change callK _ _ _ _ ((w0.alloc (.cells (defCells d (.slice (some ⟨b,o,none⟩) d.msgs.length c)).toArray 28)).alloc (.cells #[.slice none 0 0] 30)) _
 generalize ((w0.alloc (.cells (defCells d (.slice (some ⟨b,o,none⟩) d.msgs.length c)).toArray 28)).alloc (.cells #[.slice none 0 0] 30))=W at eW o2 o5 ⊢
 generalize hp5:w0.heap.size+1=p5 at o5 ⊢
 refine callK_ret (Refers_ret W _ m ⟨fv,rfl,FieldsOf.ext hF eW⟩ hb) ?_
 rintro _ w1 ⟨pb,sv,rfl,hSt,hpb,e1⟩
 have E1:=eW.trans e1
 have s1:=E1.size
 have x2:=e1.obj o2
 have x5:=e1.obj o5
 have l5:=(Array.getElem?_eq_some_iff.1 x5).1
 have lW5:=(Array.getElem?_eq_some_iff.1 o5).1
 unfold n78c3
 refine ⟨_,_,(refsM m).length,strX (refsM m),fun w=>StrsAt w pb sv (allRefs m.fields),fun j w'=>Save p5 (p5+1) w1 w'∧∃ rv,w'.heap[p5]?=some (.cells #[rv] 30 (0,0))∧RowI w' w1.heap.size rv ((refsI d.msgs k).take j),fun _ _=>False,fun _ _=>False,rfl,c69,Refers_seq pb sv _,⟨Save.refl _ _ _,_,x5,OwnE.nil _ _ _ _ _⟩,fun j w' h=>h.1.strs hSt (by omega),fun j=>(lasts_save (Nat.le_refl _)).and (.ex fun rv=>(Lasts.has _ (by simp)).and lasts_own),fun _=>Lasts.const _ _,?_,?_,?_,?_⟩
 · intro rec j w4 hj hI4 hrec hready
   refine ⟨hready,fun w5 hbz=>?_⟩
   have hrec5:=hrec.busied hbz
   obtain ⟨sv5,rv,q5,hR5⟩:=Lasts.busied (I:=fun w'=>Save p5 (p5+1) w1 w'∧∃ rv,w'.heap[p5]?=some (.cells #[rv] 30 (0,0))∧RowI w' w1.heap.size rv ((refsI d.msgs k).take j)) ((lasts_save (Nat.le_refl _)).and (.ex fun rv=>(Lasts.has _ (by simp)).and lasts_own)) hbz (Nat.le_succ _) hI4
   clear hI4 hrec hready hbz
   obtain ⟨s,hs⟩:=getElem?_lt hj
   rw [show strX (refsM m) j = .string s by unfold strX;rw [hs]]
   have hsm:=List.mem_of_getElem? hs
   have q2:=sv5.obj x2 (by omega)
   have E5:Ext w0 w5:=sv5.to_ext E1 (by omega)
   simp (disch:=try exact DI) only [↓PR,QR,simprocAttr,(cells_of_heap q2).1]
   refine zcr (Find_ret _ _ d s ⟨_,rfl,MsgsOf.ext hM0 E5⟩) fun w6 e6=>?_
   rw [hany s hsm,idx0_any (hany s hsm)]
   have hr6:=hR5.ext e6
   have q6:=e6.obj q5
   have hrv:=SliceOf.oneCell (RowI.ints hr6)
   have hix:(refsI d.msgs k)[j]?=some (idx (fun x=>decide (x.name=s)) d.msgs):=by rw [hrI,List.getElem?_map,hs];rfl
   have hlen:((refsI d.msgs k).take j).length≤(refsI d.msgs k).length:=by rw [List.length_take];omega
   have hrl:(refsI d.msgs k).length≤1048576:=by
    rw [hrI,List.length_map]
    exact Nat.le_trans (dedup_len _ _) hb
   generalize idx (fun x=>decide (x.name=s)) d.msgs=n at hix
   unfold n78c1
   simp (disch:=try exact DI) only [↓PR,QR,simprocAttr,(cells_of_heap q6).1]
   have eY:Ext w6 (w6.alloc (.cells #[.int .i64 n] 3)):=ee
   have oY:=heap_new w6 #[.int .i64 n] 3
   have qY:=eY.obj q6
   have hrY:=hrec5.ext (e6.trans eY)
   have hRY:=hr6.ext eY
   have svY:=(sv5.ext e6).ext eY
   generalize (w6.alloc (.cells #[.int .i64 n] 3))=Y at eY oY qY hrY hRY svY ⊢
   have sY:=svY.size
   refine append_intG n hRY (by rw [(cells_of_heap oY).1];rfl) sY (by omega) ?_
   intro v' w7 hO' hg
   have hne:rv.ownBlock≠some p5:=fun h=>by
    obtain ⟨cur,hcur⟩:=own_type hRY h
    rw [qY] at hcur
    injection hcur with hcur
    injection hcur with _ hT _
    exact absurd hT (by decide)
   have l5Y:=(Array.getElem?_eq_some_iff.1 qY).1
   have q7:=(hg.block p5 l5Y (fun h=>hne h.symm)).trans qY
   have hv':=SliceOf.oneCell hO'.ints
   have sv7:Save p5 (p5+1) w1 w7:=⟨hg.os.trans svY.os,hg.tape.trans svY.tape,hg.output.trans svY.output,Nat.le_trans sY hg.size,fun q hq hb=>(hg.block q (by omega) (fun e=>by have:=(hRY.lt q e.symm).1;omega)).trans (svY.block q hq hb)⟩
   simp (disch:=try exact DI) only [↓PR,QR,simprocAttr,(cells_of_heap q7).1,(cells_of_heap q7).2]
   refine ⟨((goes_grown hRY hg).rec hrY).setCell _ _,sv7.setCell (Nat.le_refl _) (Nat.lt_succ_self _) _,v',by simpa using heap_set (o:=0) q7 v',?_⟩
   rw [take_snoc hix]
   refine (OwnR.only (lo:=w1.heap.size) (hi:=w7.heap.size) ⟨hO',fun b hb=>(hO'.lt b hb).2⟩ (Only.setCell w7 p5 0 v') (.inr (.inl l5))).1
 · rintro w4 ⟨sv4,rv,q5,hR⟩ hmk
   have hrl:(refsI d.msgs k).length≤1048576:=by
    rw [hrI,List.length_map]
    exact Nat.le_trans (dedup_len _ _) hb
   have hlr:(refsI d.msgs k).length=(refsM m).length:=by rw [hrI,List.length_map]
   rw [List.take_of_length_le (by omega)] at hR
   have hrv:=SliceOf.oneCell hR.ints
   unfold n78c2
   simp (disch:=try exact DI) only [↓PR,QR,simprocAttr,(cells_of_heap q5).1]
   have e4:=sv4.to_ext E1 (by omega)
   refine callK_ret (Sort_ret hR hrl) ?_
   rintro _ w5 ⟨rfl,hR5,g5⟩
   rw [hsort] at hR5
   have q55:=g5.low l5 q5
   have hrv5:=SliceOf.oneCell hR5.ints
   simp (disch:=try exact DI) only [↓PR,QR,simprocAttr,(cells_of_heap q55).1]
   refine outX_mark (g5.mark hmk) ?_
   have hR6:=own_put hR5 (g5.mark hmk) (fun _ _ _ h=>by cases h) (.deferred none)
   have e5:=g5.2.1 w0 e4 s1
   simp (disch:=try exact DI) only [↓PR,QR,simprocAttr,outX_nil,retV,resOne]
   exact ⟨hR6.base s1,e5.putObj s1 _⟩
 · rintro c w4 h
   exact h.elim
 · rintro ch w4 h
   exact h.elim
theorem op_makeBools {QP:List PanicEntry→World→Prop} {w:World} {k:Value→World→Prop} (n:Nat) (hn:n≤1048576):opV Pg (Instr.makeSlice 93 (.int .i64 (n:Int)) (.int .i64 (n:Int))) QP w k =
 k (.slice (some ⟨w.heap.size,0,none⟩) n n) (w.alloc (.cells ((List.replicate n false).map fun x=>Value.bool x).toArray 4)):=by
 obtain ⟨⟨i,hi,hs,hby,hz⟩,_⟩:=ty4
 have h1:=by4
 rw [opV_ok (run_make_row (P:=Pg) 93 4 i _ Tryz.underlying93 hi hz hs rfl .i64 .i64 n (by rw [hby];exact Nat.le_trans (Nat.mul_le_mul h1 hn) (by decide)) (by omega) w)]
 congr 3
 rw [List.map_replicate,← toList_madeCells_one]
def BRow (w:World) (b:Nat) (L:List Bool):Prop:=w.heap[b]?=some (.cells (L.map fun x=>Value.bool x).toArray 4 (0,0))
theorem BRow.ext {w w':World} {b:Nat} {L:List Bool} (h:BRow w b L) (e:Ext w w'):BRow w' b L:=e.obj h
theorem BRow.get {w:World} {b:Nat} {L:List Bool} (h:BRow w b L) {i:Nat} {x:Bool} (hi:L[i]?=some x):w.cell? ⟨b,i,none⟩=some (.bool x):=by rw [(cells_of_heap h).1];simp [hi]
theorem BRow.set {w:World} {b:Nat} {L:List Bool} (h:BRow w b L) (i:Nat) (x:Bool):BRow (w.setCell ⟨b,i,none⟩ (.bool x)) b (L.set i x):=by
 have:=heap_set (o:=i) h (.bool x)
 unfold BRow
 rw [this,List.setIfInBounds_toArray,List.map_set]
theorem BRow.bools {w:World} {b:Nat} {L:List Bool} (h:BRow w b L) (hl:L.length≤1048576):SliceOf w 1 EBool (.slice (some ⟨b,0,none⟩) L.length L.length) L:=by
 refine ⟨_,_,rfl,Nat.le_refl _,by omega,fun _=>⟨b,0,rfl,fun k x hx=>⟨[.bool x],rfl,?_,rfl⟩⟩⟩
 intro j v hv
 cases j with
 | zero=>injection hv with hv;subst hv;simpa using h.get hx
 | succ j=>cases hv
def tab (n:Nat) (p:Nat→Bool):List Bool:=(List.range n).map p
theorem tab_len (n:Nat) (p:Nat→Bool):(tab n p).length=n:=by simp [tab]
theorem tab_get {n i:Nat} {p:Nat→Bool} (h:i < n):(tab n p)[i]?=some (p i):=by simp [tab,h]
theorem tab_congr {n:Nat} {p q:Nat→Bool} (h:∀ i,i < n→p i=q i):tab n p=tab n q:=List.map_congr_left fun i hi=>h i (List.mem_range.1 hi)
theorem tab_set {n i:Nat} {p:Nat→Bool} {x:Bool} (h:i < n):(tab n p).set i x=tab n (fun j=>if j=i then x else p j):=by
 apply List.ext_getElem?
 intro j
 by_cases hj:j < n
 · rw [tab_get hj]
   by_cases hji:j=i
   · subst hji;rw [if_pos rfl,List.getElem?_set_self (by rw [tab_len];exact hj)]
   · rw [if_neg hji,List.getElem?_set_ne (Ne.symm hji),tab_get hj]
 · rw [List.getElem?_eq_none (by rw [List.length_set,tab_len];omega),List.getElem?_eq_none (by rw [tab_len];omega)]
def startI (d:DefD):Nat:=(idx (fun m=>decide (m.name=d.start)) d.msgs).toNat
theorem start_spec {d:DefD} (hc:(checkP d).2.2=0):startI d < d.msgs.length∧(d.msgs.any fun m=>decide (m.name=d.start))=true∧idx0 (fun m=>decide (m.name=d.start)) d.msgs=startI d:=by
 have h:=(check_fine hc).2.2.2
 obtain ⟨m,hm,hn⟩:=isD.1 h
 have ha:(d.msgs.any fun m=>decide (m.name=d.start))=true:=List.any_eq_true.2 ⟨m,hm,by simpa using hn⟩
 have hb:=idx_bounds (fun m:MsgD=>decide (m.name=d.start)) d.msgs
 have h0:=ha
 rw [← idx_neg] at h0
 have h0:0≤idx (fun m:MsgD=>decide (m.name=d.start)) d.msgs:=by simpa using h0
 unfold startI
 exact ⟨by omega,ha,by rw [idx0_any ha];omega⟩
def reachX (l:List MsgD) (s t k i:Nat):Bool:=reachN l s t i||(reachN l s t (l.length - 1 - t)&&((toP l (l.length - 1 - t)).take k).contains (i:Int))
theorem reachX_zero (l:List MsgD) (s t i:Nat):reachX l s t 0 i=reachN l s t i:=by simp [reachX]
theorem reachX_all {l:List MsgD} (h:Fine l) (s t i:Nat):reachX l s t (toP l (l.length - 1 - t)).length i=reachN l s (t+1) i:=by
 unfold reachX
 rw [List.take_length,reachN]
 congr 2
 rw [Bool.eq_iff_iff,List.contains_iff_mem,toP,mem_sel]
 constructor
 · rintro ⟨j,_,h2,h3⟩
   rw [show i=j by omega];exact h2
 · exact fun hb=>⟨i,(to_lt h hb).1,hb,rfl⟩
theorem to_mem {l:List MsgD} {k:Nat} {x:Int} (h:x∈toP l k):∃ i:Nat,x=i∧i < k:=by
 obtain ⟨i,hi,_,rfl⟩:=mem_sel.1 h
 exact ⟨i,rfl,hi⟩
theorem reachX_at {l:List MsgD} (s t k:Nat):reachX l s t k (l.length - 1 - t)=reachN l s t (l.length - 1 - t):=by
 unfold reachX
 have:((toP l (l.length - 1 - t)).take k).contains ((l.length - 1 - t:Nat):Int)=false:=by
  rw [Bool.eq_false_iff]
  intro h
  rw [List.contains_iff_mem] at h
  obtain ⟨i,he,hi⟩:=to_mem (List.mem_of_mem_take h)
  omega
 rw [this,Bool.and_false,Bool.or_false]
theorem reachX_snoc {l:List MsgD} {s t k:Nat} {j:Nat} (hj:(toP l (l.length - 1 - t))[k]?=some (j:Int)) (i:Nat):reachX l s t (k+1) i=if i=j then reachX l s t k j||reachN l s t (l.length - 1 - t) else reachX l s t k i:=by
 unfold reachX
 rw [take_snoc hj,List.contains_eq_any_beq,List.any_append,List.contains_eq_any_beq,List.contains_eq_any_beq]
 by_cases hij:i=j
 · subst hij
   rw [if_pos rfl]
   simp only [List.any_cons,List.any_nil,Bool.or_false,beq_self_eq_true,Bool.or_true,Bool.and_true]
   cases reachN l s t i<;>cases reachN l s t (l.length - 1 - t)<;>simp
 · rw [if_neg hij]
   have:((i:Int) == (j:Int))=false:=by simp;omega
   simp only [List.any_cons,List.any_nil,Bool.or_false,this]
theorem reached_ret (w0:World) (v:Value) (d:DefD) (hd:DefVal w0 v d) (ht:calm d):Ret Pg 55 #[v] w0 fun r w'=>(if (checkP d).2.2=0 then ∃ b,r = .tuple #[.slice (some ⟨b,0,none⟩) d.msgs.length d.msgs.length,.int .i64 0]∧w0.heap.size≤b∧BRow w' b (tab d.msgs.length (reachB d.msgs (startI d))) else r = .tuple #[.slice none 0 0,.int .i64 2])∧Ext w0 w':=by
 obtain ⟨mv,rfl,hM⟩:=hd
 have hm1:=SliceOf.oneCell hM
 have hM0:=hM
 obtain ⟨A,c,rfl,hlc,hcm,hlm,hel⟩:=SliceOf.open hM
 refine n77s (R:=retR _) ?_;unfold n77
 rw [op_boxA]
 have o1:=heap_new w0 (defCells d (.slice A d.msgs.length c)).toArray 28
 have eW:Ext w0 (w0.alloc (.cells (defCells d (.slice A d.msgs.length c)).toArray 28)):=ee
 generalize (w0.alloc (.cells (defCells d (.slice A d.msgs.length c)).toArray 28))=W at o1 eW ⊢
 generalize hp1:w0.heap.size=p1 at o1 ⊢
 simp (disch:=try exact DI) only [↓PR,QR,simprocAttr,(cells_of_heap o1).1]
 refine zcr (Valid_ret' _ d ⟨_,rfl,hM0.ext eW⟩ ht) fun w1 e1=>?_
 have E1:=eW.trans e1
 by_cases hc:(checkP d).2.2=0
 case neg =>
  have hfb:flawedB d=true:=by unfold flawedB;simp [hc]
  rw [hfb]
  simp only [hc,if_false]
  simp (disch:=try exact DI) only [↓PR,QR,simprocAttr]
  exact ⟨trivial,E1⟩
 have hfb:flawedB d=false:=by unfold flawedB;simp [hc]
 rw [hfb]
 simp only [hc,if_true]
 obtain ⟨hs,hany,hidx⟩:=start_spec hc
 have hf:=(check_fine hc).2.2.1
 have hl60:=(check_fine hc).2.1.2
 generalize startI d=s at hs hidx ⊢
 simp (disch:=try exact DI) only [↓PR,QR,simprocAttr,↓n77c6,(cells_of_heap (e1.obj o1)).1]
 rw [op_makeBools d.msgs.length (by omega)]
 have eV:Ext w1 (w1.alloc (.cells ((List.replicate d.msgs.length false).map fun x=>Value.bool x).toArray 4)):=ee
 have oR:BRow (w1.alloc (.cells ((List.replicate d.msgs.length false).map fun x=>Value.bool x).toArray 4)) w1.heap.size (tab d.msgs.length fun _=>false):=by
  have:=heap_new w1 ((List.replicate d.msgs.length false).map fun x=>Value.bool x).toArray 4
  rw [show tab d.msgs.length (fun _=>false)=List.replicate d.msgs.length false by unfold tab;rw [List.map_const'];simp]
  exact this
 have sV:=eV.size
 generalize (w1.alloc (.cells ((List.replicate d.msgs.length false).map fun x=>Value.bool x).toArray 4))=V at eV oR sV ⊢
 generalize hr:w1.heap.size=r at oR ⊢
 have f1:=e1.trans eV
 simp (disch:=try exact DI) only [↓PR,QR,simprocAttr,(cells_of_heap (f1.obj o1)).1]
 refine zcr (Find_ret _ _ d d.start ⟨_,rfl,hM0.ext (eW.trans f1)⟩) fun w2 e2=>?_
 rw [hidx,hany]
 have oR2:=oR.ext e2
 have g2:Ext w1 w2:=eV.trans e2
 have hfz:∀ o,w2.frozen? ⟨r,o,none⟩=false:=(cells_of_heap oR2).2
 have hcs:w2.cell? ⟨r,s,none⟩=some (.bool false):=oR2.get (tab_get hs)
 unfold n77c5
 simp (disch:=try exact DI) only [↓PR,QR,simprocAttr,hcs,hfz,Nat.mul_one,Nat.zero_add]
 have oR3:=oR2.set s true
 rw [tab_set hs] at oR3
 have g3:Ext w1 (w2.setCell ⟨r,s,none⟩ (.bool true)):=g2.setCell (by show w1.heap.size≤r;omega) _
 generalize (w2.setCell ⟨r,s,none⟩ (.bool true))=w3 at oR3 g3 ⊢
 have h0:tab d.msgs.length (fun j=>if j=s then true else false)=tab d.msgs.length (reachN d.msgs s (d.msgs.length - 1 - s)):=tab_congr fun i _=>by
  rw [reachN_skip hf _ (Nat.le_refl _)]
  by_cases h:i=s<;>simp [h]
 rw [h0] at oR3
 refine loop1_intro (fun a w=>∃ t:Nat,a = .int .i64 ((d.msgs.length:Int) - 1 - t)∧t≤d.msgs.length∧Ext w1 w∧BRow w r (tab d.msgs.length (reachN d.msgs s t))) (fun a _=>(intOf a+1).toNat) ⟨d.msgs.length - 1 - s,by rw [show (d.msgs.length:Int) - 1 - ((d.msgs.length - 1 - s:Nat):Int)=(s:Int) by omega],by omega,g3,oR3⟩ ?_
 rintro _ w4 ⟨t,rfl,htl,g4,oR4⟩
 by_cases hlt:t < d.msgs.length
 · have hge:decide (((d.msgs.length:Int) - 1 - t)≥0)=true:=by simp;omega
   obtain ⟨at_,hat⟩:∃ k:Nat,k=d.msgs.length - 1 - t:=⟨_,rfl⟩
   have hatI:((d.msgs.length:Int) - 1 - t)=(at_:Int):=by omega
   rw [hatI] at hge ⊢
   have hal:at_ < d.msgs.length:=by omega
   obtain ⟨m,hm⟩:=getElem?_lt hal
   simp (disch:=try exact DI) only [↓PR,QR,simprocAttr,hge,↓n77c4,(cells_of_heap ((e1.trans g4).obj o1)).1]
   refine callK_ret (refers_ret _ _ d at_ m ⟨_,rfl,hM0.ext (E1.trans g4)⟩ hm hf (ht m (List.mem_of_getElem? hm)).1) ?_
   rintro rv w5 ⟨hT,e5⟩
   have g5:=g4.trans e5
   have oR5:=oR4.ext e5
   have hTs:=hT.ints
   have s4:=(Array.getElem?_eq_some_iff.1 oR4).1
   have htp:(toP d.msgs at_).length≤d.msgs.length:=Nat.le_trans (sel_len _ _) (by omega)
   obtain ⟨Ar,cr,rfl,hlr,hcr,hlmr,_⟩:=SliceOf.open hTs
   simp (disch:=try exact DI) only [↓PR,QR,simprocAttr]
   refine loop1_intro (fun a w=>∃ k:Nat,a = .int .i64 k∧k≤(toP d.msgs at_).length∧Ext w1 w∧BRow w r (tab d.msgs.length (reachX d.msgs s t k))∧RowI w w4.heap.size (.slice Ar (toP d.msgs at_).length cr) (toP d.msgs at_)) (fun a _=>(toP d.msgs at_).length - (intOf a).toNat) ⟨0,rfl,by omega,g5,by rw [tab_congr fun i _=>reachX_zero d.msgs s t i];exact oR5,hT⟩ ?_
   rintro _ w6 ⟨k,rfl,hk,g6,oR6,hT6⟩
   unfold n77c3
   rcases drop_cases hk with ⟨x,hx,_,hltk,hdec⟩ | ⟨hke,_,hdec⟩
   · obtain ⟨j,rfl,hj⟩:=to_mem (List.mem_of_getElem? hx)
     obtain ⟨_,_,hv,_,_,_,hel6⟩:=SliceOf.open hT6.ints
     injection hv with hv _ hv'
     subst hv hv'
     obtain ⟨b6,o6,cs6,rfl,_,hA6,rfl⟩:=hel6 k _ hx
     have er:=Ext.refl w6
     have a6:w6.cell? ⟨b6,o6+k,none⟩=some (.int .i64 (j:Int)):=by have:=hA6 0 _ rfl;simpa using this
     have hjn:j < d.msgs.length:=by omega
     have c1:w6.cell? ⟨r,j,none⟩=some (.bool (reachX d.msgs s t k j)):=oR6.get (tab_get hjn)
     have c2:w6.cell? ⟨r,at_,none⟩=some (.bool (reachN d.msgs s t at_)):=by
      rw [oR6.get (tab_get hal),hat,reachX_at]
     have hfz6:∀ o,w6.frozen? ⟨r,o,none⟩=false:=(cells_of_heap oR6).2
     have hsnoc:(tab d.msgs.length (reachX d.msgs s t k)).set j (reachX d.msgs s t k j||reachN d.msgs s t at_)=tab d.msgs.length (reachX d.msgs s t (k+1)):=by
      rw [tab_set hjn]
      refine tab_congr fun i _=>?_
      rw [reachX_snoc (by rw [← hat];exact hx),← hat]
     have hnext:∀ x,x=(reachX d.msgs s t k j||reachN d.msgs s t at_)→(∃ k':Nat,Value.int .i64 ((k:Int)+1) = .int .i64 k'∧k'≤(toP d.msgs at_).length∧Ext w1 (w6.setCell ⟨r,j,none⟩ (.bool x))∧BRow (w6.setCell ⟨r,j,none⟩ (.bool x)) r (tab d.msgs.length (reachX d.msgs s t k'))∧RowI (w6.setCell ⟨r,j,none⟩ (.bool x)) w4.heap.size (.slice (some ⟨b6,o6,none⟩) (toP d.msgs at_).length cr) (toP d.msgs at_))∧(toP d.msgs at_).length - (intOf (.int .i64 ((k:Int)+1))).toNat < (toP d.msgs at_).length - (intOf (.int .i64 (k:Int))).toNat:=by
      rintro x rfl
      refine ⟨⟨k+1,rfl,by omega,g6.setCell (by show w1.heap.size≤r;omega) _,by have:=oR6.set j (reachX d.msgs s t k j||reachN d.msgs s t at_);rw [hsnoc] at this;exact this,?_⟩,meas_lt (kd := .i64) hltk⟩
      exact (OwnR.only (lo:=w4.heap.size) (hi:=w6.heap.size) ⟨hT6,fun b hb=>(hT6.lt b hb).2⟩ (Only.setCell w6 r j _) (.inr (.inl s4))).1
     have hwr:IntKind.i64.wrap ((k:Int)+1)=(k:Int)+1:=wrap_ok (by omega) (by omega)
     simp (disch:=try exact DI) only [↓PR,QR,simprocAttr,hdec,↓n77c2,a6,c1,c2,Nat.mul_one,Nat.zero_add]
     cases hb:reachX d.msgs s t k j with
     | true =>
      simp (disch:=try exact DI) only [↓PR,QR,simprocAttr,↓n77c1,c1,hfz6,Nat.mul_one,Nat.zero_add]
      exact hnext true (by rw [hb];rfl)
     | false =>
      simp (disch:=try exact DI) only [↓PR,QR,simprocAttr,↓n77c1,c1,c2,hfz6,Nat.mul_one,Nat.zero_add]
      exact hnext _ (by rw [hb];rfl)
   · subst hke
     have hwr:IntKind.i64.wrap ((at_:Int) - 1)=(d.msgs.length:Int) - 1 - ((t+1:Nat):Int):=by rw [wrap_ok (by omega) (by omega)];omega
     simp (disch:=try exact DI) only [↓PR,QR,simprocAttr,hdec,hwr]
     refine ⟨⟨t+1,rfl,by omega,g6,?_⟩,?_⟩
     · rw [hat] at oR6
       rw [tab_congr fun i _=>reachX_all hf s t i] at oR6
       exact oR6
     · simp only [intOf]
       omega
 · obtain rfl:t=d.msgs.length:=by omega
   have hge:decide (((d.msgs.length:Int) - 1 - (d.msgs.length:Int))≥0)=false:=by simp;omega
   simp (disch:=try exact DI) only [↓PR,QR,simprocAttr,hge]
   exact ⟨⟨r,rfl,by have:=E1.size;omega,oR4⟩,E1.trans g4⟩
def OwnO (w:World) (base:Nat) (T:TypeId) (v:Value) (xs:List Value):Prop:=∃ g off cap cur,v = .slice (some ⟨g,off,none⟩) xs.length cap∧base≤g∧w.heap[g]?=some (.cells cur T (0,0))∧xs.length≤cap∧off+cap≤cur.size∧cap≤maxLen∧(cur.toList.drop off).take xs.length=xs
theorem OwnO.ext {w w':World} {base:Nat} {T:TypeId} {v:Value} {xs:List Value} (h:OwnO w base T v xs) (e:Ext w w'):OwnO w' base T v xs:=by
 obtain ⟨g,off,cap,cur,h1,h2,h3,h4⟩:=h
 exact ⟨g,off,cap,cur,h1,h2,e.obj h3,h4⟩
theorem OwnO.only {w w':World} {base b:Nat} {T T':TypeId} {v:Value} {xs:List Value} (h:OwnO w base T v xs) (ho:Only b w w') (hb:TypeAt w b T') (hne:T'≠T):OwnO w' base T v xs:=by
 obtain ⟨g,off,cap,cur,h1,h2,h3,h4⟩:=h
 refine ⟨g,off,cap,cur,h1,h2,(ho g ?_).trans h3,h4⟩
 rintro rfl
 obtain ⟨c,fr,hc⟩:=hb
 rw [h3] at hc
 injection hc with hc
 injection hc with _ hc _
 exact hne hc.symm
theorem OwnO.get {w:World} {base:Nat} {T:TypeId} {v:Value} {xs:List Value} (h:OwnO w base T v xs):∃ g off cap,v = .slice (some ⟨g,off,none⟩) xs.length cap∧base≤g∧g < w.heap.size∧TypeAt w g T∧xs.length≤cap∧∀ (k:Nat) (x:Value),xs[k]?=some x→w.cell? ⟨g,off+k,none⟩=some x:=by
 obtain ⟨g,off,cap,cur,h1,h2,h3,h4,h5,_,h6⟩:=h
 refine ⟨g,off,cap,h1,h2,(Array.getElem?_eq_some_iff.1 h3).1,⟨cur,_,h3⟩,h4,fun k x hx=>?_⟩
 have hk:=(List.getElem?_eq_some_iff.1 hx).1
 rw [← h6,List.getElem?_take,if_pos hk,List.getElem?_drop] at hx
 rw [(cells_of_heap h3).1]
 simpa using hx
theorem OwnO.tail {w:World} {base g off n cap o':Nat} {T:TypeId} {x:Value} {xs:List Value} (h:OwnO w base T (.slice (some ⟨g,off,none⟩) n cap) (x::xs)) (ho:o'=off+1∨(cap=1∧o'=off)):OwnO w base T (.slice (some ⟨g,o',none⟩) xs.length (cap - 1)) xs:=by
 obtain ⟨g',off',cap',cur,h1,h2,h3,h4,h5,h7,h6⟩:=h
 injection h1 with h1 _ h1'
 injection h1 with h1
 injection h1 with h1 h1o
 subst h1 h1o h1'
 simp only [List.length_cons] at h4 h6
 rcases ho with ho | ⟨rfl,rfl⟩
 · subst ho
   refine ⟨g,_,cap - 1,cur,rfl,h2,h3,by omega,by omega,by omega,?_⟩
   have:=congrArg List.tail h6
   rw [List.tail_cons] at this
   rw [← this,← List.drop_one,List.drop_take,List.drop_drop]
   simp
 · have hx:xs=[]:=List.eq_nil_of_length_eq_zero (by omega)
   subst hx
   exact ⟨g,_,0,cur,rfl,h2,h3,by simp,by omega,by omega,by simp⟩
section
variable {QP:List PanicEntry→World→Prop} {w:World} {k:Value→World→Prop}
theorem op_sliceTail {t e:TypeId} {agg:Bool} {m:Nat} {z:Value} (hu:Pg.underlying t=some (.slice e)) (ht:TyInfo Pg e agg 1 m z) (b o len cap:Nat) (hl:0 < len) (hc:len≤cap) (h:∀ o',(o'=o+1∨(cap=1∧o'=o))→k (.slice (some ⟨b,o',none⟩) (len - 1) (cap - 1)) w) :
 opV Pg (Instr.sliceAt t (.slice (some ⟨b,o,none⟩) len cap) (some (.int .i64 1)) none none) QP w k:=by
 have h1:(1:Int)≤(len:Int):=by omega
 have h2:(len:Int)≤(cap:Int):=by omega
 by_cases hc1:cap=1
 · rw [opV_ok (v := .slice (some ⟨b,o,none⟩) (len - 1) (cap - 1)) (w':=w)]
   · exact h o (.inr ⟨hc1,rfl⟩)
   · simp [Instr.sliceAt,run_underlying hu,Instr.slice,Instr.sliceBounds,run_sliceBound,h1,h2,hc1,Sw.run_sizeOf ht,Addr.add_lit]
 · rw [opV_ok (v := .slice (some ⟨b,o+1,none⟩) (len - 1) (cap - 1)) (w':=w)]
   · exact h (o+1) (.inl rfl)
   · simp [Instr.sliceAt,run_underlying hu,Instr.slice,Instr.sliceBounds,run_sliceBound,h1,h2,hc1,Sw.run_sizeOf ht,Addr.add_lit]
theorem op_sliceFull {t e:TypeId} {agg:Bool} {n m:Nat} {z:Value} (hu:Pg.underlying t=some (.slice e)) (ht:TyInfo Pg e agg n m z) (b o len cap:Nat) (hl:0 < len) (hc:len≤cap) :
 opV Pg (Instr.sliceAt t (.slice (some ⟨b,o,none⟩) len cap) none (some (.int .i64 (len:Int))) (some (.int .i64 (len:Int)))) QP w k=k (.slice (some ⟨b,o,none⟩) len len) w:=by
 refine opV_ok ?_
 have h2:(len:Int)≤(cap:Int):=by omega
 have h3:(0:Int)≤(len:Int):=by omega
 simp [Instr.sliceAt,run_underlying hu,Instr.slice,Instr.sliceBounds,run_sliceBound,h2,h3,Sw.run_sizeOf ht,Addr.add_lit]
theorem op_appendF {t T m:Nat} {z:Value} {agg:Bool} (ht:Pg.underlying t=some (.slice T)) (hT:TyInfo Pg T agg 1 m z) (hzs:z.cells.size=1) {g o n cap b:Nat} {olds:List Value} {u:Value} (hn:olds.length=n) (hcells:∀ (j:Nat) (x:Value),olds[j]?=some x→w.cell? ⟨g,o+j,none⟩=some x) (hc:w.cell? ⟨b,0,none⟩=some u) (hl:n≤1048576) (hm:m≤4096) (hcap:cap≤n)
 (hk:∀ v' w',w'.ownsRow w.heap.size T 1 v' (n+1) (olds++[u])→v' ≠ .slice none 0 0→Ext w w'→k v' w') :
 opV Pg (Builtin.append_ #[t,t] t #[.slice (some ⟨g,o,none⟩) n cap,.slice (some ⟨b,0,none⟩) 1 1]) QP w k:=by
 obtain ⟨⟨i,hi,hs,hby,hzz⟩,_⟩:=hT
 have hr:=run_append_grow (P:=Pg) w t t T i z ht hi hzz ⟨g,o,none⟩ n cap olds (by rw [hn,hs,Nat.mul_one]) (fun j x hx=>by rw [Addr.add_lit];exact hcells j x hx) ⟨b,0,none⟩ 1 1 [u] (by rw [hs];rfl) (fun j x hx=>by
  cases j with
  | zero=>injection hx with hx;subst hx;rw [Addr.add_lit];exact hc
  | succ j=>cases hx) (by omega) (by omega) (growslice_fits (by omega) (by rw [hby];exact Nat.le_trans (Nat.mul_le_mul (show n+1≤1048577 by omega) hm) (by decide)))
 rw [opV_ok hr]
 have hge:=grownCap_ge w (n+1) cap T
 have hcm:=grownCap_le_maxLen w (n+1) cap T (by simp only [maxLen];omega)
 refine hk _ _ ⟨by simp [hn],.inr ⟨w.heap.size,_,_,rfl,Nat.le_refl _,by rw [show w.heap.size=w.drew.heap.size by simp only [World.size_drew]];exact heap_alloc_new w.drew _,hge,hcm,?_,?_⟩⟩ (by simp) ⟨rfl,rfl,rfl,by simp,fun q hq=>(World.grownBy_alloc w.drew _ none).block q (by simpa using hq) (by simp)⟩
 · simp only [Array.size_append,List.size_toArray,size_zeroCells,hzs,hn,List.length_singleton]
   omega
 · simp only [Array.toList_append,List.append_assoc]
   rw [← List.append_assoc]
   rw [List.take_append_of_le_length (by simp [hn]),List.take_of_length_le (by simp [hn])]
theorem op_appendO {t T m:Nat} {z:Value} {agg:Bool} (ht:Pg.underlying t=some (.slice T)) (hT:TyInfo Pg T agg 1 m z) (hzs:z.cells.size=1) {base b:Nat} {v u:Value} {xs:List Value} (h:OwnO w base T v xs) (hu:u.oneCell'=true) (hc:w.cell? ⟨b,0,none⟩=some u) (hl:xs.length≤1048576) (hm:m≤4096) (hbase:base≤w.heap.size)
 (hk:∀ v' w',OwnO w' base T v' (xs++[u])→w.grownBy w' v.ownBlock→k v' w') :
 opV Pg (Builtin.append_ #[t,t] t #[v,.slice (some ⟨b,0,none⟩) 1 1]) QP w k:=by
 obtain ⟨g,off,cap,cur,rfl,h2,h3,h4,h5,h7,h6⟩:=h
 by_cases hroom:xs.length+1≤cap
 · obtain ⟨⟨i,hi,hs,hby,hzz⟩,_⟩:=hT
   have hf:=run_firstCells_some (P:=Pg) (w:=w) i.size 1 ⟨b,0,none⟩ 1 1 [u] (by rw [hs];rfl) (fun j x hx=>by
    cases j with
    | zero=>injection hx with hx;subst hx;rw [Addr.add_lit];exact hc
    | succ j=>cases hx)
   have hst:=run_storeCells_at Pg g (off+xs.length*i.size) T [u] 0 cur w h3 (by simp [hs];omega) (by simpa using hu)
   simp only [Nat.add_zero,hs,Nat.mul_one,List.length_singleton] at hst hf
   have hr:(Builtin.append_ #[t,t] t #[.slice (some ⟨g,off,none⟩) xs.length cap,.slice (some ⟨b,0,none⟩) 1 1]).run Pg w = .ok (.slice (some ⟨g,off,none⟩) (xs.length+1) cap) (w.setRow g (cur.toList.take (off+xs.length)++[u]++cur.toList.drop (off+xs.length+1)).toArray):=by
    simp [Builtin.append_,run_underlying ht,sizeOf,typeInfo,hi,Builtin.lenOf,hroom,hs,hf,Addr.add_lit,hst]
   rw [opV_ok hr]
   refine hk _ _ ⟨g,off,cap,_,by simp,h2,setRow_heap w g cur _ T _ h3,by simpa using hroom,?_,h7,?_⟩ ⟨rfl,rfl,rfl,by simp [World.setRow],fun q hq hne=>setRow_other w g q _ (fun e=>hne (by rw [e];rfl))⟩
   · simp only [List.size_toArray,List.length_append,List.length_take,List.length_drop,Array.length_toList,List.length_singleton]
     omega
   · have h8:(cur.toList.drop off).length=cur.size - off:=by simp
     have h9:(cur.toList.take (off+xs.length)++[u]++cur.toList.drop (off+xs.length+1)).drop off=xs++[u]++cur.toList.drop (off+xs.length+1):=by
      rw [List.append_assoc,List.drop_append_of_le_length (by simp;omega),List.append_assoc]
      congr 1
      rw [List.drop_take]
      rw [show off+xs.length - off=xs.length by omega]
      exact h6
     simp only [List.toList_toArray]
     rw [h9,List.take_append_of_le_length (by simp),List.take_of_length_le (by simp)]
 · refine op_appendF ht hT hzs (olds:=xs) (o:=off) rfl (fun j x hx=>?_) hc hl hm (by omega) ?_
   · have hj:=(List.getElem?_eq_some_iff.1 hx).1
     rw [← h6,List.getElem?_take,if_pos hj,List.getElem?_drop] at hx
     rw [(cells_of_heap h3).1]
     simpa using hx
   · intro v' w' ho hne e
     rcases ho.2 with ⟨h0,_⟩ | ⟨g',cap',cur',rfl,hb',hg',hc',hm',hs',ht'⟩
     · exact absurd h0 hne
     · refine hk _ _ ⟨g',0,cap',cur',by simp,by omega,hg',by simpa using hc',by omega,hm',by rw [List.drop_zero];simpa using ht'⟩ ⟨e.os,e.tape,e.output,e.size,fun q hq _=>e.block q hq⟩
end
def n5c1 (t4 t8 t9:Value) (Kr2:World→Prop) (Qr2:List PanicEntry→World→Prop) (Xr2:Nat→World→Prop) (R:RT) (w:World):Prop :=
 opV Pg (Instr.loadAt 3 t9) Qr2 w fun t33 w =>
 opV Pg (binS .add 3 true t33 (.int .i64 1)) Qr2 w fun t34 w =>
 opU Pg (Instr.storeAt 3 t9 t34) Qr2 w fun w =>
 opV Pg (Instr.loadAt 3 t8) Qr2 w fun t35 w =>
 opV Pg (binS .eql 3 true t35 (.int .i64 0)) Qr2 w fun t36 w =>
 joinK (fun (t40:Value) (w:World) =>
 pickK t36 t40 (.bool false) fun t41 =>
 condP t41 (
 Xr2 1 w) (
 Kr2 w)) fun K4 =>
 guardP t36 true (
 opV Pg (Instr.loadAt 3 t9) Qr2 w fun t38 w =>
 opV Pg (Instr.loadAt 3 t4) Qr2 w fun t39 w =>
 opV Pg (binS .geq 3 false t38 t39) Qr2 w fun t40 w =>
 K4 t40 w) (
 K4 undef w)
def n5c2 (t4 t5 t6 t8 t9 t20:Value) (Kr2:World→Prop) (Qr2:List PanicEntry→World→Prop) (Xr2:Nat→World→Prop) (R:RT) (w:World):Prop :=
 opV Pg (Instr.loadAt 3 t9) Qr2 w fun t21 w =>
 opV Pg (Instr.loadAt 30 t5) Qr2 w fun t22 w =>
 opV Pg (Builtin.len_ #[30] 3 #[t22]) Qr2 w fun t23 w =>
 opV Pg (binS .geq 3 false t21 t23) Qr2 w fun t24 w =>
 joinK (fun (t31:Value) (w:World) =>
 pickK t24 (.bool true) t31 fun t32 =>
 condP t32 (
 opU Pg (Instr.storeAt 4 t6 (.bool false)) Qr2 w fun w =>
 Xr2 0 w) (
 n5c1 t4 t8 t9 Kr2 Qr2 Xr2 R w)) fun K3 =>
 guardP t24 false (
 opV Pg (Instr.loadAt 30 t5) Qr2 w fun t27 w =>
 opV Pg (Instr.loadAt 3 t9) Qr2 w fun t28 w =>
 opV Pg (Instr.indexAt 30 t27 t28) Qr2 w fun t29 w =>
 opV Pg (Instr.loadAt 3 t29) Qr2 w fun t30 w =>
 opV Pg (binS .neq 3 false t20 t30) Qr2 w fun t31 w =>
 K3 t31 w) (
 K3 undef w)
def n5c3 (t6 t8:Value) (next1:List Deferred→Value→World→Prop) (ds:List Deferred) (R:RT) (w:World):Prop :=
 opV Pg (Instr.loadAt 3 t8) (outQ Pg ds [(some 4,t6)] R) w fun t63 w =>
 opV Pg (Instr.alloc 3 true (.tuple #[])) (outQ Pg ds [(some 4,t6)] R) w fun t8 w =>
 opU Pg (Instr.storeAt 3 t8 t63) (outQ Pg ds [(some 4,t6)] R) w fun w =>
 opV Pg (Instr.loadAt 3 t8) (outQ Pg ds [(some 4,t6)] R) w fun t17 w =>
 opV Pg (binS .add 3 true t17 (.int .i64 1)) (outQ Pg ds [(some 4,t6)] R) w fun t18 w =>
 opU Pg (Instr.storeAt 3 t8 t18) (outQ Pg ds [(some 4,t6)] R) w fun w =>
 next1 ds t8 w
def n5c4 (t6 t8 t52 t61:Value) (next1:List Deferred→Value→World→Prop) (ds:List Deferred) (R:RT) (w:World):Prop :=
 pickK t52 (.bool true) t61 fun t62 =>
 condP t62 (
 opU Pg (Instr.storeAt 4 t6 (.bool false)) (outQ Pg ds [(some 4,t6)] R) w fun w =>
 outX Pg ds [(some 4,t6)] R w) (
 n5c3 t6 t8 next1 ds R w)
def n5c5 (t5 t6 t8 t9 t52 t56:Value) (next1:List Deferred→Value→World→Prop) (ds:List Deferred) (R:RT) (w:World):Prop :=
 joinK (fun (t60:Value) (w:World) =>
 joinK (fun (t61:Value) (w:World) =>
 n5c4 t6 t8 t52 t61 next1 ds R w) fun K8 =>
 guardP t52 false (
 pickK t56 t60 (.bool false) fun t61 =>
 K8 t61 w) (
 K8 undef w)) fun K7 =>
 guardP t56 true (
 opV Pg (Instr.loadAt 3 t9) (outQ Pg ds [(some 4,t6)] R) w fun t57 w =>
 opV Pg (Instr.loadAt 30 t5) (outQ Pg ds [(some 4,t6)] R) w fun t58 w =>
 opV Pg (Builtin.len_ #[30] 3 #[t58]) (outQ Pg ds [(some 4,t6)] R) w fun t59 w =>
 opV Pg (binS .neq 3 false t57 t59) (outQ Pg ds [(some 4,t6)] R) w fun t60 w =>
 K7 t60 w) (
 K7 undef w)
def n5c6 (t5 t6 t8 t9 t43 t51:Value) (next1:List Deferred→Value→World→Prop) (ds:List Deferred) (R:RT) (w:World):Prop :=
 pickK t43 t51 (.bool false) fun t52 =>
 joinK (fun (t56:Value) (w:World) =>
 n5c5 t5 t6 t8 t9 t52 t56 next1 ds R w) fun K6 =>
 guardP t52 false (
 opV Pg (Instr.loadAt 3 t8) (outQ Pg ds [(some 4,t6)] R) w fun t54 w =>
 opV Pg (binS .eql 3 true t54 (.int .i64 1)) (outQ Pg ds [(some 4,t6)] R) w fun t55 w =>
 K6 t55 w) (
 K6 undef w)
def n5c7 (t4 t5 t6 t9:Value) (K5:KV) (ds:List Deferred) (R:RT) (w:World):Prop :=
 opV Pg (Instr.loadAt 3 t9) (outQ Pg ds [(some 4,t6)] R) w fun t45 w =>
 opV Pg (Instr.loadAt 30 t5) (outQ Pg ds [(some 4,t6)] R) w fun t46 w =>
 opV Pg (Builtin.len_ #[30] 3 #[t46]) (outQ Pg ds [(some 4,t6)] R) w fun t47 w =>
 opV Pg (Instr.loadAt 3 t4) (outQ Pg ds [(some 4,t6)] R) w fun t48 w =>
 opV Pg (Builtin.max_ #[3,3] 3 #[(.int .i64 1),t48]) (outQ Pg ds [(some 4,t6)] R) w fun t49 w =>
 opV Pg (Builtin.min_ #[3,3] 3 #[t47,t49]) (outQ Pg ds [(some 4,t6)] R) w fun t50 w =>
 opV Pg (binS .neq 3 false t45 t50) (outQ Pg ds [(some 4,t6)] R) w fun t51 w =>
 K5 t51 w
def n5c8 (t4 t5 t6 t8 t9:Value) (next1:List Deferred→Value→World→Prop) (ds:List Deferred) (R:RT) (w:World):Prop :=
 opV Pg (Instr.loadAt 3 t8) (outQ Pg ds [(some 4,t6)] R) w fun t42 w =>
 opV Pg (binS .eql 3 true t42 (.int .i64 0)) (outQ Pg ds [(some 4,t6)] R) w fun t43 w =>
 joinK (fun (t51:Value) (w:World) =>
 n5c6 t5 t6 t8 t9 t43 t51 next1 ds R w) fun K5 =>
 guardP t43 true (
 n5c7 t4 t5 t6 t9 K5 ds R w) (
 K5 undef w)
def n5c9 (t6 t8:Value) (next1:List Deferred→Value→World→Prop) (ds:List Deferred) (R:RT) (w:World):Prop :=
 opV Pg (Instr.loadAt 3 t8) (outQ Pg ds [(some 4,t6)] R) w fun t63 w =>
 opV Pg (Instr.alloc 3 true (.tuple #[])) (outQ Pg ds [(some 4,t6)] R) w fun t8 w =>
 opU Pg (Instr.storeAt 3 t8 t63) (outQ Pg ds [(some 4,t6)] R) w fun w =>
 opV Pg (Instr.loadAt 3 t8) (outQ Pg ds [(some 4,t6)] R) w fun t17 w =>
 opV Pg (binS .add 3 true t17 (.int .i64 1)) (outQ Pg ds [(some 4,t6)] R) w fun t18 w =>
 opU Pg (Instr.storeAt 3 t8 t18) (outQ Pg ds [(some 4,t6)] R) w fun w =>
 next1 ds t8 w
def n5c10 (t6 t8 t52 t61:Value) (next1:List Deferred→Value→World→Prop) (ds:List Deferred) (R:RT) (w:World):Prop :=
 pickK t52 (.bool true) t61 fun t62 =>
 condP t62 (
 opU Pg (Instr.storeAt 4 t6 (.bool false)) (outQ Pg ds [(some 4,t6)] R) w fun w =>
 outX Pg ds [(some 4,t6)] R w) (
 n5c9 t6 t8 next1 ds R w)
def n5c11 (t5 t6 t8 t9 t52 t56:Value) (next1:List Deferred→Value→World→Prop) (ds:List Deferred) (R:RT) (w:World):Prop :=
 joinK (fun (t60:Value) (w:World) =>
 joinK (fun (t61:Value) (w:World) =>
 n5c10 t6 t8 t52 t61 next1 ds R w) fun K12 =>
 guardP t52 false (
 pickK t56 t60 (.bool false) fun t61 =>
 K12 t61 w) (
 K12 undef w)) fun K11 =>
 guardP t56 true (
 opV Pg (Instr.loadAt 3 t9) (outQ Pg ds [(some 4,t6)] R) w fun t57 w =>
 opV Pg (Instr.loadAt 30 t5) (outQ Pg ds [(some 4,t6)] R) w fun t58 w =>
 opV Pg (Builtin.len_ #[30] 3 #[t58]) (outQ Pg ds [(some 4,t6)] R) w fun t59 w =>
 opV Pg (binS .neq 3 false t57 t59) (outQ Pg ds [(some 4,t6)] R) w fun t60 w =>
 K11 t60 w) (
 K11 undef w)
def n5c12 (t5 t6 t8 t9 t43 t51:Value) (next1:List Deferred→Value→World→Prop) (ds:List Deferred) (R:RT) (w:World):Prop :=
 pickK t43 t51 (.bool false) fun t52 =>
 joinK (fun (t56:Value) (w:World) =>
 n5c11 t5 t6 t8 t9 t52 t56 next1 ds R w) fun K10 =>
 guardP t52 false (
 opV Pg (Instr.loadAt 3 t8) (outQ Pg ds [(some 4,t6)] R) w fun t54 w =>
 opV Pg (binS .eql 3 true t54 (.int .i64 1)) (outQ Pg ds [(some 4,t6)] R) w fun t55 w =>
 K10 t55 w) (
 K10 undef w)
def n5c13 (t4 t5 t6 t9:Value) (K9:KV) (ds:List Deferred) (R:RT) (w:World):Prop :=
 opV Pg (Instr.loadAt 3 t9) (outQ Pg ds [(some 4,t6)] R) w fun t45 w =>
 opV Pg (Instr.loadAt 30 t5) (outQ Pg ds [(some 4,t6)] R) w fun t46 w =>
 opV Pg (Builtin.len_ #[30] 3 #[t46]) (outQ Pg ds [(some 4,t6)] R) w fun t47 w =>
 opV Pg (Instr.loadAt 3 t4) (outQ Pg ds [(some 4,t6)] R) w fun t48 w =>
 opV Pg (Builtin.max_ #[3,3] 3 #[(.int .i64 1),t48]) (outQ Pg ds [(some 4,t6)] R) w fun t49 w =>
 opV Pg (Builtin.min_ #[3,3] 3 #[t47,t49]) (outQ Pg ds [(some 4,t6)] R) w fun t50 w =>
 opV Pg (binS .neq 3 false t45 t50) (outQ Pg ds [(some 4,t6)] R) w fun t51 w =>
 K9 t51 w
def n5c14 (t4 t5 t6 t8 t9:Value) (next1:List Deferred→Value→World→Prop) (ds:List Deferred) (R:RT) (w:World):Prop :=
 opV Pg (Instr.loadAt 3 t8) (outQ Pg ds [(some 4,t6)] R) w fun t42 w =>
 opV Pg (binS .eql 3 true t42 (.int .i64 0)) (outQ Pg ds [(some 4,t6)] R) w fun t43 w =>
 joinK (fun (t51:Value) (w:World) =>
 n5c12 t5 t6 t8 t9 t43 t51 next1 ds R w) fun K9 =>
 guardP t43 true (
 n5c13 t4 t5 t6 t9 K9 ds R w) (
 K9 undef w)
def n5c15 (t4 t5 t6 t8 t12:Value) (next1:List Deferred→Value→World→Prop) (ds:List Deferred) (R:RT) (w:World):Prop :=
 opV Pg (Instr.alloc 3 true (.tuple #[])) (outQ Pg ds [(some 4,t6)] R) w fun t9 w =>
 opU Pg (Instr.storeAt 3 t9 (.int .i64 0)) (outQ Pg ds [(some 4,t6)] R) w fun w =>
 rangeN Pg t12 ds (fun l2 t20 w Kr2 Xr2 Qr2 =>
 busyK l2 w fun w =>
 n5c2 t4 t5 t6 t8 t9 t20 Kr2 Qr2 Xr2 R w) (fun ch ds w=>outQ Pg ds [(some 4,t6)] R ch w) w (fun ds w =>
 n5c8 t4 t5 t6 t8 t9 next1 ds R w) [fun ds w =>
 outX Pg ds [(some 4,t6)] R w,fun ds w =>
 n5c14 t4 t5 t6 t8 t9 next1 ds R w]
def n5c16 (t4 t5 t6 t8 t12:Value) (next1:List Deferred→Value→World→Prop) (ds:List Deferred) (R:RT) (w:World):Prop :=
 opV Pg (Instr.loadAt 3 t8) (outQ Pg ds [(some 4,t6)] R) w fun t15 w =>
 opV Pg (binS .lss 3 true t15 (.int .i64 2)) (outQ Pg ds [(some 4,t6)] R) w fun t16 w =>
 condP t16 (
 n5c15 t4 t5 t6 t8 t12 next1 ds R w) (
 opU Pg (Instr.storeAt 4 t6 (.bool true)) (outQ Pg ds [(some 4,t6)] R) w fun w =>
 outX Pg ds [(some 4,t6)] R w)
def n5c17 (t4 t5 t6 t12:Value) (ds:List Deferred) (R:RT) (w:World):Prop :=
 opV Pg (Instr.alloc 3 true (.tuple #[])) (outQ Pg ds [(some 4,t6)] R) w fun t8 w =>
 opU Pg (Instr.storeAt 3 t8 (.int .i64 0)) (outQ Pg ds [(some 4,t6)] R) w fun w =>
 loopM1 (fun ds t8 w next1 =>
 n5c16 t4 t5 t6 t8 t12 next1 ds R w) ds t8 w
def n5c18 (t4 t5 t6 t12:Value) (ds:List Deferred) (R:RT) (w:World):Prop :=
 opV Pg (binS .eql 40 true t12 .nilFunc) (outQ Pg ds [(some 4,t6)] R) w fun t14 w =>
 condP t14 (
 opU Pg (Instr.storeAt 4 t6 (.bool false)) (outQ Pg ds [(some 4,t6)] R) w fun w =>
 outX Pg ds [(some 4,t6)] R w) (
 n5c17 t4 t5 t6 t12 ds R w)
def n5 (t0 t1 t2:Value) (R:RT) (w:World):Prop :=
 (fun (ds:List Deferred) =>
 opV Pg (Instr.box 24 t0) (outQ Pg ds [(some 4,undef)] R) w fun t3 w =>
 opV Pg (Instr.box 3 t1) (outQ Pg ds [(some 4,undef)] R) w fun t4 w =>
 opV Pg (Instr.box 30 t2) (outQ Pg ds [(some 4,undef)] R) w fun t5 w =>
 opV Pg (Instr.alloc 4 true (.tuple #[])) (outQ Pg ds [(some 4,undef)] R) w fun t6 w =>
 opV Pg (Instr.loadAt 24 t3) (outQ Pg ds [(some 4,t6)] R) w fun t11 w =>
 callK Pg 19 #[t11] (outQ Pg ds [(some 4,t6)] R) w fun t12 w =>
 n5c18 t4 t5 t6 t12 ds R w) []
set_option maxHeartbeats 40000000 in
theorem n5s {t0 t1 t2:Value} {R:RT} {w:World} (h:n5 t0 t1 t2 R w):Calls Pg 18 #[t0,t1,t2] w R:=by
 refine yE Tryz.func18 ?_
 unfold n5 at h
 dsimp only at h
 refine zs<|zr<|yv h fun _ w h=>yv h fun _ w h=>yv h fun _ w h=>yv h fun _ w h=>zn<|zk<|zs<|zr<|yv h fun _ w h=>yc h c19 fun _ w h=>zm<|zn<|zk ?_
 refine zs<|zs<|zr<|zm<|yb h fun _ w h=>zn<|zk<|yC h (fun h=>zs<|zr<|yu h fun w h=>zn<|zk<|sim_ret<|sim_then_ret<|bodyM_ret rfl h) fun h=>sim_skip<|zk<|zs<|zs<|zr<|yv h fun _ w h=>?_
 refine yu h fun w h=>zn<|zk<|sim_block<|yL1 [8,9,15,16,17,18,19,42,43,44,45,46,47,48,49,50,51,52,53,54,55,56,57,58,59,60,61,62,63] 8 h fun σ ds w next h=>zs<|zs<|zr<|yv h fun _ w h=>yb h fun _ w h=>zn<|zk<|yC h (fun h=>?_) fun h=>?_
 · refine sim_skip<|zk<|zs<|sim_block<|zs<|zr<|yv h fun _ w h=>yu h fun w h=>zn<|zk<|zs<|zs<|zr<|zm<|zn ?_
   refine zk<|sim_block<|sim_range [.ret,.exit 2] h rfl (fun l2 t20 w Kr2 Xr2 Qr2 h=>?_) (fun ds w h=>?_) (fun c ds w h=>?_) (fun ch ds w h=>outQ_of rfl h)
   · refine zr<|zm<|zn<|zk ?_
     obtain ⟨hr,h⟩:=h
     refine ⟨rfl,hr,fun w hb=>?_⟩
     have h:=h w hb
     refine sim_block<|zs<|zs<|sim_regionG<|yG 5<|yv h fun _ w h=>yv h fun _ w h=>yx h fun _ w h=>yb h fun _ w h=>zm<|zn<|yg1 6 4 false [26,27,28,29,30,31] 31 h (fun _ T hT h=>?_) fun σ w h=>?_
     · refine zm<|yv h fun _ w h=>yv h fun _ w h=>yv h fun _ w h=>yv h fun _ w h=>yb h fun _ w h=>zn ?_
       exact zt hT h
     refine yG 1<|yp h fun _ h=>zn<|sim_end<|zk<|yC h (fun h=>zs<|zr<|yu h fun w h=>zn<|zk<|sim_ret<|sim_then_ret<|sim_block_ret<|⟨rfl,0,rfl,h⟩) fun h=>sim_skip<|zk<|zs<|zr<|yv h fun _ w h=>yb h fun _ w h=>yu h fun w h=>zn ?_
     refine zk<|zs<|sim_regionG<|yG 3<|yv h fun _ w h=>yb h fun _ w h=>zm<|zn<|yg1 3 2 true [38,39,40] 40 h (fun _ T hT h=>?_) fun σ w h=>?_
     · refine yv h fun _ w h=>yv h fun _ w h=>yb h fun _ w h=>zn ?_
       exact zt hT h
     exact yG 1<|yp h fun _ h=>zn<|sim_end<|zk<|yC h (fun h=>sim_exit<|sim_block_miss rfl<|⟨rfl,1,rfl,h⟩) fun h=>sim_skip<|sim_block_normal<|⟨rfl,h⟩
   · refine sim_block_normal<|zk<|zs<|sim_regionG<|yG 3<|yv h fun _ w h=>yb h fun _ w h=>zm<|zn<|yg1 7 2 true [45,46,47,48,49,50,51] 51 h (fun _ T hT h=>?_) fun σ w h=>?_
     · refine yv h fun _ w h=>yv h fun _ w h=>yx h fun _ w h=>yv h fun _ w h=>yx h fun _ w h=>yx h fun _ w h=>yb h fun _ w h=>zn ?_
       exact zt hT h
     refine yG 2<|yp h fun _ h=>zm<|zn<|yg1 3 11 false [54,55,56] 56 h (fun _ T hT h=>?_) fun σ w h=>?_
     · refine yv h fun _ w h=>yb h fun _ w h=>zm<|zn ?_
       exact zt hT h
     refine yg1 4 14 true [57,58,59,60] 60 h (fun _ T hT h=>?_) fun σ w h=>?_
     · refine yv h fun _ w h=>yv h fun _ w h=>yx h fun _ w h=>yb h fun _ w h=>zn ?_
       exact zt hT h
     refine yg1 1 11 false [61] 61 h (fun _ T hT h=>?_) fun σ w h=>?_
     · refine yp h fun _ h=>zn ?_
       exact zt hT h
     refine yG 1<|yp h fun _ h=>zn<|sim_end<|zk<|yC h (fun h=>zs<|zr<|yu h fun w h=>zn<|zk<|sim_ret<|sim_block_ret<|sim_then_ret<|sim_then_ret<|sim_block_ret<|sim_then_ret<|bodyM_ret rfl h) fun h=>sim_skip<|sim_block_normal<|zk<|zs<|zs<|zr<|yv h fun _ w h=>zn ?_
     exact zk<|zr<|yv h fun _ w h=>yu h fun w h=>zn<|zk<|zr<|yv h fun _ w h=>yb h fun _ w h=>yu h fun w h=>zn<|zk<|h
   rcases c with _ | c
   · refine ⟨_,rfl,.inl ⟨rfl,?_⟩⟩
     exact sim_block_ret<|sim_then_ret<|sim_block_ret<|sim_then_ret<|sim_then_ret<|sim_block_ret<|sim_then_ret<|bodyM_ret rfl h
   rcases c with _ | c
   · refine ⟨_,rfl,.inr ⟨_,rfl,?_⟩⟩
     refine sim_block_hit<|zk<|zs<|sim_regionG<|yG 3<|yv h fun _ w h=>yb h fun _ w h=>zm<|zn<|yg1 7 2 true [45,46,47,48,49,50,51] 51 h (fun _ T hT h=>?_) fun σ w h=>?_
     · refine yv h fun _ w h=>yv h fun _ w h=>yx h fun _ w h=>yv h fun _ w h=>yx h fun _ w h=>yx h fun _ w h=>yb h fun _ w h=>zn ?_
       exact zt hT h
     refine yG 2<|yp h fun _ h=>zm<|zn<|yg1 3 11 false [54,55,56] 56 h (fun _ T hT h=>?_) fun σ w h=>?_
     · refine yv h fun _ w h=>yb h fun _ w h=>zm<|zn ?_
       exact zt hT h
     refine yg1 4 14 true [57,58,59,60] 60 h (fun _ T hT h=>?_) fun σ w h=>?_
     · refine yv h fun _ w h=>yv h fun _ w h=>yx h fun _ w h=>yb h fun _ w h=>zn ?_
       exact zt hT h
     refine yg1 1 11 false [61] 61 h (fun _ T hT h=>?_) fun σ w h=>?_
     · refine yp h fun _ h=>zn ?_
       exact zt hT h
     refine yG 1<|yp h fun _ h=>zn<|sim_end<|zk<|yC h (fun h=>zs<|zr<|yu h fun w h=>zn<|zk<|sim_ret<|sim_block_ret<|sim_then_ret<|sim_then_ret<|sim_block_ret<|sim_then_ret<|bodyM_ret rfl h) fun h=>sim_skip<|sim_block_normal<|zk<|zs<|zs<|zr<|yv h fun _ w h=>zn ?_
     exact zk<|zr<|yv h fun _ w h=>yu h fun w h=>zn<|zk<|zr<|yv h fun _ w h=>yb h fun _ w h=>yu h fun w h=>zn<|zk<|h
   exact h.elim
 exact sim_exit<|sim_then_exit<|sim_then_exit<|sim_block_hit<|zk<|zs<|zr<|yu h fun w h=>zn<|zk<|sim_ret<|bodyM_ret rfl h
def n65 (t0:Value) (R:RT) (w:World):Prop :=
 opV Pg (Instr.box 24 t0) (panK R) w fun t1 w =>
 F0 24 t1 1 R w fun t4 w =>
 L0 22 t4 R w fun t5 w =>
 opV Pg (Instr.makeFunc (.func 48) #[] #[t1]) (panK R) w fun t6 w =>
 C0 41 #[t5,t6] R w fun t7 w =>
 C0 50 #[t7] R w fun t9 w =>
 R (.returned t9) w
theorem n65s {t0:Value} {R:RT} {w:World} (h:n65 t0 R w):Calls Pg 19 #[t0] w R:=by
 refine yD Tryz.func19 ?_
 refine zs<|zr<|yv h fun _ w h=>zm<|zn<|zk<|zs<|zr<|yv h fun _ w h=>yv h fun _ w h=>yF h fun _ w h=>yc h c41 fun _ w h=>zm<|zn<|zk ?_
 exact zs<|zr<|zm<|yc h c50 fun _ w h=>zm<|zn<|zk<|sim_ret<|body_ret1 rfl rfl h
def n69 (t0:Value) (R:RT) (w:World):Prop :=
 opV Pg (Instr.box 28 t0) (panK R) w fun t1 w =>
 L0 28 t1 R w fun t4 w =>
 C0 51 #[t4,(.bool true)] R w fun t5 w =>
 opV Pg (Instr.extract t5 0) (panK R) w fun t6 w =>
 opV Pg (Instr.extract t5 1) (panK R) w fun t7 w =>
 R (.returned (.tuple #[t6,t7])) w
theorem n69s {t0:Value} {R:RT} {w:World} (h:n69 t0 R w):Calls Pg 20 #[t0] w R:=by
 refine yD Tryz.func20 ?_
 refine zs<|zr<|yv h fun _ w h=>zm<|zm<|zn<|zk<|zs<|zr<|yv h fun _ w h=>yc h c51 fun _ w h=>yv h fun _ w h=>yv h fun _ w h=>zm<|zm ?_
 exact zn<|zk<|sim_ret<|body_ret2 rfl rfl rfl h
def n70 (t0:Value) (R:RT) (w:World):Prop :=
 opV Pg (Instr.box 28 t0) (panK R) w fun t1 w =>
 L0 28 t1 R w fun t4 w =>
 C0 51 #[t4,(.bool false)] R w fun t5 w =>
 opV Pg (Instr.extract t5 0) (panK R) w fun t6 w =>
 opV Pg (Instr.extract t5 1) (panK R) w fun t7 w =>
 R (.returned (.tuple #[t6,t7])) w
theorem n70s {t0:Value} {R:RT} {w:World} (h:n70 t0 R w):Calls Pg 21 #[t0] w R:=by
 refine yD Tryz.func21 ?_
 refine zs<|zr<|yv h fun _ w h=>zm<|zm<|zn<|zk<|zs<|zr<|yv h fun _ w h=>yc h c51 fun _ w h=>yv h fun _ w h=>yv h fun _ w h=>zm<|zm ?_
 exact zn<|zk<|sim_ret<|body_ret2 rfl rfl rfl h
end Go.Proofs.YtfjjgjjlebllmaaGreat
