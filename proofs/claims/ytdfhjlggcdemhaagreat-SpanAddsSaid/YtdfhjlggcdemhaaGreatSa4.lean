/-
  Lemmas for the claim.
-/
import Derived.Test.YtdfhjlggcdemhaaGreatSa3
set_option linter.all false
set_option maxHeartbeats 4000000
set_option maxRecDepth 100000
namespace Go.Proofs.YtdfhjlggcdemhaaGreat
open Sw
open Go.RowKit (intOf Below)
def Clears (g:FuncId) (cl:FieldD→FieldD) (ct cc:Bool):Prop:=∀ (w:World) (p:Nat) (f:FieldD) (tv cv:Value),tv.oneCell'=true→cv.oneCell'=true→w.heap[p]?=some (.cells (fieldCells f tv cv).toArray 38 (0,0)) →
 Ret Pg g #[.pointer (some ⟨p,0,none⟩)] w fun _ w'=>w'.heap[p]?=some (.cells (fieldCells (cl f) (if ct then .slice none 0 0 else tv) (if cc then .slice none 0 0 else cv)).toArray 38 (0,0))∧∀ a,Ext a w→a.heap.size≤p→Ext a w'
def clear1 (f:FieldD):FieldD:={ f with bits:=0,little:=false,low:=0,high:=0 }
theorem clears1:Clears 171 clear1 false false:=by
 intro w p f tv cv ht1 hc1 hp
 have hlt:=(Array.getElem?_eq_some_iff.1 hp).1
 refine n37s (R:=retR _) ?_;unfold n37
 simp (disch:=try exact DI) only [↓PR,QR,simprocAttr,Sw.joinK_eq,(cells_of_heap hp).1,(cells_of_heap hp).2]
 refine ⟨?_,fun a e hp'=>?_⟩
 · simp only [heap_set_map,hp,Option.map_some,setObj_cells,List.setIfInBounds_toArray,List.set_cons_zero,List.set_cons_succ,Bool.false_eq_true,if_false,if_true]
   try rfl
 · exact ee
def clear2 (f:FieldD):FieldD:={ f with bits:=0,little:=false,low:=0 }
theorem clears2:Clears 175 clear2 false false:=by
 intro w p f tv cv ht1 hc1 hp
 have hlt:=(Array.getElem?_eq_some_iff.1 hp).1
 refine n53s (R:=retR _) ?_;unfold n53
 simp (disch:=try exact DI) only [↓PR,QR,simprocAttr,Sw.joinK_eq,(cells_of_heap hp).1,(cells_of_heap hp).2]
 refine ⟨?_,fun a e hp'=>?_⟩
 · simp only [heap_set_map,hp,Option.map_some,setObj_cells,List.setIfInBounds_toArray,List.set_cons_zero,List.set_cons_succ,Bool.false_eq_true,if_false,if_true]
   try rfl
 · exact ee
def clear3 (f:FieldD):FieldD:={ f with loose:=false,low:=0,high:=0 }
theorem clears3:Clears 177 clear3 false false:=by
 intro w p f tv cv ht1 hc1 hp
 have hlt:=(Array.getElem?_eq_some_iff.1 hp).1
 refine n56s (R:=retR _) ?_;unfold n56
 simp (disch:=try exact DI) only [↓PR,QR,simprocAttr,Sw.joinK_eq,(cells_of_heap hp).1,(cells_of_heap hp).2]
 refine ⟨?_,fun a e hp'=>?_⟩
 · simp only [heap_set_map,hp,Option.map_some,setObj_cells,List.setIfInBounds_toArray,List.set_cons_zero,List.set_cons_succ,Bool.false_eq_true,if_false,if_true]
   try rfl
 · exact ee
def clear4 (f:FieldD):FieldD:={ f with base:=0,terms:=[] }
theorem clears4:Clears 179 clear4 true false:=by
 intro w p f tv cv ht1 hc1 hp
 have hlt:=(Array.getElem?_eq_some_iff.1 hp).1
 refine n58s (R:=retR _) ?_;unfold n58
 simp (disch:=try exact DI) only [↓PR,QR,simprocAttr,Sw.joinK_eq,(cells_of_heap hp).1,(cells_of_heap hp).2]
 refine ⟨?_,fun a e hp'=>?_⟩
 · simp only [heap_set_map,hp,Option.map_some,setObj_cells,List.setIfInBounds_toArray,List.set_cons_zero,List.set_cons_succ,Bool.false_eq_true,if_false,if_true]
   try rfl
 · exact ee
def clear5 (f:FieldD):FieldD:={ f with low:=0,high:=0 }
theorem clears5:Clears 181 clear5 false false:=by
 intro w p f tv cv ht1 hc1 hp
 have hlt:=(Array.getElem?_eq_some_iff.1 hp).1
 refine n59s (R:=retR _) ?_;unfold n59
 simp (disch:=try exact DI) only [↓PR,QR,simprocAttr,Sw.joinK_eq,(cells_of_heap hp).1,(cells_of_heap hp).2]
 refine ⟨?_,fun a e hp'=>?_⟩
 · simp only [heap_set_map,hp,Option.map_some,setObj_cells,List.setIfInBounds_toArray,List.set_cons_zero,List.set_cons_succ,Bool.false_eq_true,if_false,if_true]
   try rfl
 · exact ee
def clear6 (f:FieldD):FieldD:={ f with loose:=false,high:=0 }
theorem clears6:Clears 183 clear6 false false:=by
 intro w p f tv cv ht1 hc1 hp
 have hlt:=(Array.getElem?_eq_some_iff.1 hp).1
 refine n38s (R:=retR _) ?_;unfold n38
 simp (disch:=try exact DI) only [↓PR,QR,simprocAttr,Sw.joinK_eq,(cells_of_heap hp).1,(cells_of_heap hp).2]
 refine ⟨?_,fun a e hp'=>?_⟩
 · simp only [heap_set_map,hp,Option.map_some,setObj_cells,List.setIfInBounds_toArray,List.set_cons_zero,List.set_cons_succ,Bool.false_eq_true,if_false,if_true]
   try rfl
 · exact ee
def clear7 (f:FieldD):FieldD:={ f with of:=ByteArray.empty,base:=0,terms:=[] }
theorem clears7:Clears 185 clear7 true false:=by
 intro w p f tv cv ht1 hc1 hp
 have hlt:=(Array.getElem?_eq_some_iff.1 hp).1
 refine n40s (R:=retR _) ?_;unfold n40
 simp (disch:=try exact DI) only [↓PR,QR,simprocAttr,Sw.joinK_eq,(cells_of_heap hp).1,(cells_of_heap hp).2]
 refine ⟨?_,fun a e hp'=>?_⟩
 · simp only [heap_set_map,hp,Option.map_some,setObj_cells,List.setIfInBounds_toArray,List.set_cons_zero,List.set_cons_succ,Bool.false_eq_true,if_false,if_true]
   try rfl
 · exact ee
def clear8 (f:FieldD):FieldD:={ f with of:=ByteArray.empty }
theorem clears8:Clears 188 clear8 false false:=by
 intro w p f tv cv ht1 hc1 hp
 have hlt:=(Array.getElem?_eq_some_iff.1 hp).1
 refine n42s (R:=retR _) ?_;unfold n42
 simp (disch:=try exact DI) only [↓PR,QR,simprocAttr,Sw.joinK_eq,(cells_of_heap hp).1,(cells_of_heap hp).2]
 refine ⟨?_,fun a e hp'=>?_⟩
 · simp only [heap_set_map,hp,Option.map_some,setObj_cells,List.setIfInBounds_toArray,List.set_cons_zero,List.set_cons_succ,Bool.false_eq_true,if_false,if_true]
   try rfl
 · exact ee
def clear9 (f:FieldD):FieldD:={ f with tag:=ByteArray.empty,cases:=[] }
theorem clears9:Clears 190 clear9 false true:=by
 intro w p f tv cv ht1 hc1 hp
 have hlt:=(Array.getElem?_eq_some_iff.1 hp).1
 refine n44s (R:=retR _) ?_;unfold n44
 simp (disch:=try exact DI) only [↓PR,QR,simprocAttr,Sw.joinK_eq,(cells_of_heap hp).1,(cells_of_heap hp).2]
 refine ⟨?_,fun a e hp'=>?_⟩
 · simp only [heap_set_map,hp,Option.map_some,setObj_cells,List.setIfInBounds_toArray,List.set_cons_zero,List.set_cons_succ,Bool.false_eq_true,if_false,if_true]
   try rfl
 · exact ee
def clear10 (f:FieldD):FieldD:={ f with bits:=0 }
theorem clears10:Clears 192 clear10 false false:=by
 intro w p f tv cv ht1 hc1 hp
 have hlt:=(Array.getElem?_eq_some_iff.1 hp).1
 refine n46s (R:=retR _) ?_;unfold n46
 simp (disch:=try exact DI) only [↓PR,QR,simprocAttr,Sw.joinK_eq,(cells_of_heap hp).1,(cells_of_heap hp).2]
 refine ⟨?_,fun a e hp'=>?_⟩
 · simp only [heap_set_map,hp,Option.map_some,setObj_cells,List.setIfInBounds_toArray,List.set_cons_zero,List.set_cons_succ,Bool.false_eq_true,if_false,if_true]
   try rfl
 · exact ee
def clear11 (f:FieldD):FieldD:={ f with fr:=ByteArray.empty,check:=0 }
theorem clears11:Clears 194 clear11 false false:=by
 intro w p f tv cv ht1 hc1 hp
 have hlt:=(Array.getElem?_eq_some_iff.1 hp).1
 refine n48s (R:=retR _) ?_;unfold n48
 simp (disch:=try exact DI) only [↓PR,QR,simprocAttr,Sw.joinK_eq,(cells_of_heap hp).1,(cells_of_heap hp).2]
 refine ⟨?_,fun a e hp'=>?_⟩
 · simp only [heap_set_map,hp,Option.map_some,setObj_cells,List.setIfInBounds_toArray,List.set_cons_zero,List.set_cons_succ,Bool.false_eq_true,if_false,if_true]
   try rfl
 · exact ee
def clear12 (f:FieldD):FieldD:={ f with of:=ByteArray.empty,base:=0,terms:=[],key:=0 }
theorem clears12:Clears 196 clear12 true false:=by
 intro w p f tv cv ht1 hc1 hp
 have hlt:=(Array.getElem?_eq_some_iff.1 hp).1
 refine n51s (R:=retR _) ?_;unfold n51
 simp (disch:=try exact DI) only [↓PR,QR,simprocAttr,Sw.joinK_eq,(cells_of_heap hp).1,(cells_of_heap hp).2]
 refine ⟨?_,fun a e hp'=>?_⟩
 · simp only [heap_set_map,hp,Option.map_some,setObj_cells,List.setIfInBounds_toArray,List.set_cons_zero,List.set_cons_succ,Bool.false_eq_true,if_false,if_true]
   try rfl
 · exact ee
abbrev kindEnc:Int→Value:=fun n => .int .i64 n
def KindsIn (L:List (Int×Value×Nat)):Prop:=(∀ k,¬ (1≤k∧k≤12)→Sw.look L k=none)∧Sw.look L 1=some (.agg #[.func (.func 171) #[] #[],.func (.func 172) #[] #[]])∧Sw.look L 2=some (.agg #[.func (.func 175) #[] #[],.func (.func 176) #[] #[]])∧Sw.look L 3=some (.agg #[.func (.func 177) #[] #[],.func (.func 178) #[] #[]])∧Sw.look L 4=some (.agg #[.func (.func 179) #[] #[],.func (.func 180) #[] #[]])∧Sw.look L 5=some (.agg #[.func (.func 181) #[] #[],.func (.func 182) #[] #[]])∧Sw.look L 6=some (.agg #[.func (.func 183) #[] #[],.func (.func 184) #[] #[]])∧Sw.look L 7=some (.agg #[.func (.func 185) #[] #[],.func (.func 186) #[] #[]])∧Sw.look L 8=some (.agg #[.func (.func 188) #[] #[],.func (.func 189) #[] #[]])∧Sw.look L 9=some (.agg #[.func (.func 190) #[] #[],.func (.func 191) #[] #[]])∧Sw.look L 10=some (.agg #[.func (.func 192) #[] #[],.func (.func 193) #[] #[]])∧Sw.look L 11=some (.agg #[.func (.func 194) #[] #[],.func (.func 195) #[] #[]])∧Sw.look L 12=some (.agg #[.func (.func 196) #[] #[],.func (.func 197) #[] #[]])
theorem kind_step {w0 w:World} {m c:Nat} {L:List (Int×Value×Nat)} {QP:List PanicEntry→World→Prop} {ku:World→Prop} (hM:MapB w m kindEnc L c) (e:Ext w0 w) (hm:w0.heap.size≤m) (k:Int) (v:Value)
 (h:∀ w' L' c',MapB w' m kindEnc L' c'→(∀ k',Sw.look L' k'=if k'=k then some v else Sw.look L k')→Ext w0 w'→ku w'):opU Pg (Instr.mapUpdate 198 (.map (some m)) (.int .i64 k) v) QP w ku:=by
 rw [op_mapUpdate Tryz.underlying198 (KeyOK.int Tryz.underlying32) hM k v]
 exact h _ _ _ (hM.put k v) (fun k'=>look_put _ _ _ _ _) (e.putObj hm _)
theorem kinds_ret (w0:World):Ret Pg 161 #[] w0 fun r w'=>∃ m L c,r = .map (some m)∧w0.heap.size≤m∧MapB w' m kindEnc L c∧KindsIn L∧Ext w0 w':=by
 refine n36s (R:=retR _) ?_;unfold n36
 simp (disch:=try exact DI) only [↓PR,QR,simprocAttr]
 have hM0:MapB (w0.alloc (.map #[] 0)) w0.heap.size kindEnc [] 0:=MapB.new w0 _
 have e0:Ext w0 (w0.alloc (.map #[] 0)):=ee
 refine kind_step hM0 e0 (Nat.le_refl _) 1 _ (fun w1 L1 c1 hM1 hl1 e1=>?_)
 simp (disch:=try exact DI) only [↓PR,QR,simprocAttr]
 refine kind_step hM1 e1 (Nat.le_refl _) 2 _ (fun w2 L2 c2 hM2 hl2 e2=>?_)
 simp (disch:=try exact DI) only [↓PR,QR,simprocAttr]
 refine kind_step hM2 e2 (Nat.le_refl _) 3 _ (fun w3 L3 c3 hM3 hl3 e3=>?_)
 simp (disch:=try exact DI) only [↓PR,QR,simprocAttr]
 refine kind_step hM3 e3 (Nat.le_refl _) 4 _ (fun w4 L4 c4 hM4 hl4 e4=>?_)
 simp (disch:=try exact DI) only [↓PR,QR,simprocAttr]
 refine kind_step hM4 e4 (Nat.le_refl _) 5 _ (fun w5 L5 c5 hM5 hl5 e5=>?_)
 simp (disch:=try exact DI) only [↓PR,QR,simprocAttr]
 refine kind_step hM5 e5 (Nat.le_refl _) 6 _ (fun w6 L6 c6 hM6 hl6 e6=>?_)
 simp (disch:=try exact DI) only [↓PR,QR,simprocAttr]
 refine kind_step hM6 e6 (Nat.le_refl _) 7 _ (fun w7 L7 c7 hM7 hl7 e7=>?_)
 simp (disch:=try exact DI) only [↓PR,QR,simprocAttr]
 refine kind_step hM7 e7 (Nat.le_refl _) 8 _ (fun w8 L8 c8 hM8 hl8 e8=>?_)
 simp (disch:=try exact DI) only [↓PR,QR,simprocAttr]
 refine kind_step hM8 e8 (Nat.le_refl _) 9 _ (fun w9 L9 c9 hM9 hl9 e9=>?_)
 simp (disch:=try exact DI) only [↓PR,QR,simprocAttr]
 refine kind_step hM9 e9 (Nat.le_refl _) 10 _ (fun w10 L10 c10 hM10 hl10 e10=>?_)
 simp (disch:=try exact DI) only [↓PR,QR,simprocAttr]
 refine kind_step hM10 e10 (Nat.le_refl _) 11 _ (fun w11 L11 c11 hM11 hl11 e11=>?_)
 simp (disch:=try exact DI) only [↓PR,QR,simprocAttr]
 refine kind_step hM11 e11 (Nat.le_refl _) 12 _ (fun w12 L12 c12 hM12 hl12 e12=>?_)
 simp (disch:=try exact DI) only [↓PR,QR,simprocAttr]
 have hn:∀ k,Sw.look ([]:List (Int×Value×Nat)) k=none:=fun _=>rfl
 refine ⟨_,_,_,rfl,Nat.le_refl _,hM12,⟨fun k hk=>?_,?_,?_,?_,?_,?_,?_,?_,?_,?_,?_,?_,?_⟩,e12⟩
 · rw [hl12,if_neg (by omega),hl11,if_neg (by omega),hl10,if_neg (by omega),hl9,if_neg (by omega),hl8,if_neg (by omega),hl7,if_neg (by omega),hl6,if_neg (by omega),hl5,if_neg (by omega),hl4,if_neg (by omega),hl3,if_neg (by omega),hl2,if_neg (by omega),hl1,if_neg (by omega),hn]
 · rw [hl12,if_neg (by decide),hl11,if_neg (by decide),hl10,if_neg (by decide),hl9,if_neg (by decide),hl8,if_neg (by decide),hl7,if_neg (by decide),hl6,if_neg (by decide),hl5,if_neg (by decide),hl4,if_neg (by decide),hl3,if_neg (by decide),hl2,if_neg (by decide),hl1,if_pos rfl]
 · rw [hl12,if_neg (by decide),hl11,if_neg (by decide),hl10,if_neg (by decide),hl9,if_neg (by decide),hl8,if_neg (by decide),hl7,if_neg (by decide),hl6,if_neg (by decide),hl5,if_neg (by decide),hl4,if_neg (by decide),hl3,if_neg (by decide),hl2,if_pos rfl]
 · rw [hl12,if_neg (by decide),hl11,if_neg (by decide),hl10,if_neg (by decide),hl9,if_neg (by decide),hl8,if_neg (by decide),hl7,if_neg (by decide),hl6,if_neg (by decide),hl5,if_neg (by decide),hl4,if_neg (by decide),hl3,if_pos rfl]
 · rw [hl12,if_neg (by decide),hl11,if_neg (by decide),hl10,if_neg (by decide),hl9,if_neg (by decide),hl8,if_neg (by decide),hl7,if_neg (by decide),hl6,if_neg (by decide),hl5,if_neg (by decide),hl4,if_pos rfl]
 · rw [hl12,if_neg (by decide),hl11,if_neg (by decide),hl10,if_neg (by decide),hl9,if_neg (by decide),hl8,if_neg (by decide),hl7,if_neg (by decide),hl6,if_neg (by decide),hl5,if_pos rfl]
 · rw [hl12,if_neg (by decide),hl11,if_neg (by decide),hl10,if_neg (by decide),hl9,if_neg (by decide),hl8,if_neg (by decide),hl7,if_neg (by decide),hl6,if_pos rfl]
 · rw [hl12,if_neg (by decide),hl11,if_neg (by decide),hl10,if_neg (by decide),hl9,if_neg (by decide),hl8,if_neg (by decide),hl7,if_pos rfl]
 · rw [hl12,if_neg (by decide),hl11,if_neg (by decide),hl10,if_neg (by decide),hl9,if_neg (by decide),hl8,if_pos rfl]
 · rw [hl12,if_neg (by decide),hl11,if_neg (by decide),hl10,if_neg (by decide),hl9,if_pos rfl]
 · rw [hl12,if_neg (by decide),hl11,if_neg (by decide),hl10,if_pos rfl]
 · rw [hl12,if_neg (by decide),hl11,if_pos rfl]
 · rw [hl12,if_pos rfl]
def bareF (f:FieldD):FieldD:={ name:=f.name,kind:=f.kind,bits:=0,little:=false,loose:=false,low:=0,high:=0,base:=0,terms:=[],of:=ByteArray.empty,tag:=ByteArray.empty,fr:=ByteArray.empty,cases:=[],check:=0,key:=0 }
section
variable {w0:World} {cb md ms:Nat} {deps strs:List (ByteArray×Value)} {at_ fld:Int} {fs:List FieldD}
theorem exa_tail {a0:World} (e00:Ext a0 w0) (h:Chk w0 cb md ms deps strs at_ fld fs) (p3 p6:Nat) (f:FieldD) (tv cv:Value) (hT:TermsOf w0 tv f.terms) (hC:CasesOf w0 cv f.cases) (o3:w0.heap[p3]?=some (.cells (fieldCells f tv cv).toArray 38 (0,0)))
 (g1 g2:FuncId) (o6:w0.heap[p6]?=some (.cells #[.func (.func g1) #[] #[],.func (.func g2) #[] #[]] 196 (0,0))) (hc1:Callable Pg g1) (hc2:Callable Pg g2) (cl:FieldD→FieldD) (ct cc:Bool) (hcl:Clears g1 cl ct cc)
 (hterms:(cl f).terms=if ct then [] else f.terms) (hcases:(cl f).cases=if cc then [] else f.cases) (code:Int)
 (hchk:∀ w v,Chk w cb md ms deps strs at_ fld fs→FieldVal w v f→Calls Pg g2 #[.pointer (some ⟨cb,0,none⟩),v] w (flwR w at_ fld code)) :
 n26c3 (.pointer (some ⟨cb,0,none⟩)) (.pointer (some ⟨p3,0,none⟩)) (.pointer (some ⟨p6,0,none⟩)) (flwR a0 at_ fld (orC (needC (decide (cl f=bareF f)) 5) code)) w0:=by
 have ht1:=SliceOf.oneCell hT
 have hv1:=SliceOf.oneCell hC
 have l6:p6 < w0.heap.size:=(Array.getElem?_eq_some_iff.1 o6).1
 unfold n26c3
 simp (disch:=try exact DI) only [↓PR,QR,simprocAttr,(cells_of_heap o3).1,(cells_of_heap o6).1]
 have e1:Ext w0 (w0.alloc (Obj.cells (fieldCells f tv cv).toArray 38)):=ee
 have o7:=heap_new w0 (fieldCells f tv cv).toArray 38
 rw [callV_func hc1]
 simp only [Array.empty_append,Array.append_empty]
 refine callK_ret (hcl _ w0.heap.size f tv cv ht1 hv1 o7) ?_
 rintro r w2 ⟨o7',hE⟩
 have e2:=hE w0 e1 (Nat.le_refl _)
 clear hE o7 e1
 have hT2:TermsOf w2 (if ct then .slice none 0 0 else tv) (cl f).terms:=by
  rw [hterms]
  cases ct
  · exact TermsOf.ext hT e2
  · exact SliceOf.nil _ _ _
 have hC2:CasesOf w2 (if cc then .slice none 0 0 else cv) (cl f).cases:=by
  rw [hcases]
  cases cc
  · exact CasesOf.ext hC e2
  · exact SliceOf.nil _ _ _
 generalize (if ct=true then Value.slice none 0 0 else tv)=tv2 at o7' hT2
 generalize (if cc=true then Value.slice none 0 0 else cv)=cv2 at o7' hC2
 generalize cl f=g at o7' hT2 hC2 ⊢
 have o3':=e2.obj o3
 clear hterms hcases hcl
 unfold n26c2
 have hL:Loads Pg w2 38 ⟨w0.heap.size,0,none⟩ (.agg (fieldCells g tv2 cv2).toArray):=Loads.many ty38 rfl (fun j v hv=>by rw [Addr.add_lit,(cells_of_heap o7').1];simpa using hv)
 refine (op_load hL).mpr ?_
 simp (disch:=try exact DI) only [↓PR,QR,simprocAttr,(cells_of_heap o3').1]
 refine zcr (sameField_ret w2 _ _ g (bareF f) ⟨_,_,rfl,hT2,hC2⟩ ⟨.slice none 0 0,.slice none 0 0,rfl,SliceOf.nil _ _ _,SliceOf.nil _ _ _⟩) fun w3 e3=>?_
 have e23:=e2.trans e3
 refine callK_flw (need_flw (h.ext e23) _ 5 (by decide)) (fun w4 e4 h0=>?_) (fun w4 e4 h0=>?_)
 · rw [h0,orC_zero]
   have e24:=e23.trans e4
   simp (disch:=try exact DI) only [↓PR,QR,simprocAttr,↓n26c1,(cells_of_heap (e24.obj o6)).1,(cells_of_heap (e24.obj o3)).1]
   rw [callV_func hc2]
   simp only [Array.empty_append,Array.append_empty]
   refine callK_flw (hchk w4 _ (h.ext e24) ⟨tv,cv,rfl,TermsOf.ext hT e24,CasesOf.ext hC e24⟩) (fun w5 e5 h0=>?_) (fun w5 e5 h0=>?_)
   · exact flwR_ret (e00.trans (e24.trans e5)) h0
   · exact flwR_pan (e00.trans (e24.trans e5)) rfl h0
 · rw [orC_ne h0]
   exact flwR_pan (e00.trans (e23.trans e4)) rfl h0
end
def checkC (bef:List FieldD) (deps strs:List (ByteArray×Value)) (f:FieldD):Int :=
 if f.kind=1 then orC (needC (bitsB f) 6) (withinC (topF f) 0 [f.low,f.high]) else
 if f.kind=2 then orC (needC (bitsB f) 6) (withinC (topF f) 0 [f.low]) else
 if f.kind=3 then withinC 34359738367 0 [f.low,f.high] else
 if f.kind=4 then sizedC (numR bef) f else
 if f.kind=5 then orC (withinC 255 0 [f.low]) (withinC 1048576 0 [f.high]) else
 if f.kind=6 then withinC 1048576 2 [f.high] else
 if f.kind=7 then orC (needC (lastOf deps f.of).isSome 8) (sizedC (numR bef) f) else
 if f.kind=8 then needC (lastOf deps f.of).isSome 8 else
 if f.kind=9 then casesC bef deps f else
 if f.kind=10 then needC (padB f) 6 else
 if f.kind=11 then orC (withinC 3 1 [f.check]) (needC (bef.any fun o=>decide (o.name=f.fr)) 8) else
 if f.kind=12 then orC (withinC 4294967295 0 [f.key]) (orC (needC (strB strs f.of) 8) (sizedC (numR bef) f)) else 0
def clearK (f:FieldD):FieldD :=
 if f.kind=1 then clear1 f else
 if f.kind=2 then clear2 f else
 if f.kind=3 then clear3 f else
 if f.kind=4 then clear4 f else
 if f.kind=5 then clear5 f else
 if f.kind=6 then clear6 f else
 if f.kind=7 then clear7 f else
 if f.kind=8 then clear8 f else
 if f.kind=9 then clear9 f else
 if f.kind=10 then clear10 f else
 if f.kind=11 then clear11 f else
 if f.kind=12 then clear12 f else f
def examineC (bef:List FieldD) (deps strs:List (ByteArray×Value)) (f:FieldD):Int :=
 orC (needC (nameB f.name) 1) (orC (needC (!bef.any fun o=>decide (o.name=f.name)) 2) (orC (needC (decide (1≤f.kind∧f.kind≤12)) 4) (orC (needC (decide (clearK f=bareF f)) 5) (checkC bef deps strs f))))
section
variable {w0:World} {cb md ms:Nat} {deps strs:List (ByteArray×Value)} {at_ fld:Int} {fs:List FieldD}
theorem exa_mid {a0:World} (e00:Ext a0 w0) (h:Chk w0 cb md ms deps strs at_ fld fs) (i:Nat) (hi:fld=i) (hlt:i < fs.length) (p3 p6:Nat) (f:FieldD) (tv cv:Value) (ht:f.terms.length≤1048576) (hT:TermsOf w0 tv f.terms) (hC:CasesOf w0 cv f.cases) (o3:w0.heap[p3]?=some (.cells (fieldCells f tv cv).toArray 38 (0,0)))
 (L:List (Int×Value×Nat)) (hL:KindsIn L) (a b:Value) (ok:Bool) (hab:(Sw.look L f.kind).getD (.agg #[.nilFunc,.nilFunc]) = .agg #[a,b]) (hok:ok=(Sw.look L f.kind).isSome) (o6:w0.heap[p6]?=some (.cells #[a,b] 196 (0,0))) :
 callK Pg 120 #[.pointer (some ⟨cb,0,none⟩),.bool ok,.int .i64 4] (panK (flwR a0 at_ fld (orC (needC (decide (1≤f.kind∧f.kind≤12)) 4) (orC (needC (decide (clearK f=bareF f)) 5) (checkC (fs.take i) deps strs f))))) w0
  (fun _ w=>n26c3 (.pointer (some ⟨cb,0,none⟩)) (.pointer (some ⟨p3,0,none⟩)) (.pointer (some ⟨p6,0,none⟩)) (flwR a0 at_ fld (orC (needC (decide (1≤f.kind∧f.kind≤12)) 4) (orC (needC (decide (clearK f=bareF f)) 5) (checkC (fs.take i) deps strs f)))) w):=by
 obtain ⟨hn,k1,k2,k3,k4,k5,k6,k7,k8,k9,k10,k11,k12⟩:=hL
 by_cases hk:1≤f.kind∧f.kind≤12
 · have hd:decide (1≤f.kind∧f.kind≤12)=true:=by simpa using hk
   rw [hd]
   show callK _ _ _ (panK (flwR a0 at_ fld (orC 0 _))) _ _
   simp only [show needC true 4=0 from rfl,orC_zero]
   have hs:ok=true:=by
    rw [hok]
    have:f.kind=1∨f.kind=2∨f.kind=3∨f.kind=4∨f.kind=5∨f.kind=6∨f.kind=7∨f.kind=8∨f.kind=9∨f.kind=10∨f.kind=11∨f.kind=12:=by omega
    rcases this with h | h | h | h | h | h | h | h | h | h | h | h<;>simp only [h,k1,k2,k3,k4,k5,k6,k7,k8,k9,k10,k11,k12,Option.isSome_some]
   subst hs
   refine callK_flw (need_flw h true 4 (by decide)) (fun w1 e1 _=>?_) (fun w1 e1 h0=>absurd rfl h0)
   have hw:=h.ext e1
   have hT1:=TermsOf.ext hT e1
   have hC1:=CasesOf.ext hC e1
   have o31:=e1.obj o3
   have this:f.kind=1∨f.kind=2∨f.kind=3∨f.kind=4∨f.kind=5∨f.kind=6∨f.kind=7∨f.kind=8∨f.kind=9∨f.kind=10∨f.kind=11∨f.kind=12:=by omega
   rcases this with hkk | hkk | hkk | hkk | hkk | hkk | hkk | hkk | hkk | hkk | hkk | hkk
   · rw [hkk,k1,Option.getD_some] at hab
     injection hab with hab
     have hab:=congrArg Array.toList hab
     simp only [List.cons.injEq,and_true] at hab
     obtain ⟨rfl,rfl⟩:=hab
     have hcl:clearK f=clear1 f:=by unfold clearK;simp [hkk]
     have hcc:checkC (fs.take i) deps strs f=orC (needC (bitsB f) 6) (withinC (topF f) 0 [f.low,f.high]):=by unfold checkC;simp [hkk]
     rw [hcl,hcc]
     exact exa_tail (e00.trans e1) hw p3 p6 f tv cv hT1 hC1 o31 _ _ (e1.obj o6) c171 c172 clear1 false false clears1 rfl rfl _ (fun w v hw hf=>uint_flw hw v f hf)
   · rw [hkk,k2,Option.getD_some] at hab
     injection hab with hab
     have hab:=congrArg Array.toList hab
     simp only [List.cons.injEq,and_true] at hab
     obtain ⟨rfl,rfl⟩:=hab
     have hcl:clearK f=clear2 f:=by unfold clearK;simp [hkk]
     have hcc:checkC (fs.take i) deps strs f=orC (needC (bitsB f) 6) (withinC (topF f) 0 [f.low]):=by unfold checkC;simp [hkk]
     rw [hcl,hcc]
     exact exa_tail (e00.trans e1) hw p3 p6 f tv cv hT1 hC1 o31 _ _ (e1.obj o6) c175 c176 clear2 false false clears2 rfl rfl _ (fun w v hw hf=>const_flw hw v f hf)
   · rw [hkk,k3,Option.getD_some] at hab
     injection hab with hab
     have hab:=congrArg Array.toList hab
     simp only [List.cons.injEq,and_true] at hab
     obtain ⟨rfl,rfl⟩:=hab
     have hcl:clearK f=clear3 f:=by unfold clearK;simp [hkk]
     have hcc:checkC (fs.take i) deps strs f=withinC 34359738367 0 [f.low,f.high]:=by unfold checkC;simp [hkk]
     rw [hcl,hcc]
     exact exa_tail (e00.trans e1) hw p3 p6 f tv cv hT1 hC1 o31 _ _ (e1.obj o6) c177 c178 clear3 false false clears3 rfl rfl _ (fun w v hw hf=>varint_flw hw v f hf)
   · rw [hkk,k4,Option.getD_some] at hab
     injection hab with hab
     have hab:=congrArg Array.toList hab
     simp only [List.cons.injEq,and_true] at hab
     obtain ⟨rfl,rfl⟩:=hab
     have hcl:clearK f=clear4 f:=by unfold clearK;simp [hkk]
     have hcc:checkC (fs.take i) deps strs f=sizedC (numR (fs.take i)) f:=by unfold checkC;simp [hkk]
     rw [hcl,hcc]
     exact exa_tail (e00.trans e1) hw p3 p6 f tv cv hT1 hC1 o31 _ _ (e1.obj o6) c179 c180 clear4 true false clears4 rfl rfl _ (fun w v hw hf=>sized_flw hw i hi hlt v f hf ht)
   · rw [hkk,k5,Option.getD_some] at hab
     injection hab with hab
     have hab:=congrArg Array.toList hab
     simp only [List.cons.injEq,and_true] at hab
     obtain ⟨rfl,rfl⟩:=hab
     have hcl:clearK f=clear5 f:=by unfold clearK;simp [hkk]
     have hcc:checkC (fs.take i) deps strs f=orC (withinC 255 0 [f.low]) (withinC 1048576 0 [f.high]):=by unfold checkC;simp [hkk]
     rw [hcl,hcc]
     exact exa_tail (e00.trans e1) hw p3 p6 f tv cv hT1 hC1 o31 _ _ (e1.obj o6) c181 c182 clear5 false false clears5 rfl rfl _ (fun w v hw hf=>until_flw hw v f hf)
   · rw [hkk,k6,Option.getD_some] at hab
     injection hab with hab
     have hab:=congrArg Array.toList hab
     simp only [List.cons.injEq,and_true] at hab
     obtain ⟨rfl,rfl⟩:=hab
     have hcl:clearK f=clear6 f:=by unfold clearK;simp [hkk]
     have hcc:checkC (fs.take i) deps strs f=withinC 1048576 2 [f.high]:=by unfold checkC;simp [hkk]
     rw [hcl,hcc]
     exact exa_tail (e00.trans e1) hw p3 p6 f tv cv hT1 hC1 o31 _ _ (e1.obj o6) c183 c184 clear6 false false clears6 rfl rfl _ (fun w v hw hf=>headers_flw hw v f hf)
   · rw [hkk,k7,Option.getD_some] at hab
     injection hab with hab
     have hab:=congrArg Array.toList hab
     simp only [List.cons.injEq,and_true] at hab
     obtain ⟨rfl,rfl⟩:=hab
     have hcl:clearK f=clear7 f:=by unfold clearK;simp [hkk]
     have hcc:checkC (fs.take i) deps strs f=orC (needC (lastOf deps f.of).isSome 8) (sizedC (numR (fs.take i)) f):=by unfold checkC;simp [hkk]
     rw [hcl,hcc]
     exact exa_tail (e00.trans e1) hw p3 p6 f tv cv hT1 hC1 o31 _ _ (e1.obj o6) c185 c186 clear7 true false clears7 rfl rfl _ (fun w v hw hf=>list_flw hw i hi hlt v f hf ht)
   · rw [hkk,k8,Option.getD_some] at hab
     injection hab with hab
     have hab:=congrArg Array.toList hab
     simp only [List.cons.injEq,and_true] at hab
     obtain ⟨rfl,rfl⟩:=hab
     have hcl:clearK f=clear8 f:=by unfold clearK;simp [hkk]
     have hcc:checkC (fs.take i) deps strs f=needC (lastOf deps f.of).isSome 8:=by unfold checkC;simp [hkk]
     rw [hcl,hcc]
     exact exa_tail (e00.trans e1) hw p3 p6 f tv cv hT1 hC1 o31 _ _ (e1.obj o6) c188 c189 clear8 false false clears8 rfl rfl _ (fun w v hw hf=>message_flw hw v f hf)
   · rw [hkk,k9,Option.getD_some] at hab
     injection hab with hab
     have hab:=congrArg Array.toList hab
     simp only [List.cons.injEq,and_true] at hab
     obtain ⟨rfl,rfl⟩:=hab
     have hcl:clearK f=clear9 f:=by unfold clearK;simp [hkk]
     have hcc:checkC (fs.take i) deps strs f=casesC (fs.take i) deps f:=by unfold checkC;simp [hkk]
     rw [hcl,hcc]
     exact exa_tail (e00.trans e1) hw p3 p6 f tv cv hT1 hC1 o31 _ _ (e1.obj o6) c190 c191 clear9 false true clears9 rfl rfl _ (fun w v hw hf=>cases_flw hw i hi hlt v f hf)
   · rw [hkk,k10,Option.getD_some] at hab
     injection hab with hab
     have hab:=congrArg Array.toList hab
     simp only [List.cons.injEq,and_true] at hab
     obtain ⟨rfl,rfl⟩:=hab
     have hcl:clearK f=clear10 f:=by unfold clearK;simp [hkk]
     have hcc:checkC (fs.take i) deps strs f=needC (padB f) 6:=by unfold checkC;simp [hkk]
     rw [hcl,hcc]
     exact exa_tail (e00.trans e1) hw p3 p6 f tv cv hT1 hC1 o31 _ _ (e1.obj o6) c192 c193 clear10 false false clears10 rfl rfl _ (fun w v hw hf=>pad_flw hw v f hf)
   · rw [hkk,k11,Option.getD_some] at hab
     injection hab with hab
     have hab:=congrArg Array.toList hab
     simp only [List.cons.injEq,and_true] at hab
     obtain ⟨rfl,rfl⟩:=hab
     have hcl:clearK f=clear11 f:=by unfold clearK;simp [hkk]
     have hcc:checkC (fs.take i) deps strs f=orC (withinC 3 1 [f.check]) (needC ((fs.take i).any fun o=>decide (o.name=f.fr)) 8):=by unfold checkC;simp [hkk]
     rw [hcl,hcc]
     exact exa_tail (e00.trans e1) hw p3 p6 f tv cv hT1 hC1 o31 _ _ (e1.obj o6) c194 c195 clear11 false false clears11 rfl rfl _ (fun w v hw hf=>check_flw hw i hi hlt v f hf)
   · rw [hkk,k12,Option.getD_some] at hab
     injection hab with hab
     have hab:=congrArg Array.toList hab
     simp only [List.cons.injEq,and_true] at hab
     obtain ⟨rfl,rfl⟩:=hab
     have hcl:clearK f=clear12 f:=by unfold clearK;simp [hkk]
     have hcc:checkC (fs.take i) deps strs f=orC (withinC 4294967295 0 [f.key]) (orC (needC (strB strs f.of) 8) (sizedC (numR (fs.take i)) f)):=by unfold checkC;simp [hkk]
     rw [hcl,hcc]
     exact exa_tail (e00.trans e1) hw p3 p6 f tv cv hT1 hC1 o31 _ _ (e1.obj o6) c196 c197 clear12 true false clears12 rfl rfl _ (fun w v hw hf=>view_flw hw i hi hlt v f hf ht)
 · have hd:decide (1≤f.kind∧f.kind≤12)=false:=by simpa using hk
   rw [hd]
   have hs:ok=false:=by rw [hok,hn _ hk];rfl
   subst hs
   refine callK_flw (need_flw h false 4 (by decide)) (fun w1 e1 h0=>absurd h0 (by decide)) (fun w1 e1 h0=>?_)
   exact flwR_pan (e00.trans e1) rfl h0
end
section
variable {w0:World} {cb md ms:Nat} {deps strs:List (ByteArray×Value)} {at_ fld:Int} {fs:List FieldD}
theorem examine_flw (h:Chk w0 cb md ms deps strs at_ fld fs) (i:Nat) (hi:fld=i) (hlt:i < fs.length) (v:Value) (f:FieldD) (hf:FieldVal w0 v f) (ht:f.terms.length≤1048576) :
 Calls Pg 144 #[.pointer (some ⟨cb,0,none⟩),v] w0 (flwR w0 at_ fld (examineC (fs.take i) deps strs f)):=by
 obtain ⟨tv,cv,rfl,hT,hC,ht1,hc1⟩:=hf.op
 refine n26s ?_;unfold n26
 simp (disch:=try exact DI) only [↓PR,QR,simprocAttr]
 generalize hW:World.alloc w0 _=W
 have e0:Ext w0 W:=by rw [← hW];exact ee
 have o3:W.heap[w0.heap.size]?=some (.cells (fieldCells f tv cv).toArray 38 (0,0)):=by rw [← hW];simp (disch:=try exact DI) only [↓PR,QR,simprocAttr]
 clear hW
 refine zcr (Name_ret _ f.name) fun w1 e1=>?_
 have e01:=e0.trans e1
 unfold examineC
 refine callK_flw (need_flw (h.ext e01) _ 1 (by decide)) (fun w2 e2 h0=>?_) (fun w2 e2 h0=>?_)
 · rw [h0,orC_zero]
   have e02:=e01.trans e2
   have o32:=(e1.trans e2).obj o3
   refine drawK_intro ?_
   simp (disch:=try exact DI) only [↓PR,QR,simprocAttr,↓n26c8,(cells_of_heap o32).1]
   have eD:Ext w0 w2.drew:=e02.wdrew
   refine callK_ret (before_ret (h.ext eD) i hi hlt) ?_
   rintro bv w3 ⟨hB,e3⟩
   refine ⟨e3,?_⟩
   have hb1:=SliceOf.oneCell hB
   simp (disch:=try exact DI) only [↓PR,QR,simprocAttr]
   refine zcr (Field_ret w3 _ ⟨ByteArray.empty,fs.take i⟩ f.name ⟨bv,rfl,hB⟩) fun w4 e4=>?_
   refine ⟨e3.trans e4,?_⟩
   simp (disch:=try exact DI) only [↓PR,QR,simprocAttr,↓n26c7]
   have e04:=eD.trans (e3.trans e4)
   have e24:Ext w2 w4:=(Ext.refl w2).wdrew.trans (e3.trans e4)
   refine callK_flw (need_flw (h.ext e04) _ 2 (by decide)) (fun w5 e5 h0=>?_) (fun w5 e5 h0=>?_)
   · rw [h0,orC_zero]
     have e05:=e04.trans e5
     have o35:=(e24.trans e5).obj o32
     clear e24 e04 e3 e4 hB eD e02 e01 e1 e2 o32
     refine drawK_intro ?_
     simp (disch:=try exact DI) only [↓PR,QR,simprocAttr,↓n26c6,(cells_of_heap o35).1]
     have eD:Ext w5 w5.drew:=(Ext.refl _).wdrew
     have fin5:∀ (w':World) (m p6 c:Nat) (L:List (Int×Value×Nat)) (u0 u1:Value),Ext w5.drew w'→MapB w' m kindEnc L c→KindsIn L→w'.heap[p6]?=some (.cells #[u0,u1] 196 (0,0))→w5.heap.size≤p6 →
      n26c5 (.pointer (some ⟨p6,0,none⟩)) (.map (some m)) (.int .i64 f.kind) (KM w5.drew m kindEnc L c) (fun t5 t6 w=>callK Pg 120 #[.pointer (some ⟨cb,0,none⟩),t5,.int .i64 4] (panK (flwR w0 at_ fld (orC (needC (decide (1≤f.kind∧f.kind≤12)) 4) (orC (needC (decide (clearK f=bareF f)) 5) (checkC (fs.take i) deps strs f))))) w fun _ w=>n26c3 (.pointer (some ⟨cb,0,none⟩)) (.pointer (some ⟨w0.heap.size,0,none⟩)) t6 (flwR w0 at_ fld (orC (needC (decide (1≤f.kind∧f.kind≤12)) 4) (orC (needC (decide (clearK f=bareF f)) 5) (checkC (fs.take i) deps strs f)))) w)
       (flwR w0 at_ fld (orC (needC (decide (1≤f.kind∧f.kind≤12)) 4) (orC (needC (decide (clearK f=bareF f)) 5) (checkC (fs.take i) deps strs f)))) w':=by
      intro w' m p6 c L u0 u1 e' hM hL o6 hp6
      haveI:ClassNe (KM w5.drew m kindEnc L c):=⟨⟨w',e',hM⟩⟩
      unfold n26c5
      rw [qV_lookupKM Tryz.underlying198 (KeyOK.int Tryz.underlying32) ty196 ⟨w',e',hM⟩]
      obtain ⟨a,b,hab,ha,hb⟩:∃ a b,(Sw.look L f.kind).getD (.agg #[.nilFunc,.nilFunc]) = .agg #[a,b]∧a.oneCell'=true∧b.oneCell'=true:=by
       obtain ⟨hn,k1,k2,k3,k4,k5,k6,k7,k8,k9,k10,k11,k12⟩:=hL
       by_cases hk:1≤f.kind∧f.kind≤12
       · have this:f.kind=1∨f.kind=2∨f.kind=3∨f.kind=4∨f.kind=5∨f.kind=6∨f.kind=7∨f.kind=8∨f.kind=9∨f.kind=10∨f.kind=11∨f.kind=12:=by omega
         rcases this with h | h | h | h | h | h | h | h | h | h | h | h<;>simp only [h,k1,k2,k3,k4,k5,k6,k7,k8,k9,k10,k11,k12,Option.getD_some]<;>exact ⟨_,_,rfl,rfl,rfl⟩
       · rw [hn _ hk];exact ⟨_,_,rfl,rfl,rfl⟩
      rw [hab]
      simp (disch:=try exact DI) only [↓PR,QR,simprocAttr,(cells_of_heap o6).1,(cells_of_heap o6).2]
      have e6:Ext w5.drew ((w'.setCell ⟨p6,0,none⟩ a).setCell ⟨p6,1,none⟩ b):=(e'.setCell (show w5.drew.heap.size≤(⟨p6,0,none⟩:Addr).block from hp6) _).setCell (show w5.drew.heap.size≤(⟨p6,1,none⟩:Addr).block from hp6) _
      refine ⟨⟨e6,(hM.setCell _ _).setCell _ _⟩,?_⟩
      have e06:=(e05.trans eD).trans e6
      have o6':=heap_set (o:=1) (heap_set (o:=0) o6 a) b
      exact exa_mid e06 (h.ext e06) i hi hlt _ p6 f tv cv ht (TermsOf.ext hT e06) (CasesOf.ext hC e06) ((eD.trans e6).obj o35) L hL a b _ hab rfl (by simpa using o6')
     refine ⟨?_,?_⟩
     · refine callK_ret (kinds_ret _) ?_
       rintro _ w6 ⟨m,L,c,rfl,hm,hM,hL,e6⟩
       refine narrowK_KM e6 hM ?_
       have h9:=fin5 (w6.alloc (.cells #[.nilFunc,.nilFunc] 196)) m w6.heap.size c L _ _ (e6.alloc _) (hM.ext ((Ext.refl _).alloc _)) hL (heap_new _ _ _) (by have:=e6.size;simpa using this)
       unfold n26c5 at h9
       unfold n26c4
       simp only [drew_wdrew]
       haveI:ClassNe (KM w5.drew m kindEnc L c):=⟨⟨w6,e6,hM⟩⟩
       rw [qV_lookupKM Tryz.underlying198 (KeyOK.int Tryz.underlying32) ty196 ⟨w6,e6,hM⟩] at h9 ⊢
       simp (disch:=try exact DI) only [↓PR,QR,simprocAttr]
       simp only [↓Sw.GENQ] at h9
       exact ⟨⟨e6.alloc _,hM.ext ((Ext.refl _).alloc _)⟩,h9⟩
     · refine ⟨(Ext.refl _).alloc _,?_⟩
       refine callK_ret (kinds_ret _) ?_
       rintro _ w6 ⟨m,L,c,rfl,hm,hM,hL,e6⟩
       refine narrowK_KM (((Ext.refl _).alloc _).trans e6) hM ?_
       exact fin5 w6 m w5.heap.size c L _ _ (((Ext.refl _).alloc _).trans e6) hM hL (e6.obj (heap_new w5.drew _ _)) (Nat.le_refl _)
   · rw [orC_ne h0]
     exact flwR_pan (e04.trans e5) rfl h0
 · rw [orC_ne h0]
   exact flwR_pan (e01.trans e2) rfl h0
end
def refsF (f:FieldD):List ByteArray:=if f.kind=7∨f.kind=8∨f.kind=12 then [f.of] else if f.kind=9 then f.cases.map (·.of) else []
def allRefs (l:List FieldD):List ByteArray:=l.flatMap refsF
abbrev strEnc (s:ByteArray):List Value:=[.string s]
theorem append_str {w:World} {QP:List PanicEntry→World→Prop} {k:Value→World→Prop} {base:Nat} {v:Value} {l:List ByteArray} (s:ByteArray) {b:Nat} (hown:OwnE w base 9 1 strEnc v l) (hc:w.cell? ⟨b,0,none⟩=some (.string s)) (hbase:base≤w.heap.size) (hl:l.length≤1048576)
 (hk:∀ v' w',OwnE w' base 9 1 strEnc v' (l++[s])→w.grownBy w' v.ownBlock→k v' w') :
 opV Pg (Builtin.append_ #[138,138] 138 #[v,.slice (some ⟨b,0,none⟩) 1 1]) QP w k:=by
 have hby:=by9
 refine op_appendE (l':=[s]) Tryz.underlying138 ty9 rfl (by decide) (fun _=>rfl) (fun x _ u hu=>by simp at hu;subst hu;rfl) hown (fun j x hx=>?_) hbase ?_ (by simp;omega) hk
 · cases j with
   | zero =>
    simp at hx;subst hx
    intro j v hv
    cases j with
    | zero=>simp at hv;subst hv;simpa using hc
    | succ j=>simp at hv
   | succ j=>simp at hx
 · simp only [List.length_cons,List.length_nil]
   exact Nat.le_trans (Nat.mul_le_mul (Nat.add_le_add_right hl 1) hby) (by decide)
def StrsAt (w:World) (pb:Nat) (sv:Value) (l:List ByteArray):Prop:=w.cell? ⟨pb,0,none⟩=some sv∧SliceOf w 1 EStr sv l∧∀ A m c,sv = .slice (some A) m c→pb < A.block
theorem StrsAt.ext {w w':World} {pb:Nat} {sv:Value} {l:List ByteArray} (h:StrsAt w pb sv l) (e:Ext w w'):StrsAt w' pb sv l:=⟨e.cell h.1,h.2.1.ext keptStr e,h.2.2⟩
theorem append_cell {w0 w:World} {QP:List PanicEntry→World→Prop} {ku:World→Prop} {pb lo p:Nat} {sv:Value} {l:List ByteArray} (s:ByteArray) {T T':TypeId} (hp:p=w.heap.size) (e:Ext w0 w) (h0:w0.heap.size≤pb) (hlo:pb < lo) (o3:w.heap[pb]?=some (.cells #[sv] T (0,0))) (hO:OwnE w lo 9 1 strEnc sv l) (hs:lo≤w.heap.size) (hl:l.length≤1048576)
 (hk:∀ w' sv',Ext w0 w'→w'.heap[pb]?=some (.cells #[sv'] T (0,0))→OwnE w' lo 9 1 strEnc sv' (l++[s])→lo≤w'.heap.size→ku w') :
 opV Pg (Builtin.append_ #[138,138] 138 #[sv,.slice (some ⟨p,0,none⟩) 1 1]) QP (w.alloc (.cells #[.string s] T')) (fun t w=>opU Pg (Instr.storeAt 138 (.pointer (some ⟨pb,0,none⟩)) t) QP w ku):=by
 subst hp
 have l3:pb < w.heap.size:=(Array.getElem?_eq_some_iff.1 o3).1
 have o3':=((Ext.refl w).alloc (.cells #[.string s] T')).obj o3
 refine append_str s (hO.ext ((Ext.refl w).alloc _)) (by rw [cell_new];rfl) (Nat.le_trans hs (by simp)) hl ?_
 intro v' w' hO' hg
 have hne:some pb≠sv.ownBlock:=by
  intro h
  have:=hO.lt pb h.symm
  omega
 have o3w:w'.heap[pb]?=some (.cells #[sv] T (0,0)):=by rw [hg.block pb (by simp;omega) hne];exact o3'
 have eg:Ext w0 w':=(e.alloc _).grown hg (fun k hk=>by have:=hO.lt k hk;omega)
 have hv:=(hO'.slice (E:=EStr) (fun _=>rfl) (fun _ _=>rfl)).oneCell
 rw [op_store1 ty138 hv ((cells_of_heap o3w).1 0) ((cells_of_heap o3w).2 0)]
 refine hk _ v' (eg.setCell h0 _) ?_ ((hO'.range.only (Only.setCell w' pb 0 v') (.inr (.inl hlo))).1) ?_
 · have:=heap_set (o:=0) o3w v'
   simpa using this
 · have:=hg.size
   simp at this ⊢
   omega
theorem Refers_ret (w0:World) (v:Value) (m:MsgD) (hm:MsgVal w0 v m) (hb:(allRefs m.fields).length≤1048576) :
 Ret Pg 145 #[v] w0 fun r w'=>∃ pb sv,r = .func (.func 162) #[] #[.pointer (some ⟨pb,0,none⟩)]∧StrsAt w' pb sv (allRefs m.fields)∧w0.heap.size≤pb∧Ext w0 w':=by
 obtain ⟨fv,rfl,hF⟩:=hm
 obtain ⟨A,c,rfl,hlc,hcm,hlm,hel⟩:=SliceOf.open hF
 refine n19s (R:=retR _) ?_;unfold n19
 simp (disch:=try exact DI) only [↓PR,QR,simprocAttr]
 generalize hW:World.alloc (World.alloc w0 _) _=W
 have e0:Ext w0 W:=by rw [← hW];exact ee
 have hsz:W.heap.size=w0.heap.size+1+1:=by rw [← hW];simp only [World.size_alloc]
 have o3:W.heap[w0.heap.size+1]?=some (.cells #[.slice none 0 0] 138 (0,0)):=by rw [← hW];simp (disch:=try exact DI) only [↓PR,QR,simprocAttr]
 clear hW
 refine loop1_intro (fun a0 w=>∃ (k:Nat) , a0 = .int .i64 (k:Int)∧k≤m.fields.length∧Ext w0 w∧(∃ sv,w.heap[w0.heap.size+1]?=some (.cells #[sv] 138 (0,0))∧OwnE w W.heap.size 9 1 strEnc sv (allRefs (m.fields.take k))∧W.heap.size≤w.heap.size)) (fun a0 _=>m.fields.length - (intOf a0).toNat) ⟨0,rfl,Nat.zero_le _,ee,⟨_,o3,OwnE.nil _ _ _ _ _,Nat.le_refl _⟩⟩ ?_
 rintro _ w ⟨k,rfl,hk,e,hI⟩
 have se:=e.size
 rcases drop_cases hk with ⟨x,hx,hd,hlt,hdec⟩ | ⟨hk,hd,hdec⟩
 · obtain ⟨sv,o3,hO,hsW⟩:=hI
   obtain ⟨b,o,cs,rfl,hl,hA,hE⟩:=hel k x hx
   obtain ⟨tv,cv,rfl,hT,hC,ht1,hc1⟩:=hE.op
   have hpre:(allRefs (m.fields.take (k+1)))=allRefs (m.fields.take k)++refsF x:=by unfold allRefs;rw [take_snoc hx,List.flatMap_append];simp
   have hle:(allRefs (m.fields.take (k+1))).length≤1048576:=by
    refine Nat.le_trans ?_ hb
    have:m.fields=m.fields.take (k+1)++m.fields.drop (k+1):=(List.take_append_drop _ _).symm
    conv=>rhs;rw [this]
    unfold allRefs
    rw [List.flatMap_append,List.length_append]
    omega
   rw [hpre,List.length_append] at hle
   have hsv:=(hO.slice (E:=EStr) (fun _=>rfl) (fun _ _=>rfl)).oneCell
   simp (disch:=try exact DI) only [↓PR,QR,simprocAttr,↓n19c1,↓n19c2,↓n19c3,↓n19c4,↓n19c5,↓n19c6,↓n19c7,hdec,hA.c15]
   generalize hW1:World.alloc w _=w1
   have e1:Ext w w1:=by rw [← hW1];exact ee
   have o5:w1.heap[w.heap.size]?=some (.cells (fieldCells x tv cv).toArray 38 (0,0)):=by rw [← hW1];simp (disch:=try exact DI) only [↓PR,QR,simprocAttr]
   clear hW1
   have s1:=e1.size
   have e01:=e.trans e1
   have o31:=e1.obj o3
   have hO1:=hO.ext e1
   have l5:w.heap.size < w1.heap.size:=(Array.getElem?_eq_some_iff.1 o5).1
   have l3:w0.heap.size+1 < w1.heap.size:=(Array.getElem?_eq_some_iff.1 o31).1
   by_cases hr:x.kind=7∨x.kind=8∨x.kind=12
   · have hrf:refsF x=[x.of]:=by unfold refsF;rw [if_pos hr]
     rw [hrf] at hpre hle
     have key:∀ b,b=true→n19c4 (.pointer (some ⟨w0.heap.size+1,0,none⟩)) (.pointer (some ⟨w.heap.size,0,none⟩)) (.int .i64 (k:Int)) (.int .i64 x.kind) (.bool b) (fun a0' w'=>(∃ k:Nat,a0'=Value.int IntKind.i64 (k:Int)∧k≤m.fields.length∧Ext w0 w'∧∃ sv,w'.heap[w0.heap.size+1]?=some (.cells #[sv] 138 (0,0))∧OwnE w' W.heap.size 9 1 strEnc sv (allRefs (m.fields.take k))∧W.heap.size≤w'.heap.size)∧m.fields.length - (intOf a0').toNat < m.fields.length - (intOf (Value.int IntKind.i64 (k:Int))).toNat)
      (retR fun r w'=>∃ pb sv,r = .func (.func 162) #[] #[.pointer (some ⟨pb,0,none⟩)]∧StrsAt w' pb sv (allRefs m.fields)∧w0.heap.size≤pb∧Ext w0 w') w1:=by
      rintro b rfl
      simp (disch:=try exact DI) only [↓PR,QR,simprocAttr,↓n19c1,↓n19c2,↓n19c3,↓n19c4,↓n19c5,↓n19c6,↓n19c7,(cells_of_heap o31).1,(cells_of_heap o5).1]
      refine append_cell x.of rfl e01 (by omega) (by omega) o31 hO1 (by omega) (by simp at hle;omega) ?_
      intro w2 sv2 e2 o32 hO2 hs2
      rw [← hpre] at hO2
      simp (disch:=try exact DI) only [↓PR,QR,simprocAttr]
      exact ⟨⟨k+1,rfl,by omega,ee,⟨sv2,o32,hO2,hs2⟩⟩,meas_lt hlt⟩
     simp only [World.size_alloc]
     rcases hr with h | h | h
     · rw [h] at key ⊢
       simp (disch:=try exact DI) only [↓PR,QR,simprocAttr]
       exact key true rfl
     · rw [h] at key ⊢
       simp (disch:=try exact DI) only [↓PR,QR,simprocAttr,↓n19c5]
       exact key true rfl
     · rw [h] at key ⊢
       simp (disch:=try exact DI) only [↓PR,QR,simprocAttr,↓n19c5]
       exact key true rfl
   · have h7:(x.kind == 7)=false:=by simp;omega
     have h8:(x.kind == 8)=false:=by simp;omega
     have h12:(x.kind == 12)=false:=by simp;omega
     simp only [World.size_alloc]
     by_cases h9:x.kind=9
     · have h9':(x.kind == 9)=true:=by simp [h9]
       have hrf:refsF x=x.cases.map (·.of):=by unfold refsF;rw [if_neg hr,if_pos h9]
       rw [hrf] at hpre hle
       obtain ⟨A',c',rfl,hlc',hcm',hlm',hel'⟩:=SliceOf.open hC
       simp (disch:=try exact DI) only [↓PR,QR,simprocAttr,↓n19c1,↓n19c2,↓n19c3,↓n19c4,↓n19c5,↓n19c6,↓n19c7,h7,h8,h12,h9',(cells_of_heap o5).1]
       refine loop1_intro (fun a0 wa=>∃ (ka:Nat) , a0 = .int .i64 (ka:Int)∧ka≤x.cases.length∧Ext w0 wa∧(∃ sv,wa.heap[w0.heap.size+1]?=some (.cells #[sv] 138 (0,0))∧OwnE wa W.heap.size 9 1 strEnc sv (allRefs (m.fields.take k)++(x.cases.take ka).map (·.of))∧W.heap.size≤wa.heap.size)) (fun a0 _=>x.cases.length - (intOf a0).toNat) ⟨0,rfl,Nat.zero_le _,ee,⟨sv,o31,by simpa using hO1,by omega⟩⟩ ?_
       rintro _ wa ⟨ka,rfl,hka,ea,hIa⟩
       have sea:=ea.size
       rcases drop_cases hka with ⟨xa,hxa,hda,hlta,hdeca⟩ | ⟨hka,hda,hdeca⟩
       · obtain ⟨sva,oa,hOa,hsa⟩:=hIa
         obtain ⟨b',o',cs',rfl,_,hA',rfl⟩:=hel' ka xa hxa
         have la:w0.heap.size+1 < wa.heap.size:=(Array.getElem?_eq_some_iff.1 oa).1
         have oa':=((Ext.refl wa).alloc (.cells #[.int .i64 xa.low,.int .i64 xa.high,.string xa.of] 116)).obj oa
         have hla:(x.cases.take ka).length≤x.cases.length:=by rw [List.length_take];omega
         simp (disch:=try exact DI) only [↓PR,QR,simprocAttr,↓n19c1,↓n19c2,↓n19c3,↓n19c4,↓n19c5,↓n19c6,↓n19c7,hdeca,hA'.c3,(cells_of_heap oa').1,(cells_of_heap oa).1]
         refine append_cell xa.of (by simp only [World.size_alloc]) (ea.alloc _) (by omega) (by omega) oa' (hOa.ext ((Ext.refl wa).alloc _)) (by simp;omega) (by simp at hle hla ⊢;omega) ?_
         intro w2 sv2 e2 o32 hO2 hs2
         simp (disch:=try exact DI) only [↓PR,QR,simprocAttr]
         have hO3:OwnE w2 W.heap.size 9 1 strEnc sv2 (allRefs (m.fields.take k)++(x.cases.take (ka+1)).map (·.of)):=by
          rw [take_snoc hxa,List.map_append,← List.append_assoc];exact hO2
         exact ⟨⟨ka+1,rfl,by omega,ee,⟨sv2,o32,hO3,hs2⟩⟩,meas_lt hlta⟩
       · subst hka
         obtain ⟨sva,oa,hOa,hsa⟩:=hIa
         rw [List.take_length,← hpre] at hOa
         simp (disch:=try exact DI) only [↓PR,QR,simprocAttr,↓n19c1,↓n19c2,↓n19c3,↓n19c4,↓n19c5,↓n19c6,↓n19c7,hdeca]
         exact ⟨⟨k+1,rfl,by omega,ee,⟨sva,oa,hOa,hsa⟩⟩,meas_lt hlt⟩
     · have h9':(x.kind == 9)=false:=by simp;omega
       have hrf:refsF x=[]:=by unfold refsF;rw [if_neg hr,if_neg h9]
       rw [hrf,List.append_nil] at hpre
       rw [← hpre] at hO1
       simp (disch:=try exact DI) only [↓PR,QR,simprocAttr,↓n19c1,↓n19c2,↓n19c3,↓n19c4,↓n19c5,↓n19c6,↓n19c7,h7,h8,h12,h9',(cells_of_heap o5).1]
       exact ⟨⟨k+1,rfl,by omega,ee,⟨sv,o31,hO1,by omega⟩⟩,meas_lt hlt⟩
 · subst hk
   obtain ⟨sv,o3,hO,hsW⟩:=hI
   rw [List.take_length] at hO
   simp (disch:=try exact DI) only [↓PR,QR,simprocAttr,↓n19c1,↓n19c2,↓n19c3,↓n19c4,↓n19c5,↓n19c6,↓n19c7,hdec]
   have hS:=hO.slice (E:=EStr) (fun _=>rfl) (fun _ _=>rfl)
   exact ⟨_,sv,rfl,⟨(cells_of_heap o3).1 0,hS,fun A m c e=>by subst e;have:=hO.lt A.block rfl;omega⟩,by omega,e⟩
theorem Index_string_ret (w0:World) (v:Value) (l:List ByteArray) (s:ByteArray) (hs:SliceOf w0 1 EStr v l) :
 Ret Pg 198 #[v,.string s] w0 fun r w'=>r = .int .i64 (idx (fun y=>decide (s=y)) l)∧Ext w0 w':=by
 obtain ⟨A,c,rfl,hlc,hcm,hlm,hel⟩:=SliceOf.open hs
 refine n92s (R:=retR _) ?_;unfold n92
 simp (disch:=try exact DI) only [↓PR,QR,simprocAttr]
 refine loop1_intro (fun a0 w=>∃ (k:Nat) , a0 = .int .i64 (k:Int)∧k≤l.length∧Ext w0 w∧∀ (j:Nat) y,j < k→l[j]?=some y→decide (s=y)=false) (fun a0 _=>l.length - (intOf a0).toNat) ⟨0,rfl,Nat.zero_le _,ee,fun j y h=>by omega⟩ ?_
 rintro _ w ⟨k,rfl,hk,e,hI⟩
 have se:=e.size
 rcases drop_cases hk with ⟨x,hx,hd,hlt,hdec⟩ | ⟨hk,hd,hdec⟩
 · obtain ⟨b,o,cs,rfl,hl,hA,rfl⟩:=hel k x hx
   simp (disch:=try exact DI) only [↓PR,QR,simprocAttr,hdec,hA.c1,↓n92c1]
   cases hp:decide (s=x) with
   | true =>
    simp (disch:=try exact DI) only [↓PR,QR,simprocAttr]
    exact ⟨by rw [idx_here hx hp hI],e⟩
   | false =>
    simp (disch:=try exact DI) only [↓PR,QR,simprocAttr]
    exact ⟨⟨k+1,rfl,by omega,ee,before_succ hI hx hp⟩,meas_lt hlt⟩
 · subst hk
   simp (disch:=try exact DI) only [↓PR,QR,simprocAttr,hdec,↓n92c1]
   exact ⟨by rw [idx_none fun j y hy=>hI j y (List.getElem?_eq_some_iff.1 hy).1 hy],e⟩
theorem Contains_string_ret (w0:World) (v:Value) (l:List ByteArray) (s:ByteArray) (hs:SliceOf w0 1 EStr v l) :
 Ret Pg 163 #[v,.string s] w0 fun r w'=>r = .bool (l.any fun y=>decide (s=y))∧Ext w0 w':=by
 refine n85s (R:=retR _) ?_;unfold n85
 refine callK_ret (Index_string_ret _ _ l s hs) ?_
 rintro r w' ⟨rfl,e⟩
 simp (disch:=try exact DI) only [↓PR,QR,simprocAttr,Sw.joinK_eq]
 exact ⟨by rw [idx_neg],e⟩
def dedupA:List ByteArray→List ByteArray→List ByteArray
 | _,[]=>[]
 | seen,s::l=>if seen.any (fun y=>decide (s=y)) then dedupA (seen++[s]) l else s::dedupA (seen++[s]) l
def strX (l:List ByteArray) (k:Nat):Value:=match l[k]? with
 | some s => .string s
 | none=>undef
theorem Refers_seq (pb:Nat) (sv:Value) (l:List ByteArray):SeqIt Pg 162 #[.pointer (some ⟨pb,0,none⟩)] (dedupA [] l).length (strX (dedupA [] l)) (fun w=>StrsAt w pb sv l):=by
 intro yv J Jx Jp w hFP hJe hJx hstep h0
 obtain ⟨hc,hT,_⟩:=hFP 0 w h0
 obtain ⟨A,c,rfl,hlc,hcm,hlm,hel⟩:=SliceOf.open hT
 refine n20s (t0:=yv) (t1 := .pointer (some ⟨pb,0,none⟩)) ?_
 unfold n20
 simp (disch:=try exact DI) only [↓PR,QR,simprocAttr,hc]
 refine loop1_intro (fun i w=>∃ k j:Nat,i = .int .i64 k∧k≤l.length∧J j w∧j≤(dedupA [] l).length∧(dedupA [] l).drop j=dedupA (l.take k) (l.drop k)) (fun i _=>l.length - (intOf i).toNat) ⟨0,0,rfl,by omega,h0,by omega,rfl⟩ ?_
 rintro i w' ⟨k,j,rfl,hk,hJ,hj,hD⟩
 rcases drop_cases hk with ⟨x,hx,hd,hlt,hdec⟩ | ⟨hk,hd,hdec⟩
 · obtain ⟨hc',hT',_⟩:=hFP j w' hJ
   obtain ⟨A',c',hv,_,hcm',_,hel'⟩:=SliceOf.open hT'
   injection hv with hv _ hv'
   subst hv hv'
   obtain ⟨b,o,cs,rfl,hl,hA,rfl⟩:=hel' k x hx
   have er:=Ext.refl w'
   rw [hd] at hD
   simp only [dedupA] at hD
   simp (disch:=try exact DI) only [↓PR,QR,simprocAttr,↓n20c1,↓n20c2,hdec,hA.c1,hc']
   rw [op_sliceTo Tryz.underlying138 ty9 b o l.length c .i64 k (by omega)]
   have hlen:(l.take k).length=k:=by rw [List.length_take];omega
   have hpre:SliceOf w' 1 EStr (.slice (some ⟨b,o,none⟩) k c) (l.take k):=by
    refine ⟨_,c,by rw [hlen],by rw [hlen];omega,hcm,fun _=>⟨b,o,rfl,fun i y hy=>?_⟩⟩
    rw [List.getElem?_take] at hy
    split at hy
    · obtain ⟨b',o',cs,hA',h1,h2,h3⟩:=hel' i y hy
      injection hA' with hA'
      injection hA' with h5 h6
      subst h5 h6
      exact ⟨cs,h1,h2,h3⟩
    · cases hy
   refine zcr (Contains_string_ret w' _ _ x hpre) fun w2 e2=>?_
   have hJ2:=hJe j w' w2 hJ e2
   have htk:l.take (k+1)=l.take k++[x]:=take_snoc hx
   cases hany:(l.take k).any (fun y=>decide (x=y)) with
   | true =>
    rw [hany,if_pos rfl,← htk] at hD
    simp (disch:=try exact DI) only [↓PR,QR,simprocAttr,↓n20c1,↓n20c2]
    exact ⟨⟨k+1,j,rfl,by omega,hJ2,hj,hD⟩,meas_lt hlt⟩
   | false =>
    rw [hany,if_neg (by simp),← htk] at hD
    have hjl:j < (dedupA [] l).length:=by
     have:=congrArg List.length hD
     simp at this
     omega
    have hxj:(dedupA [] l)[j]?=some x:=by
     have:=congrArg (fun l=>l[0]?) hD
     simpa using this
    have hD2:(dedupA [] l).drop (j+1)=dedupA (l.take (k+1)) (l.drop (k+1)):=by
     rw [← List.tail_drop,hD];rfl
    have hs:=hstep j hjl w2 hJ2
    rw [show strX (dedupA [] l) j = .string x by unfold strX;rw [hxj]] at hs
    simp (disch:=try exact DI) only [↓PR,QR,simprocAttr,↓n20c1,↓n20c2]
    refine callV_mono hs (fun ch w h=>h) ?_
    rintro v w3 (⟨rfl,h2⟩ | ⟨rfl,h2⟩)
    · simp (disch:=try exact DI) only [↓PR,QR,simprocAttr,↓n20c1,↓n20c2]
      exact ⟨⟨k+1,j+1,rfl,by omega,h2,hjl,hD2⟩,meas_lt hlt⟩
    · simp (disch:=try exact DI) only [↓PR,QR,simprocAttr,↓n20c1,↓n20c2]
      exact .inr h2
 · subst hk
   simp (disch:=try exact DI) only [↓PR,QR,simprocAttr,↓n20c1,↓n20c2,hdec]
   rw [hd] at hD
   have hjl:j=(dedupA [] l).length:=by
    have:=congrArg List.length hD
    simp [dedupA] at this
    omega
   rw [← hjl]
   exact .inl hJ
def lastP {β:Type} (l:List (ByteArray×β)) (s:ByteArray):Option β:=(l.reverse.find? (fun p=>decide (p.1=s))).map (·.2)
theorem lastP_snoc {β:Type} (ps:List (ByteArray×β)) (p:ByteArray×β) (s:ByteArray):lastP (ps++[p]) s=if p.1=s then some p.2 else lastP ps s:=by
 unfold lastP
 rw [List.reverse_append,List.reverse_singleton,List.singleton_append,List.find?_cons]
 by_cases h:p.1=s<;>simp [h]
theorem lastP_mem {β:Type} {ps:List (ByteArray×β)} {s:ByteArray} {v:β} (h:lastP ps s=some v):(s,v)∈ps:=by
 unfold lastP at h
 obtain ⟨q,hq,rfl⟩:=Option.map_eq_some_iff.1 h
 have h1:=List.find?_some hq
 have h2:=List.mem_of_find?_eq_some hq
 simp only [decide_eq_true_eq] at h1
 subst h1
 exact List.mem_reverse.1 h2
def vI (l:List (ByteArray×Int)):List (ByteArray×Value):=l.map fun p=>(p.1,.int .i64 p.2)
def vB (l:List (ByteArray×Bool)):List (ByteArray×Value):=l.map fun p=>(p.1,.bool p.2)
theorem lastOf_map {β:Type} (g:β→Value) (l:List (ByteArray×β)) (s:ByteArray):lastOf (l.map fun p=>(p.1,g p.2)) s=(lastP l s).map g:=by
 unfold lastOf lastP
 rw [← List.map_reverse,List.find?_map]
 simp only [Option.map_map]
 rfl
theorem lastOf_vI (l:List (ByteArray×Int)) (s:ByteArray):lastOf (vI l) s=(lastP l s).map fun n => .int .i64 n:=lastOf_map _ l s
theorem lastOf_vB (l:List (ByteArray×Bool)) (s:ByteArray):lastOf (vB l) s=(lastP l s).map Value.bool:=lastOf_map _ l s
theorem strB_vB (l:List (ByteArray×Bool)) (s:ByteArray):strB (vB l) s=(lastP l s).getD false:=by
 unfold strB;rw [lastOf_vB];cases lastP l s<;>rfl
structure CkO (a0 w:World) (cb md ms:Nat) (deps:List (ByteArray×Int)) (strs:List (ByteArray×Bool)) (at_ fld:Int) (fs:List FieldD):Prop where
 ext:Ext a0 w
 obj:∃ dn mv ds mn fv,w.heap[cb]?=some (.cells #[.string dn,mv,.string ds,.map (some md),.map (some ms),.int .i64 at_,.int .i64 fld,.string mn,fv] 159 (0,0))∧FieldsOf a0 fv fs
 mdeps:MapOf w md (vI deps)
 mstrs:MapOf w ms (vB strs)
 lcb:a0.heap.size≤cb
 lmd:a0.heap.size≤md
 lms:a0.heap.size≤ms
 ne:md≠ms
section
variable {a0 w w':World} {cb md ms:Nat} {deps:List (ByteArray×Int)} {strs:List (ByteArray×Bool)} {at_ fld:Int} {fs:List FieldD}
theorem CkO.chk (h:CkO a0 w cb md ms deps strs at_ fld fs):Chk w cb md ms (vI deps) (vB strs) at_ fld fs:=by
 obtain ⟨dn,mv,ds,mn,fv,h1,h2⟩:=h.obj
 refine ⟨⟨dn,mv,ds,mn,fv,h1,h2.ext h.ext⟩,h.mdeps,h.mstrs,fun k v hv=>?_,fun k v hv=>?_⟩
 · rw [lastOf_vI] at hv;obtain ⟨n,_,rfl⟩:=Option.map_eq_some_iff.1 hv;exact ⟨n,rfl⟩
 · rw [lastOf_vB] at hv;obtain ⟨n,_,rfl⟩:=Option.map_eq_some_iff.1 hv;exact ⟨n,rfl⟩
theorem CkO.nd (h:CkO a0 w cb md ms deps strs at_ fld fs):cb≠md∧cb≠ms∧cb < w.heap.size∧md < w.heap.size∧ms < w.heap.size:=by
 obtain ⟨dn,mv,ds,mn,fv,h1,h2⟩:=h.obj
 refine ⟨?_,?_,(Array.getElem?_eq_some_iff.1 h1).1,h.mdeps.lt,h.mstrs.lt⟩
 · rintro rfl;have:=h.mdeps.obj;rw [h1] at this;cases this
 · rintro rfl;have:=h.mstrs.obj;rw [h1] at this;cases this
theorem CkO.go (h:CkO a0 w cb md ms deps strs at_ fld fs) (e:Ext w w'):CkO a0 w' cb md ms deps strs at_ fld fs:=by
 obtain ⟨dn,mv,ds,mn,fv,h1,h2⟩:=h.obj
 exact ⟨h.ext.trans e,⟨dn,mv,ds,mn,fv,e.obj h1,h2⟩,h.mdeps.ext e,h.mstrs.ext e,h.lcb,h.lmd,h.lms,h.ne⟩
theorem CkO.other (h:CkO a0 w cb md ms deps strs at_ fld fs) {b o:Nat} (hb:a0.heap.size≤b) (hn:b≠cb) (v:Value):CkO a0 (w.setCell ⟨b,o,none⟩ v) cb md ms deps strs at_ fld fs:=by
 obtain ⟨dn,mv,ds,mn,fv,h1,h2⟩:=h.obj
 refine ⟨h.ext.setCell hb v,⟨dn,mv,ds,mn,fv,?_,h2⟩,h.mdeps.setCell _ _,h.mstrs.setCell _ _,h.lcb,h.lmd,h.lms,h.ne⟩
 rw [Only.setCell w b o v cb (fun e=>hn e.symm)];exact h1
theorem CkO.setFld (h:CkO a0 w cb md ms deps strs at_ fld fs) (n:Int):CkO a0 (w.setCell ⟨cb,6,none⟩ (.int .i64 n)) cb md ms deps strs at_ n fs:=by
 obtain ⟨dn,mv,ds,mn,fv,h1,h2⟩:=h.obj
 exact ⟨h.ext.setCell h.lcb _,⟨dn,mv,ds,mn,fv,heap_set h1 _,h2⟩,h.mdeps.setCell _ _,h.mstrs.setCell _ _,h.lcb,h.lmd,h.lms,h.ne⟩
theorem CkO.setAt (h:CkO a0 w cb md ms deps strs at_ fld fs) (n:Int):CkO a0 (w.setCell ⟨cb,5,none⟩ (.int .i64 n)) cb md ms deps strs n fld fs:=by
 obtain ⟨dn,mv,ds,mn,fv,h1,h2⟩:=h.obj
 exact ⟨h.ext.setCell h.lcb _,⟨dn,mv,ds,mn,fv,heap_set h1 _,h2⟩,h.mdeps.setCell _ _,h.mstrs.setCell _ _,h.lcb,h.lmd,h.lms,h.ne⟩
theorem CkO.setMsg (h:CkO a0 w cb md ms deps strs at_ fld fs) (s:ByteArray) (fv':Value) (fs':List FieldD) (hf:FieldsOf a0 fv' fs'):CkO a0 ((w.setCell ⟨cb,7,none⟩ (.string s)).setCell ⟨cb,8,none⟩ fv') cb md ms deps strs at_ fld fs':=by
 obtain ⟨dn,mv,ds,mn,fv,h1,h2⟩:=h.obj
 exact ⟨(h.ext.setCell h.lcb _).setCell h.lcb _,⟨dn,mv,ds,s,fv',heap_set (heap_set h1 _) _,hf⟩,(h.mdeps.setCell _ _).setCell _ _,(h.mstrs.setCell _ _).setCell _ _,h.lcb,h.lmd,h.lms,h.ne⟩
theorem CkO.putOther (h:CkO a0 w cb md ms deps strs at_ fld fs) {B:Nat} (o:Obj) (hB:a0.heap.size≤B) (h1:B≠cb) (h2:B≠md) (h3:B≠ms):CkO a0 (w.putObj B o) cb md ms deps strs at_ fld fs:=by
 obtain ⟨dn,mv,ds,mn,fv,h4,h5⟩:=h.obj
 exact ⟨h.ext.putObj hB o,⟨dn,mv,ds,mn,fv,(World.putObj_heap_other (fun e=>h1 e.symm)).trans h4,h5⟩,MapB.putOther h.mdeps (fun e=>h2 e.symm) o,MapB.putOther h.mstrs (fun e=>h3 e.symm) o,h.lcb,h.lmd,h.lms,h.ne⟩
theorem CkO.unmark (h:CkO a0 w cb md ms deps strs at_ fld fs) {B:Nat} (hm:MarkAt B w) (hB:a0.heap.size≤B):CkO a0 (w.putObj B (.deferred none)) cb md ms deps strs at_ fld fs:=by
 obtain ⟨dn,mv,ds,mn,fv,h4,h5⟩:=h.obj
 refine h.putOther _ hB ?_ ?_ ?_
 · rintro rfl;unfold MarkAt at hm;rw [h4] at hm;cases hm
 · rintro rfl;unfold MarkAt at hm;have:=h.mdeps.obj;rw [hm] at this;cases this
 · rintro rfl;unfold MarkAt at hm;have:=h.mstrs.obj;rw [hm] at this;cases this
theorem CkO.lasts {B:Nat} (hB:a0.heap.size≤B):Lasts B (fun w=>CkO a0 w cb md ms deps strs at_ fld fs):=by
 refine ⟨fun w w' h e=>h.go e,fun w l r r' hl h hr=>?_⟩
 obtain ⟨dn,mv,ds,mn,fv,h4,h5⟩:=h.obj
 refine h.putOther _ (by omega) ?_ ?_ ?_
 · rintro rfl;rw [h4] at hr;cases hr
 · rintro rfl;have:=h.mdeps.obj;rw [hr] at this;cases this
 · rintro rfl;have:=h.mstrs.obj;rw [hr] at this;cases this
theorem CkO.turn (h:CkO a0 w cb md ms deps strs at_ fld fs) {o:Obj} {r:Nat} (hr:r=md∨r=ms):CkO a0 w cb md ms deps strs at_ fld fs:=h
theorem StrsAt.lasts (B pb:Nat) (sv:Value) (l:List ByteArray):Lasts B (fun w=>StrsAt w pb sv l) :=
 Lasts.and (Lasts.cell B) (Lasts.and ⟨fun _ _ h e=>h.ext keptStr e,fun _ _ _ _ _ h hl=>SliceOf.putLoop (fun _ _ h=>h) hl h⟩ (Lasts.const _ _))
theorem StrsAt.set {w:World} {pb:Nat} {sv:Value} {l:List ByteArray} (h:StrsAt w pb sv l) {b o:Nat} (hb:b < pb) (u:Value):StrsAt (w.setCell ⟨b,o,none⟩ u) pb sv l :=
 ⟨by rw [cell_set_other (by omega)];exact h.1,SliceOf.setOther h.2.1 u (fun A m c e=>by have:=h.2.2 A m c e;omega) (fun _ _ h=>h),h.2.2⟩
end
def refsM (m:MsgD):List ByteArray:=dedupA [] (allRefs m.fields)
def fieldsP (deps:List (ByteArray×Int)) (strs:List (ByteArray×Bool)) (bef:List FieldD):List FieldD→Int×Int
 | []=>(-1,0)
 | f::l=>if examineC bef (vI deps) (vB strs) f=0 then fieldsP deps strs (bef++[f]) l else (bef.length,examineC bef (vI deps) (vB strs) f)
def maxI (a b:Int):Int:=if b > a then b else a
def depthM (deps:List (ByteArray×Int)) (m:MsgD):Int:=(refsM m).foldl (fun d s=>maxI d ((lastP deps s).getD 0)) 0
def strictM (strs:List (ByteArray×Bool)) (m:MsgD):Bool:=(m.fields.all fun f=>!f.loose)&&(refsM m).all fun s=>(lastP strs s).getD false
def tailP (deps:List (ByteArray×Int)) (m:MsgD) (r:Int×Int):Int×Int:=if r.2=0 then (if depthM deps m < 16 then (-1,0) else (-1,10)) else r
def nextP (deps:List (ByteArray×Int)) (strs:List (ByteArray×Bool)) (m:MsgD):Int×Int :=
 if nameB m.name then (if (lastP deps m.name).isSome then (-1,2) else (if 1≤m.fields.length∧m.fields.length≤40 then tailP deps m (fieldsP deps strs [] m.fields) else (-1,3))) else (-1,1)
def nxtR (a0:World) (at_:Int) (r:Int×Int) (K:World→Prop):Ending→World→Prop:=fun e w'=>Ext a0 w'∧(r.2=0∧e = .returned (.tuple #[])∧K w'∨r.2≠0∧e = .panicked [flawEntry at_ r.1 r.2])
theorem nxtR_ret {a0 w':World} {at_:Int} {r:Int×Int} {K:World→Prop} (e:Ext a0 w') (h:r.2=0) (hK:K w'):nxtR a0 at_ r K (.returned (.tuple #[])) w':=⟨e,.inl ⟨h,rfl,hK⟩⟩
theorem nxtR_pan {a0 w':World} {at_ a b:Int} {r:Int×Int} {K:World→Prop} (e:Ext a0 w') (h:r=(a,b)) (h0:b≠0):nxtR a0 at_ r K (.panicked [flawEntry at_ a b]) w':=by subst h;exact ⟨e,.inr ⟨h0,rfl⟩⟩
theorem qV_loadG {P:Program} {C:World→Prop} [ClassNe C] {T:TypeId} {a:Addr} {v:Value} {k:Value→Prop} (h:∀ w',C w'→Loads P w' T a v):qV P C (Instr.loadAt T (.pointer (some a))) k=k v :=
 qV_eqC fun w' e=>run_of_op fun QP k=>op_load (h w' e)
section
variable {a0 w:World} {cb md ms:Nat} {deps:List (ByteArray×Int)} {strs:List (ByteArray×Bool)} {at_ fld:Int} {fs:List FieldD}
theorem nxt_end (h:CkO a0 w cb md ms deps strs at_ (-1) fs) (p2 p3 p6 p9 B:Nat) (m:MsgD) (fv:Value) (st:Bool) (dp:Int) (hd0:0≤dp) (hd1:dp≤1000)
 (o2:w.heap[p2]?=some (.cells #[.pointer (some ⟨cb,0,none⟩)] 127 (0,0))) (o3:w.heap[p3]?=some (.cells (msgCells m fv).toArray 44 (0,0))) (o6:w.heap[p6]?=some (.cells #[.bool st] 4 (0,0))) (o9:w.heap[p9]?=some (.cells #[.int .i64 dp] 3 (0,0)))
 (hmk:MarkAt B w) (hB:a0.heap.size≤B) (r:Int×Int) (hr:r=if dp < 16 then (-1,0) else (-1,10)) (K:World→Prop)
 (hK:∀ w',CkO a0 w' cb md ms (deps++[(m.name,dp+1)]) (strs++[(m.name,st)]) at_ (-1) fs→K w') :
 drawK w fun C12 w=>n28c8 (.pointer (some ⟨p2,0,none⟩)) (.pointer (some ⟨p3,0,none⟩)) (.pointer (some ⟨p6,0,none⟩)) (.pointer (some ⟨p9,0,none⟩)) C12 [Sw.mark B] (nxtR a0 at_ r K) w:=by
 obtain ⟨n1,n2,l1,l2,l3⟩:=h.nd
 have hne:=h.ne
 obtain ⟨dn,mv,ds,mn,fv',h1,h2⟩:=h.obj
 have m2:p2≠md:=by rintro rfl;have:=h.mdeps.obj;rw [o2] at this;cases this
 have m3:p3≠md:=by rintro rfl;have:=h.mdeps.obj;rw [o3] at this;cases this
 have m6:p6≠md:=by rintro rfl;have:=h.mdeps.obj;rw [o6] at this;cases this
 have m9:p9≠md:=by rintro rfl;have:=h.mdeps.obj;rw [o9] at this;cases this
 have q2:p2≠ms:=by rintro rfl;have:=h.mstrs.obj;rw [o2] at this;cases this
 have q3:p3≠ms:=by rintro rfl;have:=h.mstrs.obj;rw [o3] at this;cases this
 have q6:p6≠ms:=by rintro rfl;have:=h.mstrs.obj;rw [o6] at this;cases this
 have q9:p9≠ms:=by rintro rfl;have:=h.mstrs.obj;rw [o9] at this;cases this
 refine drawK_introB (w1:=w) md ms (fun _ _ _ _=>rfl) ?_
 unfold n28c8
 simp (disch:=try exact DI) only [↓PR,QR,simprocAttr,(cells_of_heap h1).1,(cells_of_heap o2).1,(cells_of_heap o3).1,(cells_of_heap o6).1,(cells_of_heap o9).1]
 have eD:Ext w w.drew:=(Ext.refl w).drew
 have hmd:MapOf w.drew md (vI deps):=h.mdeps.ext eD
 rw [op_mapEntryS Tryz.underlying156 Tryz.underlying9 ty3 hmd m.name]
 refine ⟨fun b hb b1 b2=>(World.putObj_heap_other b1),?_⟩
 unfold n28c7
 simp (disch:=try exact DI) only [↓PR,QR,simprocAttr]
 rw [op_entryStore (MapB.ent hmd m.name _) (hasK_ent _ _),ent_put,putObj_putObj]
 have hw1:w.drew.putObj md (mapObj (fun s:ByteArray=>Value.string s) (putL (bld (vI deps)).1 (bld (vI deps)).2 m.name (.int .i64 (IntKind.i64.wrap (dp+1)))) (putC (bld (vI deps)).1 (bld (vI deps)).2 m.name))=putW w.drew md (vI deps) m.name (.int .i64 (IntKind.i64.wrap (dp+1))):=by
  unfold putW;rw [bld_snoc]
 rw [hw1]
 have hms:MapOf (putW w.drew md (vI deps) m.name (.int .i64 (IntKind.i64.wrap (dp+1)))) ms (vB strs):=MapB.putOther (h.mstrs.ext eD) (fun e=>hne e.symm) _
 refine ⟨fun b hb b1 b2=>(World.putObj_heap_other b1),?_⟩
 rw [op_mapEntryS Tryz.underlying157 Tryz.underlying9 ty4 hms m.name]
 refine ⟨fun b hb b1 b2=>(World.putObj_heap_other b2).trans (World.putObj_heap_other b1),?_⟩
 unfold n28c6
 simp (disch:=try exact DI) only [↓PR,QR,simprocAttr]
 rw [op_entryStore (MapB.ent hms m.name _) (hasK_ent _ _),ent_put,putObj_putObj]
 have hw2:(putW w.drew md (vI deps) m.name (.int .i64 (IntKind.i64.wrap (dp+1)))).putObj ms (mapObj (fun s:ByteArray=>Value.string s) (putL (bld (vB strs)).1 (bld (vB strs)).2 m.name (.bool st)) (putC (bld (vB strs)).1 (bld (vB strs)).2 m.name))=putW (putW w.drew md (vI deps) m.name (.int .i64 (IntKind.i64.wrap (dp+1)))) ms (vB strs) m.name (.bool st):=by
  unfold putW;rw [bld_snoc,bld_snoc]
 rw [hw2]
 have hwr:IntKind.i64.wrap (dp+1)=dp+1:=wrap_ok (by omega) (by omega)
 rw [hwr]
 have hC2:CkO a0 (putW (putW w.drew md (vI deps) m.name (.int .i64 (dp+1))) ms (vB strs) m.name (.bool st)) cb md ms (deps++[(m.name,dp+1)]) (strs++[(m.name,st)]) at_ (-1) fs:=by
  refine ⟨(h.ext.drew.putObj h.lmd _).putObj h.lms _,⟨dn,mv,ds,mn,fv',((World.putObj_heap_other n2).trans (World.putObj_heap_other n1)).trans h1,h2⟩,?_,?_,h.lcb,h.lmd,h.lms,hne⟩
  · have:=MapB.putOther (hmd.put m.name (.int .i64 (dp+1))) hne (mapObjS (bld (vB strs++[(m.name,.bool st)])).1 (bld (vB strs++[(m.name,.bool st)])).2)
    unfold vI at this ⊢
    rw [List.map_append]
    exact this
  · rw [hwr] at hms
    have:=hms.put m.name (.bool st)
    unfold vB at this ⊢
    rw [List.map_append]
    exact this
 have hk2:MarkAt B (putW (putW w.drew md (vI deps) m.name (.int .i64 (dp+1))) ms (vB strs) m.name (.bool st)):=by
  have b1:B≠md:=by rintro rfl;have:=h.mdeps.obj;unfold MarkAt at hmk;rw [hmk] at this;cases this
  have b2:B≠ms:=by rintro rfl;have:=h.mstrs.obj;unfold MarkAt at hmk;rw [hmk] at this;cases this
  exact ((World.putObj_heap_other b2).trans (World.putObj_heap_other b1)).trans hmk
 have o2':(putW (putW w.drew md (vI deps) m.name (.int .i64 (dp+1))) ms (vB strs) m.name (.bool st)).heap[p2]?=some (.cells #[.pointer (some ⟨cb,0,none⟩)] 127 (0,0)):=((World.putObj_heap_other q2).trans (World.putObj_heap_other m2)).trans o2
 have o9':(putW (putW w.drew md (vI deps) m.name (.int .i64 (dp+1))) ms (vB strs) m.name (.bool st)).heap[p9]?=some (.cells #[.int .i64 dp] 3 (0,0)):=((World.putObj_heap_other q9).trans (World.putObj_heap_other m9)).trans o9
 generalize putW (putW w.drew md (vI deps) m.name (.int .i64 (dp+1))) ms (vB strs) m.name (.bool st)=W at hC2 hk2 o2' o9' ⊢
 refine turnK_intro ?_
 unfold n28c5
 simp (disch:=try exact DI) only [↓PR,QR,simprocAttr,(cells_of_heap o2').1,(cells_of_heap o9').1]
 refine callK_flw (need_flw hC2.chk _ 10 (by decide)) (fun w' e h0=>?_) (fun w' e h0=>?_)
 · refine outX_mark (hk2.ext e) ?_
   rw [outX_nil]
   have hC3:=(hC2.go e).unmark (hk2.ext e) hB
   refine nxtR_ret hC3.ext ?_ (hK _ hC3)
   rw [hr]
   by_cases hdp:dp < 16
   · rw [if_pos hdp]
   · rw [decide_eq_false hdp] at h0;exact absurd h0 (by decide)
 · refine outQ_mark (hk2.ext e) ?_
   rw [outQ_nil]
   have hC3:=(hC2.go e).unmark (hk2.ext e) hB
   by_cases hdp:dp < 16
   · rw [decide_eq_true hdp] at h0;exact absurd rfl h0
   · rw [decide_eq_false hdp]
     rw [if_neg hdp] at hr
     exact nxtR_pan hC3.ext hr (by decide)
theorem maxI_le {a b c:Int} (h1:a≤c) (h2:b≤c):maxI a b≤c:=by unfold maxI;split<;>assumption
theorem le_maxI (a b:Int):a≤maxI a b:=by unfold maxI;split<;>omega
theorem foldl_maxI (g:ByteArray→Int):∀ (l:List ByteArray) (d:Int),0≤d→(∀ s∈l,0≤g s∧g s≤16)→d≤16→0≤l.foldl (fun d s=>maxI d (g s)) d∧l.foldl (fun d s=>maxI d (g s)) d≤16
 | [],d,h0,_,h1=>⟨h0,h1⟩
 | s::l,d,h0,h,h1=>foldl_maxI g l _ (Int.le_trans h0 (le_maxI _ _)) (fun u hu=>h u (List.mem_cons_of_mem _ hu)) (maxI_le h1 (h s (List.mem_cons_self ..)).2)
def Low (deps:List (ByteArray×Int)):Prop:=∀ p∈deps,0≤p.2∧p.2≤16
theorem Low.get {deps:List (ByteArray×Int)} (h:Low deps) (s:ByteArray):0≤(lastP deps s).getD 0∧(lastP deps s).getD 0≤16:=by
 cases hl:lastP deps s with
 | none=>exact ⟨by decide,by decide⟩
 | some n=>exact h _ (lastP_mem hl)
theorem nxt_range (hlow:Low deps) (h:CkO a0 w cb md ms deps strs at_ fld fs) (p2 p3 p6:Nat) (m:MsgD) (fv:Value) (st:Bool) (hst:st=m.fields.all fun f=>!f.loose) (hF:FieldsOf a0 fv m.fields) (hb:(allRefs m.fields).length≤1048576) (hp2:a0.heap.size≤p2) (hp3:a0.heap.size≤p3) (hp6:a0.heap.size≤p6) (h26:p2 < p6) (h36:p3 < p6)
 (o2:w.heap[p2]?=some (.cells #[.pointer (some ⟨cb,0,none⟩)] 127 (0,0))) (o3:w.heap[p3]?=some (.cells (msgCells m fv).toArray 44 (0,0))) (o6:w.heap[p6]?=some (.cells #[.bool st] 4 (0,0)))
 (r:Int×Int) (hr:r=if depthM deps m < 16 then (-1,0) else (-1,10)) (K:World→Prop)
 (hK:∀ w',CkO a0 w' cb md ms (deps++[(m.name,depthM deps m+1)]) (strs++[(m.name,strictM strs m)]) at_ (-1) fs→K w') :
 n28c10 (.pointer (some ⟨p2,0,none⟩)) (.pointer (some ⟨p3,0,none⟩)) (.pointer (some ⟨p6,0,none⟩)) [] (nxtR a0 at_ r K) w:=by
 obtain ⟨n1,n2,l1,l2,l3⟩:=h.nd
 obtain ⟨dn,mv,ds,mn,fv',h1,h2⟩:=h.obj
 have c2:p2≠cb:=by rintro rfl;rw [o2] at h1;cases h1
 have c3:p3≠cb:=by rintro rfl;rw [o3] at h1;cases h1
 have c6:p6≠cb:=by rintro rfl;rw [o6] at h1;cases h1
 have lp6:p6 < w.heap.size:=(Array.getElem?_eq_some_iff.1 o6).1
 have lp3:p3 < w.heap.size:=(Array.getElem?_eq_some_iff.1 o3).1
 unfold n28c10
 simp (disch:=try exact DI) only [↓PR,QR,simprocAttr,(cells_of_heap h1).1,(cells_of_heap h1).2,(cells_of_heap o2).1,(cells_of_heap o3).1]
 have hC1:=h.setFld (-1)
 have o2':(w.setCell ⟨cb,6,none⟩ (.int .i64 (-1))).heap[p2]?=some (.cells #[.pointer (some ⟨cb,0,none⟩)] 127 (0,0)):=by rw [Only.setCell w cb 6 _ p2 c2];exact o2
 have o3':(w.setCell ⟨cb,6,none⟩ (.int .i64 (-1))).heap[p3]?=some (.cells (msgCells m fv).toArray 44 (0,0)):=by rw [Only.setCell w cb 6 _ p3 c3];exact o3
 have o6':(w.setCell ⟨cb,6,none⟩ (.int .i64 (-1))).heap[p6]?=some (.cells #[.bool st] 4 (0,0)):=by rw [Only.setCell w cb 6 _ p6 c6];exact o6
 simp only [World.size_setCell]
 have eW:=hC1.go ((Ext.refl (w.setCell ⟨cb,6,none⟩ (.int .i64 (-1)))).alloc (Obj.cells #[.int .i64 0] 3))
 have x2:=((Ext.refl (w.setCell ⟨cb,6,none⟩ (.int .i64 (-1)))).alloc (Obj.cells #[.int .i64 0] 3)).obj o2'
 have x3:=((Ext.refl (w.setCell ⟨cb,6,none⟩ (.int .i64 (-1)))).alloc (Obj.cells #[.int .i64 0] 3)).obj o3'
 have x6:=((Ext.refl (w.setCell ⟨cb,6,none⟩ (.int .i64 (-1)))).alloc (Obj.cells #[.int .i64 0] 3)).obj o6'
 have x9:=heap_new (w.setCell ⟨cb,6,none⟩ (.int .i64 (-1))) #[.int .i64 0] 3
 rw [World.size_setCell] at x9
 generalize hW:World.alloc (w.setCell ⟨cb,6,none⟩ (.int .i64 (-1))) _=W at eW x2 x3 x6 x9
 have hsz:W.heap.size=w.heap.size+1:=by rw [← hW];simp only [World.size_alloc,World.size_setCell]
 clear hW hC1 o2 o3 o6 o2' o3' o6' h
 have lW:a0.heap.size≤W.heap.size:=eW.ext.size
 refine callK_ret (Refers_ret W _ m ⟨fv,rfl,hF.ext eW.ext⟩ hb) ?_
 rintro _ w7 ⟨pb,sv,rfl,hS,hpb,e7⟩
 have s7:=e7.size
 unfold n28c9
 let rs:=refsM m
 let I:Nat→World→Prop:=fun k w'=>CkO a0 w' cb md ms deps strs at_ (-1) fs∧StrsAt w' pb sv (allRefs m.fields)∧w'.heap[p2]?=some (.cells #[.pointer (some ⟨cb,0,none⟩)] 127 (0,0))∧w'.heap[p3]?=some (.cells (msgCells m fv).toArray 44 (0,0)) ∧
  w'.heap[p6]?=some (.cells #[.bool (st&&(rs.take k).all fun s=>(lastP strs s).getD false)] 4 (0,0))∧w'.heap[w.heap.size]?=some (.cells #[.int .i64 ((rs.take k).foldl (fun d s=>maxI d ((lastP deps s).getD 0)) 0)] 3 (0,0))
 have hLI:∀ k,Lasts w7.heap.size (I k):=fun k=>Lasts.and (CkO.lasts (by omega)) (Lasts.and (StrsAt.lasts _ _ _ _) (Lasts.and (Lasts.has _ (by simp)) (Lasts.and (Lasts.has _ (by simp)) (Lasts.and (Lasts.has _ (by simp)) (Lasts.has _ (by simp))))))
 refine ⟨_,_,rs.length,strX rs,fun w=>StrsAt w pb sv (allRefs m.fields),I,fun _ _=>False,fun _ _=>False,rfl,c162,Refers_seq pb sv _,⟨eW.go e7,hS,e7.obj x2,e7.obj x3,?_,e7.obj x9⟩,fun k w h=>h.2.1,hLI,fun _=>Lasts.const _ _,?_,?_,?_,?_⟩
 · have:=e7.obj x6
   rw [this];simp
 · intro rec j w3 hj hI3 hrec hready
   refine ⟨hready,fun w4 hbz=>?_⟩
   have hrec4:=hrec.busied hbz
   have hI4:=(hLI j).busied hbz (Nat.le_succ _) hI3
   clear hI3 hrec hready hbz
   obtain ⟨hC4,hS4,y2,y3,y6,y9⟩:=hI4
   obtain ⟨s,hx⟩:=getElem?_lt hj
   have hrs:rs[j]?=some s:=hx
   rw [show strX rs j = .string s by unfold strX;rw [hrs]]
   obtain ⟨dn,mv,ds,mn,fv',h1,h2⟩:=hC4.obj
   have l9:w.heap.size < w4.heap.size:=(Array.getElem?_eq_some_iff.1 y9).1
   have hstep:rs.take (j+1)=rs.take j++[s]:=take_snoc hrs
   refine drawK_intro ?_
   unfold n28c4
   simp (disch:=try exact DI) only [↓PR,QR,simprocAttr,(cells_of_heap y9).1,(cells_of_heap y2).1,(cells_of_heap h1).1]
   rw [qV_lookup1E Tryz.underlying156 Tryz.underlying9 ty3 (hC4.mdeps.ext ((Ext.refl w4).wdrew)) s]
   have hg:(lastOf (vI deps) s).getD (.int .i64 0) = .int .i64 ((lastP deps s).getD 0):=by rw [lastOf_vI];cases lastP deps s<;>rfl
   rw [hg]
   simp (disch:=try exact DI) only [↓PR,QR,simprocAttr,(cells_of_heap y9).1,(cells_of_heap y9).2]
   refine turnK_intro ?_
   have e4:Ext w4 w4.drew:=(Ext.refl w4).wdrew
   have hC5:=(hC4.go e4).other (b:=w.heap.size) (o:=0) (by omega) (by omega) (.int .i64 (if (lastP deps s).getD 0 > (rs.take j).foldl (fun d s=>maxI d ((lastP deps s).getD 0)) 0 then (lastP deps s).getD 0 else (rs.take j).foldl (fun d s=>maxI d ((lastP deps s).getD 0)) 0))
   have hS5:StrsAt (w4.drew.setCell ⟨w.heap.size,0,none⟩ (.int .i64 (if (lastP deps s).getD 0 > (rs.take j).foldl (fun d s=>maxI d ((lastP deps s).getD 0)) 0 then (lastP deps s).getD 0 else (rs.take j).foldl (fun d s=>maxI d ((lastP deps s).getD 0)) 0))) pb sv (allRefs m.fields):=(hS4.ext e4).set (by omega) _
   have hrec5:RecAt rec w7.heap.size (w4.drew.setCell ⟨w.heap.size,0,none⟩ (.int .i64 (if (lastP deps s).getD 0 > (rs.take j).foldl (fun d s=>maxI d ((lastP deps s).getD 0)) 0 then (lastP deps s).getD 0 else (rs.take j).foldl (fun d s=>maxI d ((lastP deps s).getD 0)) 0))):=hrec4.drew.setCell _ _
   have z2:=(Only.setCell w4.drew w.heap.size 0 (.int .i64 (if (lastP deps s).getD 0 > (rs.take j).foldl (fun d s=>maxI d ((lastP deps s).getD 0)) 0 then (lastP deps s).getD 0 else (rs.take j).foldl (fun d s=>maxI d ((lastP deps s).getD 0)) 0)) p2 (by omega)).trans y2
   have z3:=(Only.setCell w4.drew w.heap.size 0 (.int .i64 (if (lastP deps s).getD 0 > (rs.take j).foldl (fun d s=>maxI d ((lastP deps s).getD 0)) 0 then (lastP deps s).getD 0 else (rs.take j).foldl (fun d s=>maxI d ((lastP deps s).getD 0)) 0)) p3 (by omega)).trans y3
   have z6:=(Only.setCell w4.drew w.heap.size 0 (.int .i64 (if (lastP deps s).getD 0 > (rs.take j).foldl (fun d s=>maxI d ((lastP deps s).getD 0)) 0 then (lastP deps s).getD 0 else (rs.take j).foldl (fun d s=>maxI d ((lastP deps s).getD 0)) 0)) p6 (by omega)).trans y6
   have z9:=heap_set (w:=w4.drew) (o:=0) y9 (.int .i64 (if (lastP deps s).getD 0 > (rs.take j).foldl (fun d s=>maxI d ((lastP deps s).getD 0)) 0 then (lastP deps s).getD 0 else (rs.take j).foldl (fun d s=>maxI d ((lastP deps s).getD 0)) 0))
   rw [show (#[Value.int .i64 ((rs.take j).foldl (fun d s=>maxI d ((lastP deps s).getD 0)) 0)]:Array Value).setIfInBounds 0 (.int .i64 (if (lastP deps s).getD 0 > (rs.take j).foldl (fun d s=>maxI d ((lastP deps s).getD 0)) 0 then (lastP deps s).getD 0 else (rs.take j).foldl (fun d s=>maxI d ((lastP deps s).getD 0)) 0)) = #[.int .i64 ((rs.take (j+1)).foldl (fun d s=>maxI d ((lastP deps s).getD 0)) 0)] from by rw [hstep,List.foldl_append];rfl] at z9
   generalize w4.drew.setCell ⟨w.heap.size,0,none⟩ _=w5 at hC5 hS5 hrec5 z2 z3 z6 z9 ⊢
   clear hC4 hS4 hrec4 y2 y3 y6 y9 h1 hg
   obtain ⟨dn,mv,ds,mn,fv',h1,h2⟩:=hC5.obj
   have hall:(st&&(rs.take (j+1)).all fun s=>(lastP strs s).getD false)=((st&&(rs.take j).all fun s=>(lastP strs s).getD false)&&(lastP strs s).getD false):=by
    rw [hstep,List.all_append,Bool.and_assoc];simp
   have fin:∀ b,b=(st&&(rs.take (j+1)).all fun s=>(lastP strs s).getD false)→RecAt rec w7.heap.size (w5.setCell ⟨p6,0,none⟩ (.bool b))∧I (j+1) (w5.setCell ⟨p6,0,none⟩ (.bool b)):=by
    rintro b rfl
    refine ⟨hrec5.setCell _ _,hC5.other hp6 c6 _,hS5.set (by omega) _,(Only.setCell w5 p6 0 _ p2 (by omega)).trans z2,(Only.setCell w5 p6 0 _ p3 (by omega)).trans z3,?_,(Only.setCell w5 p6 0 _ w.heap.size (by omega)).trans z9⟩
    have:=heap_set (o:=0) z6 (.bool (st&&(rs.take (j+1)).all fun s=>(lastP strs s).getD false))
    simpa using this
   rw [hall] at fin
   generalize (st&&(rs.take j).all fun s=>(lastP strs s).getD false)=sj at z6 fin
   unfold n28c3
   have hg:(lastOf (vB strs) s).getD (.bool false) = .bool ((lastP strs s).getD false):=by rw [lastOf_vB];cases lastP strs s<;>rfl
   cases sj with
   | false =>
    simp (disch:=try exact DI) only [↓PR,QR,simprocAttr,(cells_of_heap z6).1,(cells_of_heap z6).2,↓n28c1,↓n28c2,↓n28c3,↓n28c4,↓n28c5,↓n28c6,↓n28c7,↓n28c8,↓n28c9,↓n28c10,↓n28c11,↓n28c12,↓n28c13,↓n28c14,↓n28c15,↓n28c16,↓n28c17,↓n28c18]
    exact fin false rfl
   | true =>
    simp (disch:=try exact DI) only [↓PR,QR,simprocAttr,(cells_of_heap z6).1,(cells_of_heap z6).2,(cells_of_heap z2).1,(cells_of_heap h1).1]
    rw [op_lookup1O Tryz.underlying157 Tryz.underlying9 ty4 hC5.mstrs s,hg]
    generalize (lastP strs s).getD false=b at fin
    simp (disch:=try exact DI) only [↓PR,QR,simprocAttr,(cells_of_heap z6).1,(cells_of_heap z6).2,n28c1]
    exact fin b (by cases b<;>rfl)
 · rintro w3 hI3 hmk
   obtain ⟨hC3,hS3,y2,y3,y6,y9⟩:=hI3
   rw [List.take_length] at y6 y9
   have hfold:=foldl_maxI (fun s=>(lastP deps s).getD 0) rs 0 (by decide) (fun s _=>hlow.get s) (by decide)
   refine nxt_end hC3 p2 p3 p6 w.heap.size w7.heap.size m fv _ _ hfold.1 (by have:=hfold.2;omega) y2 y3 y6 y9 hmk (by omega) r hr K ?_
   rw [hst]
   exact hK
 · rintro c w3 h
   exact h.elim
 · rintro ch w3 h
   exact h.elim
end
section
variable {a0 w:World} {cb md ms:Nat} {deps:List (ByteArray×Int)} {strs:List (ByteArray×Bool)} {at_ fld:Int} {m:MsgD}
theorem nxt_loop (hlow:Low deps) (h:CkO a0 w cb md ms deps strs at_ fld m.fields) (p2 p3:Nat) (fv:Value) (hF:FieldsOf a0 fv m.fields) (hb:(allRefs m.fields).length≤1048576) (ht:∀ f∈m.fields,f.terms.length≤1048576) (hp2:a0.heap.size≤p2) (hp3:a0.heap.size≤p3)
 (o2:w.heap[p2]?=some (.cells #[.pointer (some ⟨cb,0,none⟩)] 127 (0,0))) (o3:w.heap[p3]?=some (.cells (msgCells m fv).toArray 44 (0,0)))
 (r:Int×Int) (hr:r=tailP deps m (fieldsP deps strs [] m.fields)) (K:World→Prop)
 (hK:∀ w',CkO a0 w' cb md ms (deps++[(m.name,depthM deps m+1)]) (strs++[(m.name,strictM strs m)]) at_ (-1) m.fields→K w') :
 n28c13 (.pointer (some ⟨p2,0,none⟩)) (.pointer (some ⟨p3,0,none⟩)) [] (nxtR a0 at_ r K) w:=by
 obtain ⟨n1,n2,l1,l2,l3⟩:=h.nd
 have lp2:p2 < w.heap.size:=(Array.getElem?_eq_some_iff.1 o2).1
 have lp3:p3 < w.heap.size:=(Array.getElem?_eq_some_iff.1 o3).1
 have lw:=h.ext.size
 obtain ⟨A,c,rfl,hlc,hcm,hlm,hel⟩:=SliceOf.open hF
 unfold n28c13
 simp (disch:=try exact DI) only [↓PR,QR,simprocAttr,(cells_of_heap o3).1]
 refine loop1_intro (fun i w'=>∃ (k:Nat) (fld':Int),i = .int .i64 k∧k≤m.fields.length∧CkO a0 w' cb md ms deps strs at_ fld' m.fields∧w'.heap[p2]?=some (.cells #[.pointer (some ⟨cb,0,none⟩)] 127 (0,0))∧w'.heap[p3]?=some (.cells (msgCells m (.slice A m.fields.length c)).toArray 44 (0,0)) ∧
  w'.heap[w.heap.size]?=some (.cells #[.bool ((m.fields.take k).all fun f=>!f.loose)] 4 (0,0))∧r=tailP deps m (fieldsP deps strs (m.fields.take k) (m.fields.drop k))) (fun i _=>m.fields.length - (intOf i).toNat) ⟨0,fld,rfl,by omega,h.go ((Ext.refl _).alloc _),((Ext.refl _).alloc _).obj o2,((Ext.refl _).alloc _).obj o3,heap_new w #[.bool true] 4,hr⟩ ?_
 rintro i w' ⟨k,fld',rfl,hk,hC,y2,y3,y6,hrk⟩
 have l6:w.heap.size < w'.heap.size:=(Array.getElem?_eq_some_iff.1 y6).1
 have lw':=hC.ext.size
 obtain ⟨dn,mv,ds,mn,fv',h1,h2⟩:=hC.obj
 have c2:p2≠cb:=by rintro rfl;rw [y2] at h1;cases h1
 have c3:p3≠cb:=by rintro rfl;rw [y3] at h1;cases h1
 rcases drop_cases hk with ⟨x,hx,hd,hlt,hdec⟩ | ⟨hk,hd,hdec⟩
 · obtain ⟨b,o,cs,rfl,hl,hA,hE⟩:=hel k x hx
   obtain ⟨tv,cv,rfl,hT,hCa,ht1,hc1⟩:=hE.op
   have hA':=hA.ext hC.ext
   rw [hd] at hrk
   simp only [fieldsP] at hrk
   unfold n28c12
   simp (disch:=try exact DI) only [↓PR,QR,simprocAttr,hdec]
   unfold n28c11
   try unfold X0
   try unfold L0
   rw [op_indexN Tryz.underlying42 ty38 _ _ _ _ _ k hlt,op_load (hA'.loads ty38 rfl)]
   simp (disch:=try exact DI) only [↓PR,QR,simprocAttr,(cells_of_heap y2).1,(cells_of_heap h1).1,(cells_of_heap h1).2]
   have hCw:=(hC.setFld (k:Int)).go ((Ext.refl _).alloc (Obj.cells (fieldCells x tv cv).toArray 38))
   have z2:=((Ext.refl _).alloc (Obj.cells (fieldCells x tv cv).toArray 38)).obj ((Only.setCell w' cb 6 (.int .i64 (k:Int)) p2 c2).trans y2)
   have z3:=((Ext.refl _).alloc (Obj.cells (fieldCells x tv cv).toArray 38)).obj ((Only.setCell w' cb 6 (.int .i64 (k:Int)) p3 c3).trans y3)
   have z6:=((Ext.refl _).alloc (Obj.cells (fieldCells x tv cv).toArray 38)).obj ((Only.setCell w' cb 6 (.int .i64 (k:Int)) w.heap.size (by omega)).trans y6)
   have z8:=heap_new (w'.setCell ⟨cb,6,none⟩ (.int .i64 (k:Int))) (fieldCells x tv cv).toArray 38
   rw [World.size_setCell] at z8
   generalize (World.alloc (w'.setCell ⟨cb,6,none⟩ (.int .i64 (k:Int))) (Obj.cells (fieldCells x tv cv).toArray 38))=W at hCw z2 z3 z6 z8 ⊢
   have hkt:(m.fields.take k).length=k:=by rw [List.length_take];omega
   refine callK_flw (examine_flw hCw.chk k rfl hlt _ x ⟨tv,cv,rfl,TermsOf.ext hT hCw.ext,CasesOf.ext hCa hCw.ext⟩ (ht x (List.mem_of_getElem? hx))) (fun w5 e5 h0=>?_) (fun w5 e5 h0=>?_)
   · rw [if_pos h0] at hrk
     have q6:=e5.obj z6
     have q8:=e5.obj z8
     have hC5:=hCw.go e5
     have l5:w'.heap.size < w5.heap.size:=(Array.getElem?_eq_some_iff.1 q8).1
     have htk:=take_snoc hx
     rw [← htk] at hrk
     have hall:((m.fields.take (k+1)).all fun f=>!f.loose)=(((m.fields.take k).all fun f=>!f.loose)&&!x.loose):=by rw [htk,List.all_append];simp
     have fin:∀ b' w6,Ext w5 w6→b'=((m.fields.take (k+1)).all fun f=>!f.loose)→(∃ (k':Nat) (fld':Int),Value.int .i64 ((k+1:Nat):Int) = .int .i64 k'∧k'≤m.fields.length∧CkO a0 (w6.setCell ⟨w.heap.size,0,none⟩ (.bool b')) cb md ms deps strs at_ fld' m.fields∧w6.heap[p2]?=some (.cells #[.pointer (some ⟨cb,0,none⟩)] 127 (0,0))∧w6.heap[p3]?=some (.cells (msgCells m (.slice (some ⟨b,o,none⟩) m.fields.length c)).toArray 44 (0,0)) ∧
      (w6.setCell ⟨w.heap.size,0,none⟩ (.bool b')).heap[w.heap.size]?=some (.cells #[.bool ((m.fields.take k').all fun f=>!f.loose)] 4 (0,0))∧r=tailP deps m (fieldsP deps strs (m.fields.take k') (m.fields.drop k')))∧m.fields.length - (intOf (Value.int .i64 ((k+1:Nat):Int))).toNat < m.fields.length - (intOf (Value.int IntKind.i64 k)).toNat:=by
      rintro b' w6 e6 rfl
      refine ⟨⟨k+1,k,rfl,by omega,(hC5.go e6).other (by omega) (by omega) _,e6.obj (e5.obj z2),e6.obj (e5.obj z3),?_,hrk⟩,meas_lt hlt⟩
      have:=heap_set (o:=0) (e6.obj q6) (.bool ((m.fields.take (k+1)).all fun f=>!f.loose))
      simpa using this
     unfold n28c2
     rw [hall] at fin
     generalize ((m.fields.take k).all fun f=>!f.loose)=sj at q6 fin
     cases sj with
     | true =>
      generalize hxl:x.loose=xl at fin
      simp (disch:=try exact DI) only [↓PR,QR,simprocAttr,(cells_of_heap q6).1,(cells_of_heap q6).2,(cells_of_heap q8).1,n28c1,hxl]
      simp only [Bool.true_and] at fin
      exact fin _ w5 (Ext.refl _) rfl
     | false =>
      simp (disch:=try exact DI) only [↓PR,QR,simprocAttr,(cells_of_heap q6).1,(cells_of_heap q6).2,(cells_of_heap q8).1,n28c1]
      simp only [Bool.false_and] at fin
      exact fin _ w5 (Ext.refl _) rfl
   · rw [if_neg h0] at hrk
     have hr2:r=((k:Int),examineC (m.fields.take k) (vI deps) (vB strs) x):=by
      rw [hrk,hkt];unfold tailP;rw [if_neg h0]
     show outQ _ _ _ _ _ _
     rw [outQ_nil]
     exact nxtR_pan (hCw.ext.trans e5) hr2 h0
 · subst hk
   rw [hd] at hrk
   rw [List.take_length] at y6
   unfold n28c12
   simp (disch:=try exact DI) only [↓PR,QR,simprocAttr,hdec]
   refine nxt_range hlow hC p2 p3 w.heap.size m _ _ rfl hF hb hp2 hp3 lw lp2 lp3 y2 y3 y6 r ?_ K hK
   rw [hrk]
   rfl
theorem next_flw {w0:World} {fs0:List FieldD} (hlow:Low deps) (h:CkO a0 w0 cb md ms deps strs at_ fld fs0) (v:Value) (hm:MsgVal a0 v m) (hb:(allRefs m.fields).length≤1048576) (ht:∀ f∈m.fields,f.terms.length≤1048576) (K:World→Prop)
 (hK:∀ w',CkO a0 w' cb md ms (deps++[(m.name,depthM deps m+1)]) (strs++[(m.name,strictM strs m)]) at_ (-1) m.fields→K w') :
 Calls Pg 122 #[.pointer (some ⟨cb,0,none⟩),v] w0 (nxtR a0 at_ (nextP deps strs m) K):=by
 obtain ⟨fv,rfl,hF⟩:=hm
 obtain ⟨n1,n2,l1,l2,l3⟩:=h.nd
 have lw:=h.ext.size
 have hf1:=SliceOf.oneCell hF
 refine n28s ?_;unfold n28
 simp (disch:=try exact DI) only [↓PR,QR,simprocAttr]
 have hC:=h.go (((Ext.refl w0).alloc (Obj.cells #[.pointer (some ⟨cb,0,none⟩)] 127)).alloc (Obj.cells (msgCells m fv).toArray 44))
 have z3:=heap_new (w0.alloc (Obj.cells #[.pointer (some ⟨cb,0,none⟩)] 127)) (msgCells m fv).toArray 44
 have z2:=((Ext.refl (w0.alloc (Obj.cells #[.pointer (some ⟨cb,0,none⟩)] 127))).alloc (Obj.cells (msgCells m fv).toArray 44)).obj (heap_new w0 _ _)
 simp only [World.size_alloc] at z3 ⊢
 generalize (World.alloc (World.alloc w0 _) _)=W at hC z2 z3 ⊢
 clear h
 obtain ⟨dn,mv,ds,mn,fv',h1,h2⟩:=hC.obj
 refine drawK_introB (w1:=W) cb cb (fun _ _ _ _=>rfl) ?_
 unfold n28c18
 simp (disch:=try exact DI) only [↓PR,QR,simprocAttr,(cells_of_heap z2).1]
 have L3:∀ w',KB W cb cb w'→Loads Pg w' 44 ⟨w0.heap.size+1,0,none⟩ (.agg (msgCells m fv).toArray):=fun w' hw'=>Loads.many ty44 rfl (fun j u hu=>by
  rw [Addr.add_lit]
  exact KB.cell (b:=w0.heap.size+1) hw' (by omega) (by omega) (by rw [(cells_of_heap z3).1];simpa using hu))
 rw [qV_loadG L3]
 simp (disch:=try exact DI) only [↓PR,QR,simprocAttr,(cells_of_heap h1).1,(cells_of_heap h1).2]
 have eD:Ext W W.drew:=(Ext.refl W).wdrew
 have hC1:=(hC.go eD).setMsg m.name fv m.fields hF
 have y2:=(Only.setCell (W.drew.setCell ⟨cb,7,none⟩ (.string m.name)) cb 8 fv w0.heap.size (by omega)).trans ((Only.setCell W.drew cb 7 (.string m.name) w0.heap.size (by omega)).trans (eD.obj z2))
 have y3:=(Only.setCell (W.drew.setCell ⟨cb,7,none⟩ (.string m.name)) cb 8 fv (w0.heap.size+1) (by omega)).trans ((Only.setCell W.drew cb 7 (.string m.name) (w0.heap.size+1) (by omega)).trans (eD.obj z3))
 refine ⟨fun b hb b1 _=>(Only.setCell _ cb 8 fv b b1).trans (Only.setCell W.drew cb 7 (.string m.name) b b1),?_⟩
 show n28c17 _ _ _ _ _ _ ((W.drew.setCell ⟨cb,7,none⟩ (.string m.name)).setCell ⟨cb,8,none⟩ fv)
 generalize ((W.drew.setCell ⟨cb,7,none⟩ (.string m.name)).setCell ⟨cb,8,none⟩ fv)=W1 at hC1 y2 y3 ⊢
 clear hC z2 z3 h1
 obtain ⟨dn,mv,ds,mn,fv',h1,h2'⟩:=hC1.obj
 unfold n28c17
 simp (disch:=try exact DI) only [↓PR,QR,simprocAttr,(cells_of_heap h1).1,(cells_of_heap h1).2]
 have hC2:=hC1.setFld (-1)
 have x2:=(Only.setCell W1 cb 6 (.int .i64 (-1)) w0.heap.size (by omega)).trans y2
 have x3:=(Only.setCell W1 cb 6 (.int .i64 (-1)) (w0.heap.size+1) (by omega)).trans y3
 generalize (W1.setCell ⟨cb,6,none⟩ (.int .i64 (-1)))=W2 at hC2 x2 x3 ⊢
 clear hC1 y2 y3 h1
 refine turnK_intro ?_
 refine drawK_intro ?_
 unfold n28c16
 simp (disch:=try exact DI) only [↓PR,QR,simprocAttr,(cells_of_heap x2).1,(cells_of_heap x3).1]
 refine zcr (Name_ret _ m.name) fun w3 e3=>?_
 have e3':Ext W2 w3:=(Ext.refl W2).wdrew.trans e3
 refine ⟨e3,?_⟩
 generalize hr:nextP deps strs m=r
 unfold nextP at hr
 refine callK_flw (need_flw (hC2.go e3').chk _ 1 (by decide)) (fun w4 e4 h0=>?_) (fun w4 e4 h0=>?_)
 · have e4':=e3'.trans e4
   have hn:nameB m.name=true:=needC_zero (by decide) h0
   rw [if_pos hn] at hr
   refine ⟨e3.trans e4,?_⟩
   have hC4:=hC2.go e4'
   have x2':=e4'.obj x2
   have x3':=e4'.obj x3
   obtain ⟨dn,mv,ds,mn,fv',h1,h2'⟩:=hC4.obj
   refine drawK_intro ?_
   unfold n28c15
   simp (disch:=try exact DI) only [↓PR,QR,simprocAttr,(cells_of_heap x2').1,(cells_of_heap x3').1,(cells_of_heap h1).1]
   have eD4:Ext w4 w4.drew:=(Ext.refl w4).wdrew
   rw [qV_lookupE Tryz.underlying156 Tryz.underlying9 ty3 (hC4.mdeps.ext eD4) m.name]
   have hsome:(lastOf (vI deps) m.name).isSome=(lastP deps m.name).isSome:=by rw [lastOf_vI,Option.isSome_map]
   rw [hsome]
   simp (disch:=try exact DI) only [↓PR,QR,simprocAttr,(cells_of_heap x2').1]
   refine callK_flw (need_flw (hC4.go eD4).chk _ 2 (by decide)) (fun w5 e5 h0=>?_) (fun w5 e5 h0=>?_)
   · have hs:(lastP deps m.name).isSome=false:=by have:=needC_zero (by decide) h0;simpa using this
     rw [hs,if_neg (by simp)] at hr
     have hC5:=hC4.go (eD4.trans e5)
     have x2'':=(eD4.trans e5).obj x2'
     have x3'':=(eD4.trans e5).obj x3'
     have fin:∀ b,b=decide (1≤m.fields.length∧m.fields.length≤40)→callK Pg 120 #[.pointer (some ⟨cb,0,none⟩),.bool b,.int .i64 3] (outQ Pg [] [] (nxtR a0 at_ r K)) w5 (fun _ w=>n28c13 (.pointer (some ⟨w0.heap.size,0,none⟩)) (.pointer (some ⟨w0.heap.size+1,0,none⟩)) [] (nxtR a0 at_ r K) w):=by
      rintro b rfl
      refine callK_flw (need_flw hC5.chk _ 3 (by decide)) (fun w6 e6 h0=>?_) (fun w6 e6 h0=>?_)
      · have hl:=needC_zero (by decide) h0
        simp only [decide_eq_true_eq] at hl
        rw [if_pos hl] at hr
        exact nxt_loop hlow (hC5.go e6) w0.heap.size (w0.heap.size+1) fv hF hb ht (by omega) (by omega) (e6.obj x2'') (e6.obj x3'') r hr.symm K hK
      · by_cases hl:1≤m.fields.length∧m.fields.length≤40
        · rw [decide_eq_true hl] at h0;exact absurd rfl h0
        · rw [if_neg hl] at hr
          rw [decide_eq_false hl]
          show outQ _ _ _ _ _ _
          rw [outQ_nil]
          exact nxtR_pan (hC5.ext.trans e6) hr.symm (by decide)
     obtain ⟨A,c,rfl,hlc,hcm,hlm,hel⟩:=SliceOf.open hF
     unfold n28c14
     by_cases h1l:1≤m.fields.length
     · have d1:decide ((m.fields.length:Int)≥1)=true:=by simp;omega
       by_cases h2l:m.fields.length≤40
       · have d2:decide ((m.fields.length:Int)≤40)=true:=by simp;omega
         simp (disch:=try exact DI) only [↓PR,QR,simprocAttr,(cells_of_heap x2'').1,(cells_of_heap x3'').1,d1,d2]
         exact fin _ (by simp [h1l,h2l])
       · have d2:decide ((m.fields.length:Int)≤40)=false:=by simp;omega
         simp (disch:=try exact DI) only [↓PR,QR,simprocAttr,(cells_of_heap x2'').1,(cells_of_heap x3'').1,d1,d2]
         exact fin _ (by simp [h2l])
     · have d1:decide ((m.fields.length:Int)≥1)=false:=by simp;omega
       simp (disch:=try exact DI) only [↓PR,QR,simprocAttr,(cells_of_heap x2'').1,(cells_of_heap x3'').1,d1]
       exact fin _ (by simp [h1l])
   · have hs:(lastP deps m.name).isSome=true:=by
      cases hq:(lastP deps m.name).isSome with
      | true=>rfl
      | false=>rw [hq] at h0;exact absurd rfl h0
     rw [hs,if_pos rfl] at hr
     rw [hs]
     show outQ _ _ _ _ _ _
     rw [outQ_nil]
     exact nxtR_pan (hC4.ext.trans (eD4.trans e5)) hr.symm (by decide)
 · have hn:nameB m.name=false:=by
    cases hq:nameB m.name with
    | false=>rfl
    | true=>rw [hq] at h0;exact absurd rfl h0
   rw [hn,if_neg (by simp)] at hr
   rw [hn]
   show outQ _ _ _ _ _ _
   rw [outQ_nil]
   exact nxtR_pan (hC2.ext.trans (e3'.trans e4)) hr.symm (by decide)
end
def stepD (deps:List (ByteArray×Int)) (m:MsgD):List (ByteArray×Int):=deps++[(m.name,depthM deps m+1)]
def stepS (strs:List (ByteArray×Bool)) (m:MsgD):List (ByteArray×Bool):=strs++[(m.name,strictM strs m)]
def depsOf (l:List MsgD):List (ByteArray×Int):=l.foldl stepD []
def strsOf (l:List MsgD):List (ByteArray×Bool):=l.foldl stepS []
def msgsP (deps:List (ByteArray×Int)) (strs:List (ByteArray×Bool)) (at_:Nat):List MsgD→Int×Int×Int
 | []=>(0,0,0)
 | m::l=>if (nextP deps strs m).2=0 then msgsP (stepD deps m) (stepS strs m) (at_+1) l else (at_,nextP deps strs m)
def endP (d:DefD) (r:Int×Int×Int):Int×Int×Int:=if r.2.2=0 then (if (lastP (depsOf d.msgs) d.start).isSome then (0,0,0) else (-1,-1,11)) else r
def checkP (d:DefD):Int×Int×Int :=
 if nameB d.name then (if 1≤d.msgs.length∧d.msgs.length≤60 then endP d (msgsP [] [] 0 d.msgs) else (-1,-1,3)) else (-1,-1,1)
theorem tailP_low {deps:List (ByteArray×Int)} {m:MsgD} {r:Int×Int} (h:(tailP deps m r).2=0):depthM deps m < 16:=by
 unfold tailP at h
 split at h
 · split at h
   · assumption
   · exact absurd h (by decide)
 · contradiction
theorem nextP_low {deps:List (ByteArray×Int)} {strs:List (ByteArray×Bool)} {m:MsgD} (h:(nextP deps strs m).2=0):depthM deps m < 16:=by
 unfold nextP at h
 split at h
 · split at h
   · exact absurd h (by decide)
   · split at h
     · exact tailP_low h
     · exact absurd h (by decide)
 · exact absurd h (by decide)
theorem Low.step {deps:List (ByteArray×Int)} {strs:List (ByteArray×Bool)} {m:MsgD} (hl:Low deps) (h:(nextP deps strs m).2=0):Low (stepD deps m):=by
 intro p hp
 rcases List.mem_append.1 hp with hp | hp
 · exact hl p hp
 · simp only [List.mem_singleton] at hp
   subst hp
   have h1:=nextP_low h
   have h2:=(foldl_maxI (fun s=>(lastP deps s).getD 0) (refsM m) 0 (by decide) (fun s _=>hl.get s) (by decide)).1
   exact ⟨by show 0≤depthM deps m+1;unfold depthM;omega,by show depthM deps m+1≤16;omega⟩
def calm (d:DefD):Prop:=∀ m∈d.msgs,(allRefs m.fields).length≤1048576∧∀ f∈m.fields,f.terms.length≤1048576
abbrev catchD (p3 p4:Nat):Deferred:={ target := .fn (.func 119) #[.pointer (some ⟨p3,0,none⟩),.pointer (some ⟨p4,0,none⟩)],args := #[] }
theorem catch_ret {p3 p4:Nat} {w:World} {k:FrameMode→World→Prop} (h:k .returning w):outM Pg [catchD p3 p4] .returning w k:=by
 refine ⟨by simp,.inr ⟨.func 119,_,119,#[.pointer (some ⟨p3,0,none⟩),.pointer (some ⟨p4,0,none⟩)],rfl,?_,?_⟩⟩
 · exact callFunc_run c119 _ w
 · refine n33s ?_
   unfold n33
   show opV _ (binS .neq _ true .nilIface .nilIface) _ _ _
   rw [op_neqNil_none Tryz.underlying20]
   simp (disch:=try exact DI) only [↓PR,QR,simprocAttr]
   exact h
theorem catch_pan {p3 p4:Nat} {w:World} {k:FrameMode→World→Prop} {a f c:Int} {x0 x1 x2 y:Value} (o3:w.heap[p3]?=some (.cells #[x0,x1,x2] 29 (0,0))) (o4:w.heap[p4]?=some (.cells #[y] 4 (0,0)))
 (h:k .returning ((((w.setCell ⟨p3,0,none⟩ (.int .i64 a)).setCell ⟨p3,1,none⟩ (.int .i64 f)).setCell ⟨p3,2,none⟩ (.int .i64 c)).setCell ⟨p4,0,none⟩ (.bool true))):outM Pg [catchD p3 p4] (.panicking [flawEntry a f c]) w k:=by
 have hne:p3≠p4:=by rintro rfl;rw [o3] at o4;cases o4
 refine ⟨by simp,.inr ⟨.func 119,_,119,#[.pointer (some ⟨p3,0,none⟩),.pointer (some ⟨p4,0,none⟩)],rfl,?_,?_⟩⟩
 · exact callFunc_run c119 _ w
 · refine n33s ?_
   rw [show recM (.panicking [flawEntry a f c])=(.iface 29 (flawVal a f c),.panicking [{ v := .iface 29 (flawVal a f c),recovered:=true }]) from rfl]
   unfold n33
   rw [op_neqNil_some Tryz.underlying20]
   simp (disch:=try exact DI) only [↓PR,QR,simprocAttr]
   unfold n33c1
   rw [op_assert_ok Tryz.underlying29 rfl]
   simp (disch:=try exact DI) only [↓PR,QR,simprocAttr,(cells_of_heap o3).1,(cells_of_heap o3).2,(cells_of_heap o4).1,(cells_of_heap o4).2]
   exact h
section
variable {w0:World}
def CkE (w:World) (cb:Nat) (deps:List (ByteArray×Int)) (strs:List (ByteArray×Bool)):Prop:=∃ md ms dn mv ds at_ fld mn fv,w.heap[cb]?=some (.cells #[.string dn,mv,.string ds,.map (some md),.map (some ms),.int .i64 at_,.int .i64 fld,.string mn,fv] 159 (0,0))∧MapOf w md (vI deps)∧MapOf w ms (vB strs)
theorem CkE.other {w:World} {cb b o:Nat} {deps:List (ByteArray×Int)} {strs:List (ByteArray×Bool)} (h:CkE w cb deps strs) (hn:b≠cb) (v:Value):CkE (w.setCell ⟨b,o,none⟩ v) cb deps strs:=by
 obtain ⟨md,ms,dn,mv,ds,at_,fld,mn,fv,h1,h2,h3⟩:=h
 exact ⟨md,ms,dn,mv,ds,at_,fld,mn,fv,(Only.setCell w b o v cb (fun e=>hn e.symm)).trans h1,h2.setCell _ _,h3.setCell _ _⟩
theorem CkE.go {w w':World} {cb:Nat} {deps:List (ByteArray×Int)} {strs:List (ByteArray×Bool)} (h:CkE w cb deps strs) (e:Ext w w'):CkE w' cb deps strs:=by
 obtain ⟨md,ms,dn,mv,ds,at_,fld,mn,fv,h1,h2,h3⟩:=h
 exact ⟨md,ms,dn,mv,ds,at_,fld,mn,fv,e.obj h1,h2.ext e,h3.ext e⟩
theorem CkO.left {a0 w:World} {cb md ms:Nat} {deps:List (ByteArray×Int)} {strs:List (ByteArray×Bool)} {at_ fld:Int} {fs:List FieldD} (h:CkO a0 w cb md ms deps strs at_ fld fs):CkE w cb deps strs:=by
 obtain ⟨dn,mv,ds,mn,fv,h1,_⟩:=h.obj
 exact ⟨md,ms,dn,mv,ds,at_,fld,mn,fv,h1,h.mdeps,h.mstrs⟩
def examK (w0:World) (d:DefD) (r:Value) (w':World):Prop:=Ext w0 w'∧∃ cb,r = .tuple #[.pointer (some ⟨cb,0,none⟩),flawVal (checkP d).1 (checkP d).2.1 (checkP d).2.2,.bool (decide ((checkP d).2.2≠0))] ∧
 ((checkP d).2.2=0→CkE w' cb (depsOf d.msgs) (strsOf d.msgs))
abbrev resL (cb p3 p4:Nat):List (Option TypeId×Value):=[(none,.pointer (some ⟨cb,0,none⟩)),(some 29,.pointer (some ⟨p3,0,none⟩)),(some 4,.pointer (some ⟨p4,0,none⟩))]
theorem exm_pan {w:World} {d:DefD} {cb p3 p4:Nat} {a f c:Int} {x0 x1 x2 y:Value} (e:Ext w0 w) (h3:w0.heap.size≤p3) (h4:w0.heap.size≤p4) (o3:w.heap[p3]?=some (.cells #[x0,x1,x2] 29 (0,0))) (o4:w.heap[p4]?=some (.cells #[y] 4 (0,0)))
 (h:checkP d=(a,f,c)) (hc:c≠0):outQ Pg [catchD p3 p4] (resL cb p3 p4) (retR (examK w0 d)) [flawEntry a f c] w:=by
 have hne:p3≠p4:=by rintro rfl;rw [o3] at o4;cases o4
 unfold outQ
 refine catch_pan o3 o4 ?_
 have q3:=heap_set (o:=2) (heap_set (o:=1) (heap_set (o:=0) o3 (.int .i64 a)) (.int .i64 f)) (.int .i64 c)
 have e1:Ext w0 ((((w.setCell ⟨p3,0,none⟩ (.int .i64 a)).setCell ⟨p3,1,none⟩ (.int .i64 f)).setCell ⟨p3,2,none⟩ (.int .i64 c)).setCell ⟨p4,0,none⟩ (.bool true)):=(((e.setCell h3 _).setCell h3 _).setCell h3 _).setCell h4 _
 have q4:=heap_set (o:=0) ((Only.setCell ((w.setCell ⟨p3,0,none⟩ (.int .i64 a)).setCell ⟨p3,1,none⟩ (.int .i64 f)) p3 2 (.int .i64 c) p4 (by omega)).trans ((Only.setCell (w.setCell ⟨p3,0,none⟩ (.int .i64 a)) p3 1 (.int .i64 f) p4 (by omega)).trans ((Only.setCell w p3 0 (.int .i64 a) p4 (by omega)).trans o4))) (.bool true)
 have q3':=(Only.setCell _ p4 0 (.bool true) p3 hne).trans q3
 simp only [List.setIfInBounds_toArray,List.set_cons_zero,List.set_cons_succ] at q3' q4
 generalize ((((w.setCell ⟨p3,0,none⟩ (.int .i64 a)).setCell ⟨p3,1,none⟩ (.int .i64 f)).setCell ⟨p3,2,none⟩ (.int .i64 c)).setCell ⟨p4,0,none⟩ (.bool true))=W at e1 q3' q4 ⊢
 unfold endM retV resOne resL
 simp only
 simp (disch:=try exact DI) only [↓PR,QR,simprocAttr,(cells_of_heap q3').1,(cells_of_heap q4).1]
 refine ⟨e1,cb,?_,fun h0=>?_⟩
 · rw [h];simp [hc]
 · rw [h] at h0;exact absurd h0 hc
theorem exm_fine {w:World} {d:DefD} {cb p3 p4:Nat} (e:Ext w0 w) (hC:CkE w cb (depsOf d.msgs) (strsOf d.msgs)) (o3:w.heap[p3]?=some (.cells #[.int .i64 0,.int .i64 0,.int .i64 0] 29 (0,0))) (o4:w.heap[p4]?=some (.cells #[.bool false] 4 (0,0)))
 (h:checkP d=(0,0,0)):outX Pg [catchD p3 p4] (resL cb p3 p4) (retR (examK w0 d)) w:=by
 unfold outX
 refine catch_ret ?_
 unfold endM retV resOne resL
 simp only
 simp (disch:=try exact DI) only [↓PR,QR,simprocAttr,(cells_of_heap o3).1,(cells_of_heap o4).1]
 refine ⟨e,cb,?_,fun h0=>hC⟩
 rw [h];simp
theorem callK_nxt {f:FuncId} {args:Array Value} {QP:List PanicEntry→World→Prop} {a0 w:World} {k:Value→World→Prop} {at_:Int} {r:Int×Int} {K:World→Prop} (h:Calls Pg f args w (nxtR a0 at_ r K)) (hk:∀ w',r.2=0→K w'→k (.tuple #[]) w') (hp:∀ w',Ext a0 w'→r.2≠0→QP [flawEntry at_ r.1 r.2] w'):callK Pg f args QP w k :=
 callK_calls h (fun v w' h=>by rcases h with ⟨e,⟨h1,h2,h3⟩ | ⟨_,h2⟩⟩<;>cases h2;exact hk w' h1 h3) (fun ch w' h=>by rcases h with ⟨e,⟨_,h2,_⟩ | ⟨h1,h2⟩⟩<;>cases h2;exact hp w' e h1) (fun w' h=>by rcases h with ⟨_,⟨_,h2,_⟩ | ⟨_,h2⟩⟩<;>cases h2)
theorem foldl_take {α β:Type} (g:β→α→β) {l:List α} {k:Nat} {x:α} (b:β) (hx:l[k]?=some x):(l.take (k+1)).foldl g b=g ((l.take k).foldl g b) x:=by rw [take_snoc hx,List.foldl_append];rfl
theorem exm_loop {A0 w:World} {d:DefD} {cb p1 p3 p4 md ms:Nat} {fs:List FieldD} {mv:Value} (ea:Ext w0 A0) (hM:MsgsOf A0 mv d.msgs) (ht:calm d) (hC:CkO A0 w cb md ms [] [] (-1) (-1) fs) (o1:A0.heap[p1]?=some (.cells (defCells d mv).toArray 24 (0,0)))
 (o3:A0.heap[p3]?=some (.cells #[.int .i64 0,.int .i64 0,.int .i64 0] 29 (0,0))) (o4:A0.heap[p4]?=some (.cells #[.bool false] 4 (0,0))) (h3:w0.heap.size≤p3) (h4:w0.heap.size≤p4) (hr:checkP d=endP d (msgsP [] [] 0 d.msgs)) :
 n32c6 (.pointer (some ⟨p1,0,none⟩)) (.pointer (some ⟨p3,0,none⟩)) (.pointer (some ⟨p4,0,none⟩)) (.pointer (some ⟨cb,0,none⟩)) [catchD p3 p4] (retR (examK w0 d)) w:=by
 have pan:∀ w' a f c,Ext A0 w'→checkP d=(a,f,c)→c≠0→outQ Pg [catchD p3 p4] (resL cb p3 p4) (retR (examK w0 d)) [flawEntry a f c] w':=fun w' a f c e h h0=>exm_pan (ea.trans e) h3 h4 (e.obj o3) (e.obj o4) h h0
 obtain ⟨A,c,rfl,hlc,hcm,hlm,hel⟩:=SliceOf.open hM
 unfold n32c6
 simp (disch:=try exact DI) only [↓PR,QR,simprocAttr,(cells_of_heap (hC.ext.obj o1)).1]
 refine loop1_intro (fun i w'=>∃ (k:Nat) (at':Int) (fs':List FieldD),i = .int .i64 k∧k≤d.msgs.length∧CkO A0 w' cb md ms (depsOf (d.msgs.take k)) (strsOf (d.msgs.take k)) at' (-1) fs'∧Low (depsOf (d.msgs.take k))∧checkP d=endP d (msgsP (depsOf (d.msgs.take k)) (strsOf (d.msgs.take k)) k (d.msgs.drop k))) (fun i _=>d.msgs.length - (intOf i).toNat) ⟨0,-1,fs,rfl,by omega,hC,(fun _ h=>by cases h),hr⟩ ?_
 rintro i w' ⟨k,at',fs',rfl,hk,hC',hlow,hrk⟩
 have lw':=hC'.ext.size
 obtain ⟨dn,mv,ds,mn,fv',x1,x2⟩:=hC'.obj
 obtain ⟨n1,n2,l1,l2,l3⟩:=hC'.nd
 rcases drop_cases hk with ⟨x,hx,hd,hlt,hdec⟩ | ⟨hk,hd,hdec⟩
 · obtain ⟨b,o,cs,rfl,hl,hA,fv,rfl,hF⟩:=hel k x hx
   have hf1:=SliceOf.oneCell hF
   rw [hd] at hrk
   simp only [msgsP] at hrk
   unfold n32c5
   simp (disch:=try exact DI) only [↓PR,QR,simprocAttr,hdec]
   unfold n32c4
   simp (disch:=try exact DI) only [↓PR,QR,simprocAttr,(hA.c2 hC'.ext).1,(hA.c2 hC'.ext).2,(cells_of_heap x1).1,(cells_of_heap x1).2]
   have hCw:=(hC'.setAt (k:Int)).go ((Ext.refl _).alloc (Obj.cells (msgCells x fv).toArray 44))
   refine callK_nxt (next_flw (m:=x) hlow hCw _ ⟨fv,rfl,hF⟩ (ht x (List.mem_of_getElem? hx)).1 (ht x (List.mem_of_getElem? hx)).2 (fun w'=>CkO A0 w' cb md ms (stepD (depsOf (d.msgs.take k)) x) (stepS (strsOf (d.msgs.take k)) x) k (-1) x.fields) (fun w' h=>h)) (fun w5 h0 hC5=>?_) (fun w5 e5 h0=>?_)
   · rw [if_pos h0] at hrk
     have hd1:depsOf (d.msgs.take (k+1))=stepD (depsOf (d.msgs.take k)) x:=foldl_take stepD [] hx
     have hs1:strsOf (d.msgs.take (k+1))=stepS (strsOf (d.msgs.take k)) x:=foldl_take stepS [] hx
     rw [← hd1,← hs1] at hrk hC5
     have hlow':Low (depsOf (d.msgs.take (k+1))):=by rw [hd1];exact hlow.step h0
     simp (disch:=try exact DI) only [↓PR,QR,simprocAttr]
     exact ⟨⟨k+1,k,x.fields,rfl,by omega,hC5,hlow',hrk⟩,meas_lt hlt⟩
   · rw [if_neg h0] at hrk
     refine pan _ _ _ _ e5 ?_ h0
     rw [hrk]
     unfold endP
     rw [if_neg h0]
 · subst hk
   rw [hd] at hrk
   rw [List.take_length] at hC' hrk
   unfold n32c5
   simp (disch:=try exact DI) only [↓PR,QR,simprocAttr,hdec]
   unfold n32c3
   simp (disch:=try exact DI) only [↓PR,QR,simprocAttr,(cells_of_heap x1).1,(cells_of_heap x1).2]
   have hC2:=hC'.setAt (-1)
   generalize (w'.setCell ⟨cb,5,none⟩ (.int .i64 (-1)))=W at hC2 ⊢
   clear x1 x2 hC'
   obtain ⟨dn,mv,ds,mn,fv',x1,x2⟩:=hC2.obj
   refine drawK_intro ?_
   have eD:Ext W W.drew:=(Ext.refl W).wdrew
   unfold n32c2
   simp (disch:=try exact DI) only [↓PR,QR,simprocAttr,(cells_of_heap x1).1,(cells_of_heap (hC2.ext.obj o1)).1]
   rw [qV_lookupE Tryz.underlying156 Tryz.underlying9 ty3 (hC2.mdeps.ext eD) d.start]
   have hsome:(lastOf (vI (depsOf d.msgs)) d.start).isSome=(lastP (depsOf d.msgs) d.start).isSome:=by rw [lastOf_vI,Option.isSome_map]
   rw [hsome]
   simp only [msgsP,endP,if_true] at hrk
   simp (disch:=try exact DI) only [↓PR,QR,simprocAttr]
   refine callK_flw (need_flw (hC2.go eD).chk _ 11 (by decide)) (fun w5 e5 h0=>?_) (fun w5 e5 h0=>?_)
   · have hs:=needC_zero (by decide) h0
     rw [hs,if_pos rfl] at hrk
     have hC5:=hC2.go (eD.trans e5)
     have y3:=hC5.ext.obj o3
     have y4:=hC5.ext.obj o4
     have ne34:p3≠p4:=by rintro rfl;rw [o3] at o4;cases o4
     unfold n32c1
     simp (disch:=try exact DI) only [↓PR,QR,simprocAttr,(cells_of_heap y3).1,(cells_of_heap y3).2,(cells_of_heap y4).1,(cells_of_heap y4).2]
     have c3:p3≠cb:=by have:=hC5.lcb;have:=(Array.getElem?_eq_some_iff.1 o3).1;omega
     have c4:p4≠cb:=by have:=hC5.lcb;have:=(Array.getElem?_eq_some_iff.1 o4).1;omega
     have q3:=heap_set (o:=2) (heap_set (o:=1) (heap_set (o:=0) y3 (.int .i64 0)) (.int .i64 0)) (.int .i64 0)
     have q4:=heap_set (o:=0) ((Only.setCell ((w5.setCell ⟨p3,0,none⟩ (.int .i64 0)).setCell ⟨p3,1,none⟩ (.int .i64 0)) p3 2 (.int .i64 0) p4 (by omega)).trans ((Only.setCell (w5.setCell ⟨p3,0,none⟩ (.int .i64 0)) p3 1 (.int .i64 0) p4 (by omega)).trans ((Only.setCell w5 p3 0 (.int .i64 0) p4 (by omega)).trans y4))) (.bool false)
     have q3':=(Only.setCell _ p4 0 (.bool false) p3 ne34).trans q3
     exact exm_fine (((((ea.trans hC5.ext).setCell h3 _).setCell h3 _).setCell h3 _).setCell h4 _) ((((hC5.left.other c3 _).other c3 _).other c3 _).other c4 _) (by simpa using q3') (by simpa using q4) hrk
   · have hs:(lastP (depsOf d.msgs) d.start).isSome=false:=by
      cases hq:(lastP (depsOf d.msgs) d.start).isSome with
      | false=>rfl
      | true=>rw [hq] at h0;exact absurd rfl h0
     rw [hs,if_neg (by simp)] at hrk
     rw [hs]
     exact pan _ _ _ _ (hC2.ext.trans (eD.trans e5)) hrk (by decide)
theorem examined_ret (v:Value) (d:DefD) (hd:DefVal w0 v d) (ht:calm d):Ret Pg 88 #[v] w0 (examK w0 d):=by
 obtain ⟨mv,rfl,hM⟩:=hd
 have hm1:=SliceOf.oneCell hM
 refine n32s (R:=retR _) ?_;unfold n32
 simp (disch:=try exact DI) only [↓PR,QR,simprocAttr]
 refine ⟨catchD (w0.heap.size+1) (w0.heap.size+1+1),_,rfl,?_⟩
 simp only [World.size_alloc]
 generalize hA0:((w0.alloc (Obj.cells (defCells d mv).toArray 24)).alloc (Obj.cells #[.int .i64 0,.int .i64 0,.int .i64 0] 29)).alloc (Obj.cells #[.bool false] 4)=A0
 have ea:Ext w0 A0:=by rw [← hA0];exact ee
 have o1:A0.heap[w0.heap.size]?=some (.cells (defCells d mv).toArray 24 (0,0)):=by rw [← hA0];simp (disch:=try exact DI) only [↓PR,QR,simprocAttr]
 have o3:A0.heap[w0.heap.size+1]?=some (.cells #[.int .i64 0,.int .i64 0,.int .i64 0] 29 (0,0)):=by rw [← hA0];simp (disch:=try exact DI) only [↓PR,QR,simprocAttr]
 have o4:A0.heap[w0.heap.size+1+1]?=some (.cells #[.bool false] 4 (0,0)):=by rw [← hA0];simp (disch:=try exact DI) only [↓PR,QR,simprocAttr]
 have hsz:A0.heap.size=w0.heap.size+1+1+1:=by rw [← hA0];simp only [World.size_alloc]
 clear hA0
 have hC:CkO A0 (((A0.alloc (Obj.map #[] 0)).alloc (Obj.map #[] 0)).alloc (Obj.cells #[.string d.name,mv,.string d.start,.map (some (w0.heap.size+1+1+1)),.map (some (w0.heap.size+1+1+1+1)),.int .i64 (-1),.int .i64 (-1),.string ByteArray.empty,.slice none 0 0] 159)) (w0.heap.size+1+1+1+1+1) (w0.heap.size+1+1+1) (w0.heap.size+1+1+1+1) [] [] (-1) (-1) []:=by
  refine ⟨ee,⟨d.name,mv,d.start,ByteArray.empty,.slice none 0 0,?_,SliceOf.nil _ _ _⟩,?_,?_,by omega,by omega,by omega,by omega⟩
  · have:=heap_new ((A0.alloc (Obj.map #[] 0)).alloc (Obj.map #[] 0)) #[.string d.name,mv,.string d.start,.map (some (w0.heap.size+1+1+1)),.map (some (w0.heap.size+1+1+1+1)),.int .i64 (-1),.int .i64 (-1),.string ByteArray.empty,.slice none 0 0] 159
    simp only [World.size_alloc,hsz] at this
    exact this
  · have:=(MapOf.new A0).ext (((Ext.refl _).alloc (Obj.map #[] 0)).alloc (Obj.cells #[.string d.name,mv,.string d.start,.map (some (w0.heap.size+1+1+1)),.map (some (w0.heap.size+1+1+1+1)),.int .i64 (-1),.int .i64 (-1),.string ByteArray.empty,.slice none 0 0] 159))
    simp only [World.size_alloc,hsz] at this
    exact this
  · have:=(MapOf.new (A0.alloc (Obj.map #[] 0))).ext ((Ext.refl _).alloc (Obj.cells #[.string d.name,mv,.string d.start,.map (some (w0.heap.size+1+1+1)),.map (some (w0.heap.size+1+1+1+1)),.int .i64 (-1),.int .i64 (-1),.string ByteArray.empty,.slice none 0 0] 159))
    simp only [World.size_alloc,hsz] at this
    exact this
 generalize (((A0.alloc (Obj.map #[] 0)).alloc (Obj.map #[] 0)).alloc (Obj.cells #[.string d.name,mv,.string d.start,.map (some (w0.heap.size+1+1+1)),.map (some (w0.heap.size+1+1+1+1)),.int .i64 (-1),.int .i64 (-1),.string ByteArray.empty,.slice none 0 0] 159))=W at hC ⊢
 generalize hcb:w0.heap.size+1+1+1+1+1=cb at hC ⊢
 generalize hmd:w0.heap.size+1+1+1=md at hC hsz
 generalize hms:w0.heap.size+1+1+1+1=ms at hC
 generalize hp3:w0.heap.size+1+1=p4 at o4 ⊢
 generalize hp4:w0.heap.size+1=p3 at o3 ⊢
 have l3:w0.heap.size≤p3:=by omega
 have l4:w0.heap.size≤p4:=by omega
 simp (disch:=try exact DI) only [↓PR,QR,simprocAttr,(cells_of_heap (hC.ext.obj o1)).1]
 refine zcr (Name_ret _ d.name) fun w1 e1=>?_
 have hC1:=hC.go e1
 have pan:∀ w' a f c,Ext A0 w'→checkP d=(a,f,c)→c≠0→outQ Pg [catchD p3 p4] (resL cb p3 p4) (retR (examK w0 d)) [flawEntry a f c] w':=fun w' a f c e h h0=>exm_pan (ea.trans e) l3 l4 (e.obj o3) (e.obj o4) h h0
 generalize hr:checkP d=r
 have hr':=hr
 unfold checkP at hr
 refine callK_flw (need_flw hC1.chk _ 1 (by decide)) (fun w2 e2 h0=>?_) (fun w2 e2 h0=>?_)
 · have hn:nameB d.name=true:=needC_zero (by decide) h0
   rw [if_pos hn] at hr
   have hC2:=hC1.go e2
   have fin:∀ b,b=decide (1≤d.msgs.length∧d.msgs.length≤60)→callK Pg 120 #[.pointer (some ⟨cb,0,none⟩),.bool b,.int .i64 3] (outQ Pg [catchD p3 p4] (resL cb p3 p4) (retR (examK w0 d))) w2 (fun _ w=>n32c6 (.pointer (some ⟨w0.heap.size,0,none⟩)) (.pointer (some ⟨p3,0,none⟩)) (.pointer (some ⟨p4,0,none⟩)) (.pointer (some ⟨cb,0,none⟩)) [catchD p3 p4] (retR (examK w0 d)) w):=by
    rintro b rfl
    refine callK_flw (need_flw hC2.chk _ 3 (by decide)) (fun w3 e3 h0=>?_) (fun w3 e3 h0=>?_)
    · have hl:=needC_zero (by decide) h0
      simp only [decide_eq_true_eq] at hl
      rw [if_pos hl] at hr
      exact exm_loop ea (hM.ext ea) ht (hC2.go e3) o1 o3 o4 l3 l4 (hr'.trans hr.symm)
    · by_cases hl:1≤d.msgs.length∧d.msgs.length≤60
      · rw [decide_eq_true hl] at h0;exact absurd rfl h0
      · rw [if_neg hl] at hr
        rw [decide_eq_false hl]
        exact pan _ _ _ _ (hC2.ext.trans e3) (hr'.trans hr.symm) (by decide)
   obtain ⟨A,c,rfl,hlc,hcm,hlm,hel⟩:=SliceOf.open hM
   have x1:=hC2.ext.obj o1
   unfold n32c9
   by_cases h1l:1≤d.msgs.length
   · have d1:decide ((d.msgs.length:Int)≥1)=true:=by simp;omega
     by_cases h2l:d.msgs.length≤60
     · have d2:decide ((d.msgs.length:Int)≤60)=true:=by simp;omega
       simp (disch:=try exact DI) only [↓PR,QR,simprocAttr,(cells_of_heap x1).1,d1,d2,↓n32c1,↓n32c2,↓n32c3,↓n32c4,↓n32c5,↓n32c6,↓n32c7,↓n32c8,↓n32c9]
       exact fin _ (by simp [h1l,h2l])
     · have d2:decide ((d.msgs.length:Int)≤60)=false:=by simp;omega
       simp (disch:=try exact DI) only [↓PR,QR,simprocAttr,(cells_of_heap x1).1,d1,d2,↓n32c1,↓n32c2,↓n32c3,↓n32c4,↓n32c5,↓n32c6,↓n32c7,↓n32c8,↓n32c9]
       exact fin _ (by simp [h2l])
   · have d1:decide ((d.msgs.length:Int)≥1)=false:=by simp;omega
     simp (disch:=try exact DI) only [↓PR,QR,simprocAttr,(cells_of_heap x1).1,d1,↓n32c1,↓n32c2,↓n32c3,↓n32c4,↓n32c5,↓n32c6,↓n32c7,↓n32c8,↓n32c9]
     exact fin _ (by simp [h1l])
 · have hn:nameB d.name=false:=by
    cases hq:nameB d.name with
    | false=>rfl
    | true=>rw [hq] at h0;exact absurd rfl h0
   rw [hn,if_neg (by simp)] at hr
   rw [hn]
   exact pan _ _ _ _ (hC1.ext.trans e2) (hr'.trans hr.symm) (by decide)
end
section
variable {w0:World}
abbrev flawOf (r:Int×Int×Int):Value:=flawVal r.1 r.2.1 r.2.2
abbrev flawedB (d:DefD):Bool:=decide ((checkP d).2.2≠0)
theorem Check_ret (v:Value) (d:DefD) (hd:DefVal w0 v d) (ht:calm d):Ret Pg 49 #[v] w0 fun r w'=>r = .tuple #[flawOf (checkP d),.bool (flawedB d)]∧Ext w0 w':=by
 obtain ⟨mv,rfl,hM⟩:=hd
 have hm1:=SliceOf.oneCell hM
 refine n13s (R:=retR _) ?_;unfold n13
 simp (disch:=try exact DI) only [↓PR,QR,simprocAttr]
 refine callK_ret (examined_ret _ d ⟨mv,rfl,MsgsOf.ext hM ee⟩ ht) ?_
 rintro _ w1 ⟨e1,cb,rfl,_⟩
 have s1:=e1.size
 simp only [World.size_alloc] at s1
 have o2:=e1.obj (heap_new (w0.alloc (Obj.cells (defCells d mv).toArray 24)) #[.int .i64 0,.int .i64 0,.int .i64 0] 29)
 rw [World.size_alloc] at o2
 simp (disch:=try exact DI) only [↓PR,QR,simprocAttr,↓n13c1,(cells_of_heap o2).1,(cells_of_heap o2).2]
 exact ⟨by first | trivial | rfl,ee⟩
theorem Valid_ret' (v:Value) (d:DefD) (hd:DefVal w0 v d) (ht:calm d):Ret Pg 43 #[v] w0 fun r w'=>r = .bool (!flawedB d)∧Ext w0 w':=by
 obtain ⟨mv,rfl,hM⟩:=hd
 have hm1:=SliceOf.oneCell hM
 refine n21s (R:=retR _) ?_;unfold n21
 simp (disch:=try exact DI) only [↓PR,QR,simprocAttr]
 refine zcr (Check_ret _ d ⟨mv,rfl,MsgsOf.ext hM ee⟩ ht) fun w1 e1=>?_
 simp (disch:=try exact DI) only [↓PR,QR,simprocAttr,↓n21c1]
 exact ⟨by first | trivial | rfl,ee⟩
end
def Sub {β:Type} (a b:List (ByteArray×β)):Prop:=∀ s v,lastP a s=some v→lastP b s=some v
section
variable {β:Type}
theorem Sub.refl (a:List (ByteArray×β)):Sub a a:=fun _ _ h=>h
theorem Sub.trans {a b c:List (ByteArray×β)} (h:Sub a b) (k:Sub b c):Sub a c:=fun s v x=>k s v (h s v x)
theorem Sub.snoc {a:List (ByteArray×β)} {p:ByteArray×β} (h:lastP a p.1=none):Sub a (a++[p]):=fun s v x=>by
 rw [lastP_snoc]
 by_cases e:p.1=s
 · subst e;rw [h] at x;cases x
 · rw [if_neg e];exact x
theorem Sub.is {a b:List (ByteArray×β)} (h:Sub a b) {s:ByteArray} (k:(lastP a s).isSome=true):(lastP b s).isSome=true:=by
 obtain ⟨v,hv⟩:=Option.isSome_iff_exists.1 k
 rw [h s v hv];rfl
theorem Sub.eq {a b:List (ByteArray×β)} (h:Sub a b) {s:ByteArray} (k:(lastP a s).isSome=true):lastP b s=lastP a s:=by
 obtain ⟨v,hv⟩:=Option.isSome_iff_exists.1 k
 rw [h s v hv,hv]
theorem lastP_none {l:List (ByteArray×β)} {s:ByteArray}:lastP l s=none↔∀ p∈l,p.1≠s:=by
 unfold lastP
 rw [Option.map_eq_none_iff,List.find?_eq_none]
 simp
end
theorem isI (deps:List (ByteArray×Int)) (s:ByteArray):(lastOf (vI deps) s).isSome=(lastP deps s).isSome:=by rw [lastOf_vI];simp
theorem orC_iff {a b:Int}:orC a b=0↔a=0∧b=0:=by
 unfold orC
 split
 · rename_i h;simp [h]
 · rename_i h;simp [h]
theorem needC_iff {b:Bool} {c:Int} (hc:c≠0):needC b c=0↔b=true:=by
 unfold needC
 cases b<;>simp [hc]
theorem mem_dedupA {s:ByteArray}:∀ {l seen:List ByteArray},s∈dedupA seen l→s∈l
 | [],_,h=>by cases h
 | x::l,seen,h=>by
  unfold dedupA at h
  split at h
  · exact List.mem_cons_of_mem _ (mem_dedupA h)
  · rcases List.mem_cons.1 h with rfl | h
    · exact List.mem_cons_self
    · exact List.mem_cons_of_mem _ (mem_dedupA h)
section
variable {deps deps':List (ByteArray×Int)} {strs strs':List (ByteArray×Bool)}
theorem casesL_mono (hd:Sub deps deps') (hi:Int):∀ (l:List CaseD) (lo:Int),casesL hi (vI deps) lo l=0→casesL hi (vI deps') lo l=0∧∀ c∈l,(lastP deps c.of).isSome=true
 | [],_,_=>⟨rfl,fun _ h=>by cases h⟩
 | x::l,lo,h=>by
  simp only [casesL,orC_iff,needC_iff (show (8:Int)≠0 by decide),isI] at h ⊢
  obtain ⟨h1,h2,h3⟩:=h
  obtain ⟨i1,i2⟩:=casesL_mono hd hi l _ h3
  refine ⟨⟨h1,hd.is h2,i1⟩,fun c hc=>?_⟩
  rcases List.mem_cons.1 hc with rfl | hc
  · exact h2
  · exact i2 c hc
theorem strB_some {s:ByteArray} (h:strB (vB strs) s=true):lastP strs s=some true:=by
 rw [strB_vB] at h
 cases hl:lastP strs s with
 | none=>rw [hl] at h;cases h
 | some b=>rw [hl] at h;simp at h;rw [h]
theorem examine_mono (hd:Sub deps deps') (hs:Sub strs strs') {bef:List FieldD} {f:FieldD} (h:examineC bef (vI deps) (vB strs) f=0):examineC bef (vI deps') (vB strs') f=0:=by
 unfold examineC at h ⊢
 simp only [orC_iff] at h ⊢
 refine ⟨h.1,h.2.1,h.2.2.1,h.2.2.2.1,?_⟩
 obtain ⟨_,_,_,_,h⟩:=h
 unfold checkC at h ⊢
 by_cases k1:f.kind=1
 · rw [if_pos k1] at h ⊢;exact h
 rw [if_neg k1] at h ⊢
 by_cases k2:f.kind=2
 · rw [if_pos k2] at h ⊢;exact h
 rw [if_neg k2] at h ⊢
 by_cases k3:f.kind=3
 · rw [if_pos k3] at h ⊢;exact h
 rw [if_neg k3] at h ⊢
 by_cases k4:f.kind=4
 · rw [if_pos k4] at h ⊢;exact h
 rw [if_neg k4] at h ⊢
 by_cases k5:f.kind=5
 · rw [if_pos k5] at h ⊢;exact h
 rw [if_neg k5] at h ⊢
 by_cases k6:f.kind=6
 · rw [if_pos k6] at h ⊢;exact h
 rw [if_neg k6] at h ⊢
 by_cases k7:f.kind=7
 · rw [if_pos k7] at h ⊢
   simp only [orC_iff,needC_iff (show (8:Int)≠0 by decide),isI] at h ⊢
   exact ⟨hd.is h.1,h.2⟩
 rw [if_neg k7] at h ⊢
 by_cases k8:f.kind=8
 · rw [if_pos k8] at h ⊢
   simp only [needC_iff (show (8:Int)≠0 by decide),isI] at h ⊢
   exact hd.is h
 rw [if_neg k8] at h ⊢
 by_cases k9:f.kind=9
 · rw [if_pos k9] at h ⊢
   unfold casesC at h ⊢
   simp only [orC_iff] at h ⊢
   exact ⟨h.1,h.2.1,(casesL_mono hd _ _ _ h.2.2).1⟩
 rw [if_neg k9] at h ⊢
 by_cases k10:f.kind=10
 · rw [if_pos k10] at h ⊢;exact h
 rw [if_neg k10] at h ⊢
 by_cases k11:f.kind=11
 · rw [if_pos k11] at h ⊢;exact h
 rw [if_neg k11] at h ⊢
 by_cases k12:f.kind=12
 · rw [if_pos k12] at h ⊢
   simp only [orC_iff,needC_iff (show (8:Int)≠0 by decide)] at h ⊢
   refine ⟨h.1,?_,h.2.2⟩
   rw [strB_vB,hs _ _ (strB_some h.2.1)];rfl
 rw [if_neg k12]
theorem examine_refs (hds:∀ s,(lastP strs s).isSome=true→(lastP deps s).isSome=true) {bef:List FieldD} {f:FieldD} (h:examineC bef (vI deps) (vB strs) f=0):∀ s∈refsF f,(lastP deps s).isSome=true:=by
 intro s hs
 unfold examineC at h
 simp only [orC_iff] at h
 obtain ⟨_,_,_,_,h⟩:=h
 unfold checkC at h
 unfold refsF at hs
 split at hs
 · rename_i hk
   simp only [List.mem_singleton] at hs
   subst hs
   rcases hk with hk | hk | hk
   · rw [if_neg (by omega),if_neg (by omega),if_neg (by omega),if_neg (by omega),if_neg (by omega),if_neg (by omega),if_pos hk] at h
     simp only [orC_iff,needC_iff (show (8:Int)≠0 by decide),isI] at h
     exact h.1
   · rw [if_neg (by omega),if_neg (by omega),if_neg (by omega),if_neg (by omega),if_neg (by omega),if_neg (by omega),if_neg (by omega),if_pos hk] at h
     simp only [needC_iff (show (8:Int)≠0 by decide),isI] at h
     exact h
   · rw [if_neg (by omega),if_neg (by omega),if_neg (by omega),if_neg (by omega),if_neg (by omega),if_neg (by omega),if_neg (by omega),if_neg (by omega),if_neg (by omega),if_neg (by omega),if_neg (by omega),if_pos hk] at h
     simp only [orC_iff,needC_iff (show (8:Int)≠0 by decide)] at h
     exact hds _ (by rw [strB_some h.2.1];rfl)
 · split at hs
   · rename_i hk
     obtain ⟨c,hc,rfl⟩:=List.mem_map.1 hs
     rw [if_neg (by omega),if_neg (by omega),if_neg (by omega),if_neg (by omega),if_neg (by omega),if_neg (by omega),if_neg (by omega),if_neg (by omega),if_pos hk] at h
     unfold casesC at h
     simp only [orC_iff] at h
     exact (casesL_mono (Sub.refl deps) _ _ _ h.2.2).2 c hc
   · cases hs
theorem fields_mono (hd:Sub deps deps') (hs:Sub strs strs') (hds:∀ s,(lastP strs s).isSome=true→(lastP deps s).isSome=true):∀ (l bef:List FieldD),(fieldsP deps strs bef l).2=0→fieldsP deps' strs' bef l=(-1,0)∧∀ s∈allRefs l,(lastP deps s).isSome=true
 | [],bef,h=>⟨rfl,fun s hs=>by cases hs⟩
 | f::l,bef,h=>by
  unfold fieldsP at h ⊢
  by_cases h0:examineC bef (vI deps) (vB strs) f=0
  · rw [if_pos h0] at h
    rw [if_pos (examine_mono hd hs h0)]
    obtain ⟨i1,i2⟩:=fields_mono hd hs hds l _ h
    refine ⟨i1,fun s hs=>?_⟩
    rcases List.mem_append.1 (show s∈refsF f++allRefs l from hs) with hs | hs
    · exact examine_refs hds h0 s hs
    · exact i2 s hs
  · rw [if_neg h0] at h;exact absurd h h0
theorem next_parts {m:MsgD} (h:(nextP deps strs m).2=0):nameB m.name=true∧lastP deps m.name=none∧(1≤m.fields.length∧m.fields.length≤40)∧(fieldsP deps strs [] m.fields).2=0∧depthM deps m < 16:=by
 have hl:=nextP_low h
 unfold nextP at h
 by_cases h1:nameB m.name=true
 · rw [if_pos h1] at h
   by_cases h2:(lastP deps m.name).isSome=true
   · rw [if_pos h2] at h;exact absurd h (by decide)
   · rw [if_neg h2] at h
     by_cases h3:1≤m.fields.length∧m.fields.length≤40
     · rw [if_pos h3] at h
       refine ⟨h1,by simpa using h2,h3,?_,hl⟩
       unfold tailP at h
       split at h
       · assumption
       · contradiction
     · rw [if_neg h3] at h;exact absurd h (by decide)
 · rw [if_neg h1] at h;exact absurd h (by decide)
end
section
variable {deps:List (ByteArray×Int)} {strs:List (ByteArray×Bool)}
theorem msgs_cons0 {m:MsgD} {l:List MsgD} {i:Nat} (h:(nextP deps strs m).2=0):msgsP deps strs i (m::l)=msgsP (stepD deps m) (stepS strs m) (i+1) l:=if_pos h
theorem msgs_cons1 {m:MsgD} {l:List MsgD} {i:Nat} (h:¬ (nextP deps strs m).2=0):msgsP deps strs i (m::l)=((i:Int),nextP deps strs m):=if_neg h
theorem msgs_append (r:List MsgD):∀ (l:List MsgD) (deps:List (ByteArray×Int)) (strs:List (ByteArray×Bool)) (i:Nat),((msgsP deps strs i l).2.2=0→msgsP deps strs i (l++r)=msgsP (l.foldl stepD deps) (l.foldl stepS strs) (i+l.length) r)∧((msgsP deps strs i l).2.2≠0→msgsP deps strs i (l++r)=msgsP deps strs i l)
 | [],deps,strs,i=>⟨fun _=>rfl,fun h=>absurd rfl h⟩
 | m::l,deps,strs,i=>by
  have ih:=msgs_append r l (stepD deps m) (stepS strs m) (i+1)
  by_cases h:(nextP deps strs m).2=0
  · rw [msgs_cons0 h,List.cons_append,msgs_cons0 h]
    simp only [List.foldl_cons,List.length_cons]
    rw [show i+(l.length+1)=i+1+l.length by omega]
    exact ih
  · rw [msgs_cons1 h,List.cons_append,msgs_cons1 h]
    exact ⟨fun k=>absurd k h,fun _=>rfl⟩
theorem msgs_at {l:List MsgD} {deps:List (ByteArray×Int)} {strs:List (ByteArray×Bool)} {i:Nat} (h:(msgsP deps strs i l).2.2=0) {k:Nat} {m:MsgD} (hk:l[k]?=some m):(nextP ((l.take k).foldl stepD deps) ((l.take k).foldl stepS strs) m).2=0∧(msgsP deps strs i (l.take k)).2.2=0:=by
 have hl:l=l.take k++m::l.drop (k+1):=by
  have:=(List.take_append_drop k l).symm
  rw [List.drop_eq_getElem_cons (List.getElem?_eq_some_iff.1 hk).1] at this
  rw [(List.getElem?_eq_some_iff.1 hk).2] at this
  exact this
 rw [hl] at h
 by_cases h0:(msgsP deps strs i (l.take k)).2.2=0
 · rw [(msgs_append _ _ _ _ _).1 h0] at h
   refine ⟨?_,h0⟩
   by_cases h1:(nextP ((l.take k).foldl stepD deps) ((l.take k).foldl stepS strs) m).2=0
   · exact h1
   · rw [msgs_cons1 h1] at h;exact absurd h h1
 · rw [(msgs_append _ _ _ _ _).2 h0] at h;exact absurd h h0
theorem deps_snoc (l:List MsgD) (m:MsgD):depsOf (l++[m])=depsOf l++[(m.name,depthM (depsOf l) m+1)]:=by unfold depsOf;rw [List.foldl_append];rfl
theorem strs_snoc (l:List MsgD) (m:MsgD):strsOf (l++[m])=strsOf l++[(m.name,strictM (strsOf l) m)]:=by unfold strsOf;rw [List.foldl_append];rfl
theorem fold_names:∀ (l:List MsgD) (a:List (ByteArray×Int)) (b:List (ByteArray×Bool)),(l.foldl stepD a).map (·.1)=a.map (·.1)++l.map (·.name)∧(l.foldl stepS b).map (·.1)=b.map (·.1)++l.map (·.name)
 | [],a,b=>by simp
 | m::l,a,b=>by
  have ih:=fold_names l (stepD a m) (stepS b m)
  simp only [List.foldl_cons,List.map_cons]
  rw [ih.1,ih.2]
  simp [stepD,stepS]
theorem isD {l:List MsgD} {s:ByteArray}:(lastP (depsOf l) s).isSome=true↔∃ m∈l,m.name=s:=by
 have h1:=(fold_names l [] []).1
 rw [← Option.ne_none_iff_isSome,ne_eq,lastP_none]
 constructor
 · intro h
   apply Classical.byContradiction
   intro hn
   apply h
   intro p hp he
   have:p.1∈(depsOf l).map (·.1):=List.mem_map.2 ⟨p,hp,rfl⟩
   rw [show depsOf l=l.foldl stepD [] from rfl,h1] at this
   obtain ⟨m,hm,hme⟩:=List.mem_map.1 (show p.1∈l.map (·.name) by simpa using this)
   exact hn ⟨m,hm,hme.trans he⟩
 · rintro ⟨m,hm,rfl⟩ h
   have:m.name∈(depsOf l).map (·.1):=by rw [show depsOf l=l.foldl stepD [] from rfl,h1];simpa using ⟨m,hm,rfl⟩
   obtain ⟨p,hp,hpe⟩:=List.mem_map.1 this
   exact h p hp hpe
theorem isS {l:List MsgD} {s:ByteArray}:(lastP (strsOf l) s).isSome=true↔∃ m∈l,m.name=s:=by
 have h1:=(fold_names l [] []).2
 rw [← Option.ne_none_iff_isSome,ne_eq,lastP_none]
 constructor
 · intro h
   apply Classical.byContradiction
   intro hn
   apply h
   intro p hp he
   have:p.1∈(strsOf l).map (·.1):=List.mem_map.2 ⟨p,hp,rfl⟩
   rw [show strsOf l=l.foldl stepS [] from rfl,h1] at this
   obtain ⟨m,hm,hme⟩:=List.mem_map.1 (show p.1∈l.map (·.name) by simpa using this)
   exact hn ⟨m,hm,hme.trans he⟩
 · rintro ⟨m,hm,rfl⟩ h
   have:m.name∈(strsOf l).map (·.1):=by rw [show strsOf l=l.foldl stepS [] from rfl,h1];simpa using ⟨m,hm,rfl⟩
   obtain ⟨p,hp,hpe⟩:=List.mem_map.1 this
   exact h p hp hpe
def Fine (l:List MsgD):Prop:=(msgsP [] [] 0 l).2.2=0
theorem Fine.next {l:List MsgD} (h:Fine l) {k:Nat} {m:MsgD} (hk:l[k]?=some m):(nextP (depsOf (l.take k)) (strsOf (l.take k)) m).2=0:=(msgs_at h hk).1
theorem Fine.take {l:List MsgD} (h:Fine l) (k:Nat):Fine (l.take k):=by
 by_cases hk:k < l.length
 · obtain ⟨m,hm⟩:=getElem?_lt hk
   exact (msgs_at h hm).2
 · rw [List.take_of_length_le (by omega)];exact h
theorem Fine.sub {l:List MsgD} (h:Fine l):∀ (n k:Nat),Sub (depsOf (l.take k)) (depsOf (l.take (k+n)))∧Sub (strsOf (l.take k)) (strsOf (l.take (k+n)))
 | 0,k=>⟨Sub.refl _,Sub.refl _⟩
 | n+1,k=>by
  have ih:=h.sub n k
  rw [← Nat.add_assoc]
  by_cases hk:k+n < l.length
  · obtain ⟨m,hm⟩:=getElem?_lt hk
    have h2:=(next_parts (h.next hm)).2.1
    rw [take_snoc hm,deps_snoc,strs_snoc]
    refine ⟨ih.1.trans (Sub.snoc h2),ih.2.trans (Sub.snoc ?_)⟩
    show lastP (strsOf (l.take (k+n))) m.name=none
    rw [← Option.not_isSome_iff_eq_none,isS,← isD,Option.not_isSome_iff_eq_none]
    exact h2
  · rw [List.take_of_length_le (show l.length≤k+n+1 by omega)]
    rw [List.take_of_length_le (show l.length≤k+n by omega)] at ih
    exact ih
theorem Fine.suball {l:List MsgD} (h:Fine l) (k:Nat):Sub (depsOf (l.take k)) (depsOf l)∧Sub (strsOf (l.take k)) (strsOf l):=by
 have:=h.sub l.length k
 rw [List.take_of_length_le (show l.length≤k+l.length by omega)] at this
 exact this
theorem Fine.depth {l:List MsgD} (h:Fine l) {k:Nat} {m:MsgD} (hk:l[k]?=some m):lastP (depsOf l) m.name=some (depthM (depsOf (l.take k)) m+1):=by
 refine (h.suball (k+1)).1 _ _ ?_
 rw [take_snoc hk,deps_snoc,lastP_snoc,if_pos rfl]
theorem Fine.low {l:List MsgD} (h:Fine l):∀ k,Low (depsOf (l.take k))
 | 0=>fun p hp=>by simp [depsOf] at hp
 | k+1=>by
  by_cases hk:k < l.length
  · obtain ⟨m,hm⟩:=getElem?_lt hk
    rw [take_snoc hm,show depsOf (l.take k++[m])=stepD (depsOf (l.take k)) m from deps_snoc _ _]
    exact (h.low k).step (h.next hm)
  · rw [List.take_of_length_le (show l.length≤k+1 by omega)]
    have:=h.low k
    rw [List.take_of_length_le (show l.length≤k by omega)] at this
    exact this
theorem le_foldl (g:ByteArray→Int):∀ (l:List ByteArray) (d:Int),d≤l.foldl (fun d s=>maxI d (g s)) d∧∀ s∈l,g s≤l.foldl (fun d s=>maxI d (g s)) d
 | [],d=>⟨by simp,fun _ h=>by cases h⟩
 | x::l,d=>by
  have ih:=le_foldl g l (maxI d (g x))
  simp only [List.foldl_cons]
  have h1:d≤maxI d (g x):=le_maxI _ _
  have h2:g x≤maxI d (g x):=by unfold maxI;split<;>omega
  refine ⟨by omega,fun s hs=>?_⟩
  rcases List.mem_cons.1 hs with rfl | hs
  · omega
  · exact ih.2 s hs
theorem mem_refsM {m:MsgD} {s:ByteArray} (h:s∈refsM m):s∈allRefs m.fields:=mem_dedupA h
theorem ds_of (l:List MsgD) (s:ByteArray) (h:(lastP (strsOf l) s).isSome=true):(lastP (depsOf l) s).isSome=true:=isD.2 (isS.1 h)
theorem Fine.refs {l:List MsgD} (h:Fine l) {k:Nat} {m:MsgD} (hk:l[k]?=some m) {s:ByteArray} (hs:s∈refsM m) :
 ∃ i m',i < k∧l[i]?=some m'∧m'.name=s∧(∀ j m'',j < i→l[j]?=some m''→m''.name≠s)∧∃ v,lastP (depsOf l) s=some v∧v≤depthM (depsOf (l.take k)) m:=by
 obtain ⟨_,_,_,h4,_⟩:=next_parts (h.next hk)
 have h5:=(fields_mono (Sub.refl _) (Sub.refl _) (ds_of _) _ _ h4).2 s (mem_refsM hs)
 obtain ⟨m',hm',hn⟩:=isD.1 h5
 obtain ⟨i,hi⟩:=List.getElem?_of_mem hm'
 have hik:i < k∧l[i]?=some m':=by
  rw [List.getElem?_take] at hi
  split at hi
  · exact ⟨by assumption,hi⟩
  · cases hi
 obtain ⟨v,hv⟩:=Option.isSome_iff_exists.1 h5
 refine ⟨i,m',hik.1,hik.2,hn,fun j m'' hj hj2 hne=>?_,v,(h.suball k).1 _ _ hv,?_⟩
 · have h6:=(next_parts (h.next hik.2)).2.1
   rw [← Option.not_isSome_iff_eq_none,isD] at h6
   exact h6 ⟨m'',List.mem_of_getElem? (i:=j) (by rw [List.getElem?_take,if_pos hj];exact hj2),hne.trans hn.symm⟩
 · have:=(le_foldl (fun s=>(lastP (depsOf (l.take k)) s).getD 0) (refsM m) 0).2 s hs
   rw [hv] at this
   exact this
end
section
variable {d:DefD}
theorem check_fine (h:(checkP d).2.2=0):nameB d.name=true∧(1≤d.msgs.length∧d.msgs.length≤60)∧Fine d.msgs∧(lastP (depsOf d.msgs) d.start).isSome=true:=by
 unfold checkP at h
 by_cases h1:nameB d.name=true
 · rw [if_pos h1] at h
   by_cases h2:1≤d.msgs.length∧d.msgs.length≤60
   · rw [if_pos h2] at h
     unfold endP at h
     by_cases h3:(msgsP [] [] 0 d.msgs).2.2=0
     · rw [if_pos h3] at h
       by_cases h4:(lastP (depsOf d.msgs) d.start).isSome=true
       · exact ⟨h1,h2,h3,h4⟩
       · rw [if_neg h4] at h;exact absurd h (by decide)
     · rw [if_neg h3] at h;exact absurd h h3
   · rw [if_neg h2] at h;exact absurd h (by decide)
 · rw [if_neg h1] at h;exact absurd h (by decide)
end
def sumT (f:TermD→Int):List TermD→Int
 | []=>0
 | t::ts=>t.factor*f t+sumT f ts
def rngT (rp:List (ByteArray×Int×Int)) (t:TermD):Int×Int:=(lastR rp t.field).getD (0,0)
def mixT (rp:List (ByteArray×Int×Int)) (mix i:Nat) (t:TermD):Int:=if mix / 2 ^ i % 2=1 then (rngT rp t).2 else (rngT rp t).1
def mixS (rp:List (ByteArray×Int×Int)) (mix:Nat):Nat→List TermD→Int
 | _,[]=>0
 | i,t::ts=>t.factor*mixT rp mix i t+mixS rp mix (i+1) ts
section
variable {rp:List (ByteArray×Int×Int)}
theorem mixS_choice (b:TermD→Bool):∀ ts:List TermD,∃ mix:Nat,mix < 2 ^ ts.length∧∀ i r:Nat,r < 2 ^ i→mixS rp (mix*2 ^ i+r) i ts=sumT (fun t=>if b t then (rngT rp t).2 else (rngT rp t).1) ts
 | []=>⟨0,by simp,fun i r _=>rfl⟩
 | t::ts=>by
  obtain ⟨mix,h1,h2⟩:=mixS_choice b ts
  refine ⟨mix*2+(if b t then 1 else 0),?_,fun i r hr=>?_⟩
  · rw [List.length_cons,Nat.pow_succ]
    split<;>omega
  · have hd:((mix*2+(if b t then 1 else 0))*2 ^ i+r) / 2 ^ i=mix*2+(if b t then 1 else 0):=by
     rw [Nat.mul_comm _ (2 ^ i),Nat.mul_add_div (Nat.two_pow_pos i),Nat.div_eq_of_lt hr,Nat.add_zero]
    have hm:(mix*2+(if b t then 1 else 0)) % 2=if b t then 1 else 0:=by split<;>omega
    have he:(mix*2+(if b t then 1 else 0))*2 ^ i+r=mix*2 ^ (i+1)+((if b t then 1 else 0)*2 ^ i+r):=by
     rw [Nat.add_mul,Nat.pow_succ,Nat.mul_assoc,Nat.mul_comm 2 (2 ^ i)];omega
    have hr':(if b t then 1 else 0)*2 ^ i+r < 2 ^ (i+1):=by
     rw [Nat.pow_succ];split<;>omega
    simp only [mixS,sumT]
    have h3:=h2 (i+1) _ hr'
    rw [← he] at h3
    rw [h3]
    unfold mixT
    rw [hd,hm]
    cases b t<;>rfl
theorem mixS_le {ts:List TermD} {f g:TermD→Int} (hf:∀ t∈ts,t.factor*f t≤t.factor*(rngT rp t).1∧t.factor*f t≤t.factor*(rngT rp t).2) (hg:∀ t∈ts,t.factor*(rngT rp t).1≤t.factor*g t∧t.factor*(rngT rp t).2≤t.factor*g t) (mix:Nat):∀ i,sumT f ts≤mixS rp mix i ts∧mixS rp mix i ts≤sumT g ts:=by
 induction ts with
 | nil=>intro i;exact ⟨Int.le_refl _,Int.le_refl _⟩
 | cons t ts ih =>
  intro i
  have h1:=hf t List.mem_cons_self
  have h2:=hg t List.mem_cons_self
  have h3:=ih (fun t ht=>hf t (List.mem_cons_of_mem _ ht)) (fun t ht=>hg t (List.mem_cons_of_mem _ ht)) (i+1)
  simp only [sumT,mixS]
  unfold mixT
  split<;>omega
theorem sumT_congr {ts:List TermD} {f g:TermD→Int} (h:∀ t∈ts,f t=g t):sumT f ts=sumT g ts:=by
 induction ts with
 | nil=>rfl
 | cons t ts ih =>
  simp only [sumT]
  rw [h t List.mem_cons_self,ih (fun t ht=>h t (List.mem_cons_of_mem _ ht))]
theorem mul_bound {a b:Int} (h1 : -1048576≤a) (h2:a≤1048576) (h3:0≤b) (h4:b≤34359738368) : -36028797018963968≤a*b∧a*b≤36028797018963968:=by
 have a1:a*b≤1048576*b:=Int.mul_le_mul_of_nonneg_right h2 h3
 have a2 : -1048576*b≤a*b:=Int.mul_le_mul_of_nonneg_right h1 h3
 omega
def Small4 (rp:List (ByteArray×Int×Int)) (t:TermD):Prop := -1048576≤t.factor∧t.factor≤1048576∧0≤(rngT rp t).1∧(rngT rp t).1≤(rngT rp t).2∧(rngT rp t).2≤34359738368
theorem numW_sum {f:TermD→Int}:∀ (ts:List TermD) (n:Int),(∀ t∈ts,-36028797018963968≤t.factor*f t∧t.factor*f t≤36028797018963968) → -4611686018427387904≤n - ts.length*36028797018963968→n+ts.length*36028797018963968≤4611686018427387904→numW n f ts=n+sumT f ts
 | [],n,_,_,_=>by simp [numW,sumT]
 | t::ts,n,h,h1,h2=>by
  have h3:=h t List.mem_cons_self
  simp only [List.length_cons] at h1 h2
  have e1:IntKind.i64.wrap (t.factor*f t)=t.factor*f t:=wrap_ok (by omega) (by omega)
  have e2:IntKind.i64.wrap (n+t.factor*f t)=n+t.factor*f t:=wrap_ok (by omega) (by omega)
  have ih:=numW_sum (f:=f) ts (n+t.factor*f t) (fun t ht=>h t (List.mem_cons_of_mem _ ht)) (by omega) (by omega)
  simp only [numW,List.foldl_cons,sumT] at ih ⊢
  rw [e1,e2,ih]
  omega
theorem endF_rng {t:TermD} (h:(lastR rp t.field).isSome=true) (least:Bool):endF rp least t=if least == decide (t.factor > 0) then (rngT rp t).1 else (rngT rp t).2:=by
 unfold endF rngT
 obtain ⟨q,hq⟩:=Option.isSome_iff_exists.1 h
 rw [hq]
 rfl
theorem end_le {t:TermD} (h:(lastR rp t.field).isSome=true) (hs:Small4 rp t):t.factor*endF rp true t≤t.factor*(rngT rp t).1∧t.factor*endF rp true t≤t.factor*(rngT rp t).2:=by
 rw [endF_rng h]
 by_cases hp:t.factor > 0
 · have:t.factor*(rngT rp t).1≤t.factor*(rngT rp t).2:=Int.mul_le_mul_of_nonneg_left hs.2.2.2.1 (by omega)
   simp only [hp,decide_true,BEq.rfl,if_true]
   omega
 · have:t.factor*(rngT rp t).2≤t.factor*(rngT rp t).1:=Int.mul_le_mul_of_nonpos_left (by omega) hs.2.2.2.1
   rw [show (true == decide (t.factor > 0))=false by simp [hp],if_neg (by decide)]
   omega
theorem end_ge {t:TermD} (h:(lastR rp t.field).isSome=true) (hs:Small4 rp t):t.factor*(rngT rp t).1≤t.factor*endF rp false t∧t.factor*(rngT rp t).2≤t.factor*endF rp false t:=by
 rw [endF_rng h]
 by_cases hp:t.factor > 0
 · have:t.factor*(rngT rp t).1≤t.factor*(rngT rp t).2:=Int.mul_le_mul_of_nonneg_left hs.2.2.2.1 (by omega)
   rw [show (false == decide (t.factor > 0))=false by simp [hp],if_neg (by decide)]
   omega
 · have:t.factor*(rngT rp t).2≤t.factor*(rngT rp t).1:=Int.mul_le_mul_of_nonpos_left (by omega) hs.2.2.2.1
   rw [show (false == decide (t.factor > 0))=true by simp [hp],if_pos rfl]
   omega
theorem end_in {t:TermD} (h:(lastR rp t.field).isSome=true) (hs:Small4 rp t) (least:Bool) : -36028797018963968≤t.factor*endF rp least t∧t.factor*endF rp least t≤36028797018963968:=by
 obtain ⟨h1,h2,h3,h4,h5⟩:=hs
 rw [endF_rng h]
 split
 · exact mul_bound h1 h2 h3 (by omega)
 · exact mul_bound h1 h2 (by omega) h5
theorem mix_least {ts:List TermD} (h:∀ t∈ts,(lastR rp t.field).isSome=true∧Small4 rp t):(∀ mix,sumT (endF rp true) ts≤mixS rp mix 0 ts∧mixS rp mix 0 ts≤sumT (endF rp false) ts)∧(∃ mix,mix < 2 ^ ts.length∧mixS rp mix 0 ts=sumT (endF rp true) ts)∧(∃ mix,mix < 2 ^ ts.length∧mixS rp mix 0 ts=sumT (endF rp false) ts):=by
 refine ⟨fun mix=>mixS_le (fun t ht=>end_le (h t ht).1 (h t ht).2) (fun t ht=>end_ge (h t ht).1 (h t ht).2) mix 0,?_,?_⟩
 · obtain ⟨mix,h1,h2⟩:=mixS_choice (rp:=rp) (fun t=>!(true == decide (t.factor > 0))) ts
   refine ⟨mix,h1,?_⟩
   have:=h2 0 0 (by decide)
   rw [Nat.pow_zero,Nat.mul_one,Nat.add_zero] at this
   rw [this]
   refine sumT_congr fun t ht=>?_
   rw [endF_rng (h t ht).1]
   cases (true == decide (t.factor > 0))<;>rfl
 · obtain ⟨mix,h1,h2⟩:=mixS_choice (rp:=rp) (fun t=>!(false == decide (t.factor > 0))) ts
   refine ⟨mix,h1,?_⟩
   have:=h2 0 0 (by decide)
   rw [Nat.pow_zero,Nat.mul_one,Nat.add_zero] at this
   rw [this]
   refine sumT_congr fun t ht=>?_
   rw [endF_rng (h t ht).1]
   cases (false == decide (t.factor > 0))<;>rfl
end
theorem op_shr {P:Program} {QP:List PanicEntry→World→Prop} {w:World} {k:Value→World→Prop} (t:TypeId) (c:Bool) (x:Nat) (yk:IntKind) (y:Nat) (h1:y≤64):opV P (binS .shr t c (.int .i64 (x:Int)) (.int yk (y:Int))) QP w k=k (.int .i64 ((x / 2 ^ y:Nat):Int)) w:=opV_ok (by
 have h0:(0:Int)≤(y:Int):=by omega
 have h2:(y:Int)≤64:=by omega
 have h3:(x:Int).fdiv (2 ^ y)=((x / 2 ^ y:Nat):Int):=by
  rw [Int.fdiv_eq_ediv_of_nonneg _ (by exact Int.le_of_lt (Int.pow_pos (by decide)))]
  simp
 simp [binS,go_sem,h0,h2,h3])
abbrev ranCells (p:ByteArray×Int×Int):List Value:=[.string p.1,.int .i64 p.2.1,.int .i64 p.2.2]
def ERan (_:World) (cs:List Value) (p:ByteArray×Int×Int):Prop:=cs=ranCells p
theorem keptRan:Kept ERan:=fun _ _ _ _ _ h=>h
def RansOf (w:World) (v:Value) (l:List (ByteArray×Int×Int)):Prop:=SliceOf w 3 ERan v l
theorem RansOf.ext {w w':World} {v:Value} {l:List (ByteArray×Int×Int)} (h:RansOf w v l) (e:Ext w w'):RansOf w' v l:=SliceOf.ext keptRan h e
def LastAt (rp:List (ByteArray×Int×Int)) (s:ByteArray) (a:Int):Prop:=(a = -1∧lastR rp s=none)∨∃ (j:Nat) (q:Int×Int),a=j∧rp[j]?=some (s,q)∧lastR rp s=some q
theorem lastR_snoc (ps:List (ByteArray×Int×Int)) (p:ByteArray×Int×Int) (s:ByteArray):lastR (ps++[p]) s=if p.1=s then some p.2 else lastR ps s:=lastP_snoc ps p s
theorem LastAt.step {rp:List (ByteArray×Int×Int)} {s:ByteArray} {a:Int} {k:Nat} {p:ByteArray×Int×Int} (h:LastAt (rp.take k) s a) (hk:rp[k]?=some p):LastAt (rp.take (k+1)) s (if p.1=s then (k:Int) else a):=by
 have hlt:=(List.getElem?_eq_some_iff.1 hk).1
 by_cases he:p.1=s
 · rw [if_pos he]
   refine .inr ⟨k,p.2,rfl,?_,?_⟩
   · rw [List.getElem?_take,if_pos (by omega),hk,← he]
   · rw [take_snoc hk,lastR_snoc,if_pos he]
 · rw [if_neg he]
   rcases h with ⟨h1,h2⟩ | ⟨j,q,h1,h2,h3⟩
   · exact .inl ⟨h1,by rw [take_snoc hk,lastR_snoc,if_neg he];exact h2⟩
   · refine .inr ⟨j,q,h1,?_,by rw [take_snoc hk,lastR_snoc,if_neg he];exact h3⟩
     rw [List.getElem?_take] at h2 ⊢
     split at h2
     · rw [if_pos (by omega)];exact h2
     · cases h2
theorem name_ne {s:ByteArray} (h:nameB s=true):s≠ByteArray.empty:=by
 rintro rfl
 exact absurd h (by decide)
theorem checked_all {rp:List (ByteArray×Int×Int)}:∀ (ts:List TermD) (no:Bool),(∀ t∈ts,t.field≠ByteArray.empty∧(lastR rp t.field).isSome=true)→checkedF ByteArray.empty (RP rp) wideV ts no=if ts.all (fun t=>wideB (rngT rp t).1 (rngT rp t).2) then (if no then 9 else 0) else 2
 | [],no,_=>rfl
 | t::ts,no,h=>by
  obtain ⟨h1,h2⟩:=h t List.mem_cons_self
  have ih:=checked_all (rp:=rp) ts no (fun t ht=>h t (List.mem_cons_of_mem _ ht))
  obtain ⟨q,hq⟩:=Option.isSome_iff_exists.1 h2
  have hr:rngT rp t=q:=by unfold rngT;rw [hq];rfl
  simp only [checkedF,if_neg h1,lastOf_RP,hq,Option.map_some,List.all_cons,hr]
  have hw:wideV (rangeVal q.1 q.2)=wideB q.1 q.2:=rfl
  rw [hw]
  cases wideB q.1 q.2 with
  | false=>rfl
  | true=>simpa using ih
theorem terms_names {base:Int} {ts:List TermD} (h:sizeB base ts=true):smallB base=true∧ts.length≤4∧∀ t∈ts,termB t=true:=by
 unfold sizeB at h
 simp only [Bool.and_eq_true,decide_eq_true_eq] at h
 refine ⟨h.1.1,h.1.2,fun t ht=>?_⟩
 obtain ⟨k,hk⟩:=List.getElem?_of_mem ht
 have:=(termsB_iff ts []).1 h.2 k t hk
 simp only [Bool.or_eq_false_iff,Bool.not_eq_false'] at this
 exact this.2
def ivOf (base:Int) (ts:List TermD) (rp:List (ByteArray×Int×Int)):Value := .tuple #[.int .i64 (intervalL base ts rp),.int .i64 (intervalH base ts rp),.int .i64 (intervalE base ts rp)]
theorem iv_bad {base:Int} {ts:List TermD} {rp:List (ByteArray×Int×Int)} (h:intervalE base ts rp=2):ivOf base ts rp = .tuple #[.int .i64 0,.int .i64 0,.int .i64 2]:=by
 unfold ivOf intervalL intervalH
 rw [h]
 rfl
theorem iv_fine {base:Int} {ts:List TermD} {rp:List (ByteArray×Int×Int)} (hs:sizeB base ts=true) (hin:∀ t∈ts,(lastR rp t.field).isSome=true) (hw:∀ t∈ts,wideB (rngT rp t).1 (rngT rp t).2=true):(∀ t∈ts,Small4 rp t)∧ivOf base ts rp = .tuple #[.int .i64 (base+sumT (endF rp true) ts),.int .i64 (base+sumT (endF rp false) ts),.int .i64 0]:=by
 obtain ⟨h1,h2,h3⟩:=terms_names hs
 have h4:∀ t∈ts,Small4 rp t:=fun t ht=>by
  have a:=h3 t ht
  have b:=hw t ht
  unfold termB smallB at a
  unfold wideB at b
  simp only [Bool.and_eq_true,decide_eq_true_eq] at a b
  exact ⟨a.2.1,a.2.2,b.1.1,b.1.2,by omega⟩
 have hb : -1048576≤base∧base≤1048576:=by unfold smallB at h1;simpa using h1
 have hE:intervalE base ts rp=0:=by
  unfold intervalE
  rw [if_pos hs,checked_all ts false (fun t ht=>⟨name_ne (by have:=h3 t ht;unfold termB at this;simp only [Bool.and_eq_true] at this;exact this.1.1),hin t ht⟩),if_pos (by rw [List.all_eq_true];exact hw)]
  rfl
 refine ⟨h4,?_⟩
 unfold ivOf intervalL intervalH
 rw [hE,if_pos rfl,if_pos rfl,numW_sum ts base (fun t ht=>end_in (hin t ht) (h4 t ht) true) (by omega) (by omega),numW_sum ts base (fun t ht=>end_in (hin t ht) (h4 t ht) false) (by omega) (by omega)]
theorem iv_wide {base:Int} {ts:List TermD} {rp:List (ByteArray×Int×Int)} (hs:sizeB base ts=true) (hin:∀ t∈ts,(lastR rp t.field).isSome=true) {t:TermD} (ht:t∈ts) (hw:wideB (rngT rp t).1 (rngT rp t).2=false):ivOf base ts rp = .tuple #[.int .i64 0,.int .i64 0,.int .i64 2]:=by
 obtain ⟨h1,h2,h3⟩:=terms_names hs
 refine iv_bad ?_
 unfold intervalE
 rw [if_pos hs,checked_all ts false (fun t ht=>⟨name_ne (by have:=h3 t ht;unfold termB at this;simp only [Bool.and_eq_true] at this;exact this.1.1),hin t ht⟩),if_neg (by rw [List.all_eq_true];intro h;rw [h t ht] at hw;cases hw)]
def n99 (t0:Value) (R:RT) (w:World):Prop :=
 opV Pg (Instr.box 105 t0) (panK R) w fun t1 w =>
 opV Pg (Instr.alloc 67 true (.tuple #[])) (panK R) w fun t2 w =>
 F0 105 t1 1 R w fun t3 w =>
 L0 103 t3 R w fun t4 w =>
 F0 105 t1 0 R w fun t5 w =>
 F0 44 t5 0 R w fun t6 w =>
 L0 9 t6 R w fun t7 w =>
 opV Pg (Instr.lookup 103 t4 t7 false) (panK R) w fun t8 w =>
 opU Pg (Instr.storeAt 67 t2 t8) (panK R) w fun w =>
 qW Pg 67 t2 w fun r0 =>
 R (.returned r0) w
theorem n99s {t0:Value} {R:RT} {w:World} (h:n99 t0 R w):Calls Pg 77 #[t0] w R:=by
 refine yD Tryz.func77 ?_
 refine zs<|zr<|yv h fun _ w h=>yv h fun _ w h=>zn<|zk<|zs<|zr<|yv h fun _ w h=>yv h fun _ w h=>yv h fun _ w h=>yv h fun _ w h=>yv h fun _ w h=>yv h fun _ w h=>yu h fun w h=>?_
 exact zn<|zk<|sim_ret<|body_retC rfl rfl h
theorem op_boxA {P:Program} {QP:List PanicEntry→World→Prop} {w:World} {k:Value→World→Prop} (T:TypeId) (cs:Array Value):opV P (Instr.box T (.agg cs)) QP w k=k (.pointer (some ⟨w.heap.size,0,none⟩)) (w.alloc (.cells cs T)):=op_box T (.agg cs)
def Dist (l:List FieldD):Prop:=l.Pairwise fun a b=>a.name≠b.name
theorem Dist.eq {l:List FieldD} (h:Dist l) {a b:FieldD} (ha:a∈l) (hb:b∈l) (hn:a.name=b.name):a=b:=by
 induction l with
 | nil=>cases ha
 | cons x l ih =>
  obtain ⟨h1,h2⟩:=List.pairwise_cons.1 h
  rcases List.mem_cons.1 ha with ha' | ha'<;>rcases List.mem_cons.1 hb with hb' | hb'
  · rw [ha',hb']
  · subst ha';exact absurd hn (h1 _ hb')
  · subst hb';exact absurd hn.symm (h1 _ ha')
  · exact ih h2 ha' hb'
theorem lastR_none {rp:List (ByteArray×Int×Int)} {s:ByteArray}:lastR rp s=none↔∀ q,(s,q) ∉ rp:=by
 constructor
 · intro h q hq
   unfold lastR at h
   rw [Option.map_eq_none_iff,List.find?_eq_none] at h
   exact h (s,q) (List.mem_reverse.2 hq) (by simp)
 · intro h
   cases hl:lastR rp s with
   | none=>rfl
   | some q=>exact absurd (lastP_mem hl) (h q)
theorem mem_numR {l:List FieldD} {s:ByteArray} {q:Int×Int}:(s,q)∈numR l↔∃ f∈l,numberB f=true∧f.name=s∧q=(f.low,highOf f):=by
 unfold numR
 simp only [List.mem_map,List.mem_filter,Prod.mk.injEq]
 constructor
 · rintro ⟨f,⟨h1,h2⟩,h3,h4⟩;exact ⟨f,h1,h2,h3,by rw [← h4]⟩
 · rintro ⟨f,h1,h2,h3,h4⟩;exact ⟨f,⟨h1,h2⟩,h3,by rw [h4]⟩
theorem checked_congr {ps ps':List (ByteArray×Value)} {but:ByteArray} {p:Value→Bool}:∀ (ts:List TermD) (no:Bool),(∀ t∈ts,lastOf ps t.field=lastOf ps' t.field)→checkedF but ps p ts no=checkedF but ps' p ts no
 | [],no,_=>rfl
 | t::ts,no,h=>by
  have ih:=fun no=>checked_congr (but:=but) (p:=p) ts no fun t ht=>h t (List.mem_cons_of_mem _ ht)
  simp only [checkedF,h t (List.mem_cons_self ..),ih]
theorem numW_congr {f g:TermD→Int}:∀ (ts:List TermD) (n:Int),(∀ t∈ts,f t=g t)→numW n f ts=numW n g ts
 | [],n,_=>rfl
 | t::ts,n,h=>by
  have ih:=fun n=>numW_congr ts n fun t ht=>h t (List.mem_cons_of_mem _ ht)
  unfold numW at *
  simp only [List.foldl_cons,h t (List.mem_cons_self ..),ih]
theorem iv_congr {base:Int} {ts:List TermD} {rp rp':List (ByteArray×Int×Int)} (h:∀ t∈ts,lastR rp t.field=lastR rp' t.field):intervalE base ts rp=intervalE base ts rp'∧intervalL base ts rp=intervalL base ts rp'∧intervalH base ts rp=intervalH base ts rp':=by
 have he:intervalE base ts rp=intervalE base ts rp':=by
  unfold intervalE
  rw [checked_congr (ps':=RP rp') ts false fun t ht=>by rw [lastOf_RP,lastOf_RP,h t ht]]
 have hl:∀ least,numW base (endF rp least) ts=numW base (endF rp' least) ts:=fun least=>numW_congr ts base fun t ht=>by unfold endF;rw [h t ht]
 unfold intervalL intervalH
 rw [he,hl,hl]
 exact ⟨rfl,rfl,rfl⟩
theorem namesC_bad {rp:List (ByteArray×Int×Int)}:∀ {ts:List TermD} {t:TermD},t∈ts→lastR rp t.field=none→namesC rp ts=8
 | u::ts,t,ht,h=>by
  simp only [namesC]
  cases hu:(lastR rp u.field).isSome with
  | false=>rfl
  | true =>
   rcases List.mem_cons.1 ht with rfl | ht
   · rw [h] at hu;cases hu
   · rw [namesC_bad ht h];rfl
end Go.Proofs.YtdfhjlggcdemhaaGreat
namespace Go.Sw
open Go.RowKit (Below)
theorem OwnE.grown {α:Type} {w w':World} {lo n:Nat} {T:TypeId} {enc:α→List Value} {v:Value} {l:List α} {row:Option Nat} (h:OwnE w lo T n enc v l) (hg:w.grownBy w' row) (hne:∀ b,v.ownBlock=some b→row≠some b):OwnE w' lo T n enc v l:=by
 obtain ⟨h1,h2⟩:=h
 refine ⟨h1,?_⟩
 rcases h2 with h2 | ⟨g,cap,cur,hv,hb,hc,h3⟩
 · exact .inl h2
 · refine .inr ⟨g,cap,cur,hv,hb,?_,h3⟩
   rw [hg.block g (Array.getElem?_eq_some_iff.1 hc).1 (fun e=>hne g (by rw [hv];rfl) e.symm)]
   exact hc
end Go.Sw
namespace Go.Proofs.YtdfhjlggcdemhaaGreat
open Sw
def n121c1 (t1 t4 t23:Value) (R:RT) (w:World):Prop :=
 X0 165 t23 t1 R w fun t25 w =>
 L0 105 t25 R w fun t26 w =>
 opU Pg (Instr.storeAt 105 t4 t26) (panK R) w fun w =>
 qW Pg 105 t4 w fun r0 =>
 R (.returned (.tuple #[r0,(.int .i64 0)])) w
def n121c2 (t4:Value) (R:RT) (w:World):Prop :=
 opV Pg (Instr.build 105 #[]) (panK R) w fun t21 w =>
 opU Pg (Instr.storeAt 105 t4 t21) (panK R) w fun w =>
 qW Pg 105 t4 w fun r0 =>
 R (.returned (.tuple #[r0,(.int .i64 3)])) w
def n121c3 (t1 t2 t4 t13 t19:Value) (R:RT) (w:World):Prop :=
 pickK t13 (.bool true) t19 fun t20 =>
 condP t20 (
 n121c2 t4 R w) (
 L0 24 t2 R w fun t22 w =>
 C0 130 #[t22] R w fun t23 w =>
 n121c1 t1 t4 t23 R w)
def n121c4 (t4:Value) (R:RT) (w:World):Prop :=
 opV Pg (Instr.build 105 #[]) (panK R) w fun t10 w =>
 opU Pg (Instr.storeAt 105 t4 t10) (panK R) w fun w =>
 qW Pg 105 t4 w fun r0 =>
 R (.returned (.tuple #[r0,(.int .i64 2)])) w
def n121c5 (t1 t2 t4:Value) (R:RT) (w:World):Prop :=
 B0 .lss 3 true t1 (.int .i64 0) R w fun t13 w =>
 joinK (fun (t19:Value) (w:World) =>
 n121c3 t1 t2 t4 t13 t19 R w) fun K1 =>
 guardP t13 false (
 F0 24 t2 1 R w fun t16 w =>
 L0 22 t16 R w fun t17 w =>
 opV Pg (Builtin.len_ #[22] 3 #[t17]) (panK R) w fun t18 w =>
 B0 .geq 3 false t1 t18 R w fun t19 w =>
 K1 t19 w) (
 K1 undef w)
def n121 (t0 t1:Value) (R:RT) (w:World):Prop :=
 opV Pg (Instr.box 24 t0) (panK R) w fun t2 w =>
 opV Pg (Instr.alloc 105 true (.tuple #[])) (panK R) w fun t4 w =>
 L0 24 t2 R w fun t7 w =>
 C0 43 #[t7] R w fun t8 w =>
 opV Pg (Op.unary .not t8) (panK R) w fun t9 w =>
 condP t9 (
 n121c4 t4 R w) (
 n121c5 t1 t2 t4 R w)
theorem n121s {t0 t1:Value} {R:RT} {w:World} (h:n121 t0 t1 R w):Calls Pg 100 #[t0,t1] w R:=by
 refine yD Tryz.func100 ?_
 refine zs<|zr<|yv h fun _ w h=>yv h fun _ w h=>zm<|zn<|zk<|zs<|sim_block<|zs<|zr<|yv h fun _ w h=>yc h c43 fun _ w h=>yv h fun _ w h=>zm ?_
 refine zn<|zk<|yC h (fun h=>zs<|zr<|yB h fun _ w h=>yu h fun w h=>zm<|zn<|zk<|sim_ret<|sim_block_ret<|sim_then_ret<|body_retCT rfl rfl rfl h) fun h=>zs<|sim_regionG<|yG 3<|zm<|yb h fun _ w h=>zm<|zn<|yg1 5 2 false [15,16,17,18,19] 19 h (fun _ T hT h=>?_) fun σ w h=>?_
 · refine zm<|yv h fun _ w h=>yv h fun _ w h=>yx h fun _ w h=>yb h fun _ w h=>zn ?_
   exact zt hT h
 refine yG 2<|yp h fun _ h=>zm<|zn<|sim_end<|zk<|yC h (fun h=>zs<|zr<|yB h fun _ w h=>yu h fun w h=>zm<|zn<|zk<|sim_ret<|sim_block_ret<|sim_then_ret<|body_retCT rfl rfl rfl h) fun h=>sim_skip<|sim_block_normal<|zk<|zs<|zr<|yv h fun _ w h=>yc h c130 fun _ w h=>?_
 exact zm<|yv h fun _ w h=>yv h fun _ w h=>yu h fun w h=>zm<|zn<|zk<|sim_ret<|body_retCT rfl rfl rfl h
def n113 (t0:Value) (R:RT) (w:World):Prop :=
 opV Pg (Instr.box 38 t0) (panK R) w fun t1 w =>
 opV Pg (Instr.alloc 67 true (.tuple #[])) (panK R) w fun t2 w =>
 F0 38 t1 2 R w fun t3 w =>
 L0 3 t3 R w fun t4 w =>
 C0 79 #[t4] R w fun t5 w =>
 opU Pg (Instr.storeAt 67 t2 t5) (panK R) w fun w =>
 qW Pg 67 t2 w fun r0 =>
 R (.returned r0) w
theorem n113s {t0:Value} {R:RT} {w:World} (h:n113 t0 R w):Calls Pg 101 #[t0] w R:=by
 refine yD Tryz.func101 ?_
 refine zs<|zr<|yv h fun _ w h=>yv h fun _ w h=>zn<|zk<|zs<|zr<|yv h fun _ w h=>yv h fun _ w h=>yc h c79 fun _ w h=>yu h fun w h=>zn<|zk<|sim_ret ?_
 exact body_retC rfl rfl h
def n110c1 (t3 t4 t5:Value) (R:RT) (w:World):Prop :=
 F0 38 t3 4 R w fun t13 w =>
 L0 4 t13 R w fun t14 w =>
 joinK (fun (w:World) =>
 L0 67 t5 R w fun t16 w =>
 opU Pg (Instr.storeAt 67 t4 t16) (panK R) w fun w =>
 qW Pg 67 t4 w fun r0 =>
 R (.returned r0) w) fun K3 =>
 condP t14 (
 F0 67 t5 1 R w fun t15 w =>
 opU Pg (Instr.storeAt 3 t15 (.int .i64 40)) (panK R) w fun w =>
 K3 w) (
 K3 w)
def n110c2 (t10 t11:Value) (C1:World→Prop) (K2:KV) (R:RT) (w:World):Prop :=
 (
 callK Pg 78 #[t10,t11,(.func (.func 131) #[] #[])] (panK R) w fun t12 w =>
 C1 w∧(
 opV Pg (Instr.alloc 67 true (.tuple #[])) (panK R) w fun t5 w =>
 C1 w∧(
 opU Pg (Instr.storeAt 67 t5 t12) (panK R) w fun w =>
 turnK w fun C4 w =>
 K2 t5 w)))∧(
 opV Pg (Instr.alloc 67 true (.tuple #[])) (panK R) w fun t5 w =>
 C1 w∧(
 callK Pg 78 #[t10,t11,(.func (.func 131) #[] #[])] (panK R) w fun t12 w =>
 C1 w∧(
 opU Pg (Instr.storeAt 67 t5 t12) (panK R) w fun w =>
 turnK w fun C5 w =>
 K2 t5 w)))
def n110c3 (t5 t10 t11:Value) (C1:World→Prop) (K2:KV) (R:RT) (w:World):Prop :=
 C1 w∧(
 callK Pg 78 #[t10,t11,(.func (.func 131) #[] #[])] (panK R) w fun t12 w =>
 C1 w∧(
 opU Pg (Instr.storeAt 67 t5 t12) (panK R) w fun w =>
 turnK w fun C6 w =>
 K2 t5 w))
def n110c4 (t3 t4:Value) (C1:World→Prop) (R:RT) (w:World):Prop :=
 qV Pg C1 (Instr.fieldAt 38 t3 5) fun t6 =>
 qV Pg C1 (Instr.loadAt 3 t6) fun t7 =>
 qV Pg C1 (Instr.fieldAt 38 t3 6) fun t8 =>
 qV Pg C1 (Instr.loadAt 3 t8) fun t9 =>
 qV Pg C1 (Instr.build 67 #[(0,t7),(1,t9)]) fun t10 =>
 joinK (fun (t5:Value) (w:World) =>
 n110c1 t3 t4 t5 R w) fun K2 =>
 (
 C0 79 #[(.int .i64 8)] R w fun t11 w =>
 C1 w∧(
 n110c2 t10 t11 C1 K2 R w))∧(
 opV Pg (Instr.alloc 67 true (.tuple #[])) (panK R) w fun t5 w =>
 C1 w∧(
 C0 79 #[(.int .i64 8)] R w fun t11 w =>
 n110c3 t5 t10 t11 C1 K2 R w))
def n110 (t0 t1:Value) (R:RT) (w:World):Prop :=
 opV Pg (Instr.box 105 t0) (panK R) w fun t2 w =>
 opV Pg (Instr.box 38 t1) (panK R) w fun t3 w =>
 opV Pg (Instr.alloc 67 true (.tuple #[])) (panK R) w fun t4 w =>
 drawK w fun C1 w =>
 n110c4 t3 t4 C1 R w
theorem n110s {t0 t1:Value} {R:RT} {w:World} (h:n110 t0 t1 R w):Calls Pg 102 #[t0,t1] w R:=by
 refine yD Tryz.func102 ?_
 refine zs<|zr<|yv h fun _ w h=>yv h fun _ w h=>yv h fun _ w h=>zn<|zk<|zs<|yh [5,6,7,8,9,10,11,12] h fun C hC h=>ye 0 hC h fun _ h=>?_
 refine ye 1 hC h fun _ h=>?_
 refine ye 2 hC h fun _ h=>?_
 refine ye 3 hC h fun _ h=>?_
 refine ye 4 hC h fun _ h=>?_
 refine joinK_elim h (fun K2 hK h=>?_)
 refine sim_dmeet [5,11,12] (fun ρ w=>K2 (ρ 5) w) (fun T hT=>?_) (fun σ w h=>?_)
 · obtain ⟨h0,h1⟩:=h
   refine sim_dloud2 5 7 rfl rfl (by kernel_rfl) (fun _ _=>rfl) (fun _ _=>rfl) ?_ ?_
   · have h:=h0
     refine yc h c79 fun _ w h=>zn ?_
     obtain ⟨hC,h⟩:=h
     refine ⟨_,fun _ h=>h,hC,?_⟩
     obtain ⟨h0,h1⟩:=h
     refine sim_dloud2 6 7 rfl rfl (by kernel_rfl) (fun _ _=>rfl) (fun _ _=>rfl) ?_ ?_
     · have h:=h0
       refine yc h c78 fun _ w h=>zn ?_
       obtain ⟨hC,h⟩:=h
       refine ⟨_,fun _ h=>h,hC,?_⟩
       refine yo 7 ?_
       refine yv h fun _ w h=>zn ?_
       obtain ⟨hC,h⟩:=h
       refine ⟨hC,?_⟩
       refine yq 8 1 ?_
       refine yu h fun w h=>zn ?_
       obtain ⟨C4,hC,h⟩:=h
       refine ⟨C4,hC,?_⟩
       refine yz ?_
       exact zt hT h
     have h:=h1
     refine yv h fun _ w h=>zn ?_
     obtain ⟨hC,h⟩:=h
     refine ⟨_,fun _ h=>h,hC,?_⟩
     refine yo 6 ?_
     refine yc h c78 fun _ w h=>zn ?_
     obtain ⟨hC,h⟩:=h
     refine ⟨hC,?_⟩
     refine yq 8 1 ?_
     refine yu h fun w h=>zn ?_
     obtain ⟨C5,hC,h⟩:=h
     refine ⟨C5,hC,?_⟩
     refine yz ?_
     exact zt hT h
   have h:=h1
   refine yv h fun _ w h=>zn ?_
   obtain ⟨hC,h⟩:=h
   refine ⟨_,fun _ h=>h,hC,?_⟩
   refine yo 5 ?_
   refine yc h c79 fun _ w h=>zn ?_
   obtain ⟨hC,h⟩:=h
   refine ⟨hC,?_⟩
   refine yo 6 ?_
   refine yc h c78 fun _ w h=>zn ?_
   obtain ⟨hC,h⟩:=h
   refine ⟨hC,?_⟩
   refine yq 8 1 ?_
   refine yu h fun w h=>zn ?_
   obtain ⟨C6,hC,h⟩:=h
   refine ⟨C6,hC,?_⟩
   refine yz ?_
   exact zt hT h
 subst hK
 refine zk<|zs<|zs<|zr<|yv h fun _ w h=>yv h fun _ w h=>zn<|zk<|yJ0 [15] h (fun _ _ hkK3 h=>?_) fun σ w h=>?_
 · refine yC h (fun h=>?_) fun h=>?_
   · refine zr<|yv h fun _ w h=>yu h fun w h=>zn<|zk ?_
     exact zt hkK3 h
   refine sim_skip<|zk ?_
   exact zt hkK3 h
 exact zk<|zs<|zr<|yv h fun _ w h=>yu h fun w h=>zn<|zk<|sim_ret<|body_retC rfl rfl h
def n106c1 (t4 t7 t8:Value) (R:RT) (w:World):Prop :=
 callK Pg 78 #[t7,t8,(.func (.func 134) #[] #[])] (panK R) w fun t9 w =>
 opU Pg (Instr.storeAt 67 t4 t9) (panK R) w fun w =>
 qW Pg 67 t4 w fun r0 =>
 R (.returned r0) w
def n106 (t0 t1:Value) (R:RT) (w:World):Prop :=
 opV Pg (Instr.box 105 t0) (panK R) w fun t2 w =>
 opV Pg (Instr.box 38 t1) (panK R) w fun t3 w =>
 opV Pg (Instr.alloc 67 true (.tuple #[])) (panK R) w fun t4 w =>
 L0 105 t2 R w fun t5 w =>
 L0 38 t3 R w fun t6 w =>
 C0 133 #[t5,t6] R w fun t7 w =>
 C0 79 #[(.int .i64 8)] R w fun t8 w =>
 n106c1 t4 t7 t8 R w
theorem n106s {t0 t1:Value} {R:RT} {w:World} (h:n106 t0 t1 R w):Calls Pg 103 #[t0,t1] w R:=by
 refine yD Tryz.func103 ?_
 refine zs<|zr<|yv h fun _ w h=>yv h fun _ w h=>yv h fun _ w h=>zn<|zk<|zs<|zr<|yv h fun _ w h=>yv h fun _ w h=>yc h c133 fun _ w h=>yc h c79 fun _ w h=>yc h c78 fun _ w h=>yu h fun w h=>?_
 exact zn<|zk<|sim_ret<|body_retC rfl rfl h
def n114 (t0:Value) (R:RT) (w:World):Prop :=
 opV Pg (Instr.box 38 t0) (panK R) w fun t1 w =>
 opV Pg (Instr.alloc 67 true (.tuple #[])) (panK R) w fun t2 w =>
 F0 38 t1 6 R w fun t3 w =>
 L0 3 t3 R w fun t4 w =>
 B0 .add 3 true t4 (.int .i64 1) R w fun t5 w =>
 B0 .mul 3 true (.int .i64 8) t5 R w fun t6 w =>
 opV Pg (Instr.build 67 #[(0,(.int .i64 8)),(1,t6)]) (panK R) w fun t7 w =>
 opU Pg (Instr.storeAt 67 t2 t7) (panK R) w fun w =>
 qW Pg 67 t2 w fun r0 =>
 R (.returned r0) w
theorem n114s {t0:Value} {R:RT} {w:World} (h:n114 t0 R w):Calls Pg 104 #[t0] w R:=by
 refine yD Tryz.func104 ?_
 refine zs<|zr<|yv h fun _ w h=>yv h fun _ w h=>zn<|zk<|zs<|zr<|yv h fun _ w h=>yv h fun _ w h=>yb h fun _ w h=>yb h fun _ w h=>yB h fun _ w h=>yu h fun w h=>zn ?_
 exact zk<|sim_ret<|body_retC rfl rfl h
def n115 (t0:Value) (R:RT) (w:World):Prop :=
 opV Pg (Instr.box 38 t0) (panK R) w fun t1 w =>
 opV Pg (Instr.alloc 67 true (.tuple #[])) (panK R) w fun t2 w =>
 F0 38 t1 6 R w fun t3 w =>
 L0 3 t3 R w fun t4 w =>
 B0 .mul 3 true (.int .i64 8) t4 R w fun t5 w =>
 opV Pg (Instr.build 67 #[(0,(.int .i64 16)),(1,t5)]) (panK R) w fun t6 w =>
 opU Pg (Instr.storeAt 67 t2 t6) (panK R) w fun w =>
 qW Pg 67 t2 w fun r0 =>
 R (.returned r0) w
theorem n115s {t0:Value} {R:RT} {w:World} (h:n115 t0 R w):Calls Pg 105 #[t0] w R:=by
 refine yD Tryz.func105 ?_
 refine zs<|zr<|yv h fun _ w h=>yv h fun _ w h=>zn<|zk<|zs<|zr<|yv h fun _ w h=>yv h fun _ w h=>yb h fun _ w h=>yB h fun _ w h=>yu h fun w h=>zn<|zk ?_
 exact sim_ret<|body_retC rfl rfl h
def n109c1 (t4 t7 t12:Value) (C1:World→Prop) (R:RT) (w:World):Prop :=
 callK Pg 78 #[t7,t12,(.func (.func 134) #[] #[])] (panK R) w fun t13 w =>
 C1 w∧(
 opU Pg (Instr.storeAt 67 t4 t13) (panK R) w fun w =>
 turnK w fun C2 w =>
 qW Pg 67 t4 w fun r0 =>
 R (.returned r0) w)
def n109c2 (t2 t3 t4:Value) (C1:World→Prop) (R:RT) (w:World):Prop :=
 qV Pg C1 (Instr.loadAt 105 t2) fun t5 =>
 qV Pg C1 (Instr.loadAt 38 t3) fun t6 =>
 qV Pg C1 (Instr.fieldAt 105 t2 1) fun t8 =>
 qV Pg C1 (Instr.loadAt 103 t8) fun t9 =>
 qV Pg C1 (Instr.fieldAt 38 t3 8) fun t10 =>
 qV Pg C1 (Instr.loadAt 9 t10) fun t11 =>
 qV Pg C1 (Instr.lookup 103 t9 t11 false) fun t12 =>
 C0 133 #[t5,t6] R w fun t7 w =>
 C1 w∧(
 n109c1 t4 t7 t12 C1 R w)
def n109 (t0 t1:Value) (R:RT) (w:World):Prop :=
 opV Pg (Instr.box 105 t0) (panK R) w fun t2 w =>
 opV Pg (Instr.box 38 t1) (panK R) w fun t3 w =>
 opV Pg (Instr.alloc 67 true (.tuple #[])) (panK R) w fun t4 w =>
 drawK w fun C1 w =>
 n109c2 t2 t3 t4 C1 R w
theorem n109s {t0 t1:Value} {R:RT} {w:World} (h:n109 t0 t1 R w):Calls Pg 106 #[t0,t1] w R:=by
 refine yD Tryz.func106 ?_
 refine zs<|zr<|yv h fun _ w h=>yv h fun _ w h=>yv h fun _ w h=>zn<|zk<|zs<|yh [5,6,7,8,9,10,11,12,13] h fun C hC h=>ye 0 hC h fun _ h=>?_
 refine ye 1 hC h fun _ h=>?_
 refine ye 3 hC h fun _ h=>?_
 refine ye 4 hC h fun _ h=>?_
 refine ye 5 hC h fun _ h=>?_
 refine ye 6 hC h fun _ h=>?_
 refine ye 7 hC h fun _ h=>?_
 refine yo 2 ?_
 refine yc h c133 fun _ w h=>zn ?_
 obtain ⟨hC,h⟩:=h
 refine ⟨hC,?_⟩
 refine yo 8 ?_
 refine yc h c78 fun _ w h=>zn ?_
 obtain ⟨hC,h⟩:=h
 refine ⟨hC,?_⟩
 refine yq 9 1 ?_
 refine yu h fun w h=>zn ?_
 obtain ⟨C2,hC,h⟩:=h
 refine ⟨C2,hC,?_⟩
 exact yz<|zk<|sim_ret<|body_retC rfl rfl h
def n116 (t0 t1:Value) (R:RT) (w:World):Prop :=
 opV Pg (Instr.box 38 t0) (panK R) w fun t2 w =>
 opV Pg (Instr.alloc 67 true (.tuple #[])) (panK R) w fun t3 w =>
 F0 105 t1 1 R w fun t4 w =>
 L0 103 t4 R w fun t5 w =>
 F0 38 t2 8 R w fun t6 w =>
 L0 9 t6 R w fun t7 w =>
 opV Pg (Instr.lookup 103 t5 t7 false) (panK R) w fun t8 w =>
 opU Pg (Instr.storeAt 67 t3 t8) (panK R) w fun w =>
 qW Pg 67 t3 w fun r0 =>
 R (.returned r0) w
theorem n116s {t0 t1:Value} {R:RT} {w:World} (h:n116 t0 t1 R w):Calls Pg 107 #[t0,t1] w R:=by
 refine yD Tryz.func107 ?_
 refine zs<|zr<|yv h fun _ w h=>yv h fun _ w h=>zn<|zk<|zs<|zr<|yv h fun _ w h=>yv h fun _ w h=>yv h fun _ w h=>yv h fun _ w h=>yv h fun _ w h=>yu h fun w h=>zn ?_
 exact zk<|sim_ret<|body_retC rfl rfl h
open Go.RowKit (intOf Below)
abbrev OwnS (w:World) (base:Nat) (v:Value) (l:List ByteArray):Prop:=OwnE w base 9 1 strEnc v l
def Apart (v u:Value):Prop:=∀ b,v.ownBlock=some b→u.ownBlock≠some b
theorem OwnS.lt {w:World} {base:Nat} {v:Value} {l:List ByteArray} (h:OwnS w base v l):∀ b,v.ownBlock=some b→b < w.heap.size:=fun b hb=>(World.ownsRow.lt h b hb).2
theorem Apart.after {v u v':Value} {n:Nat} (h:Apart v u) (hu:∀ b,u.ownBlock=some b→b < n) (hv:∀ b,v'.ownBlock=some b→v.ownBlock=some b∨b=n):Apart v' u:=fun b hb e=>by
 rcases hv b hb with h1 | h1
 · exact h b h1 e
 · have:=hu b e;omega
def DistM (l:List MsgD):Prop:=l.Pairwise fun a b=>a.name≠b.name
theorem first_last {β:Type} {ps:List (ByteArray×β)} {l:List MsgD} (hp:ps.map (·.1)=l.map (·.name)) (hd:DistM l) (s:ByteArray):(idx (fun m:MsgD=>decide (m.name=s)) l = -1∧lastP ps s=none)∨∃ (k:Nat) (b:β),idx (fun m:MsgD=>decide (m.name=s)) l=k∧k < l.length∧ps[k]?=some (s,b)∧lastP ps s=some b:=by
 have hlen:ps.length=l.length:=by simpa using congrArg List.length hp
 have hk:∀ (k:Nat) (m:MsgD),l[k]?=some m→∃ b,ps[k]?=some (m.name,b):=by
  intro k m hm
  obtain ⟨q,hq⟩:=getElem?_lt (l:=ps) (k:=k) (by rw [hlen];exact (List.getElem?_eq_some_iff.1 hm).1)
  have:=congrArg (fun x=>x[k]?) hp
  simp only [List.getElem?_map,hm,hq,Option.map_some] at this
  injection this with this
  exact ⟨q.2,by rw [hq,← this]⟩
 have hin:∀ q∈ps,∃ (k:Nat) (m:MsgD),l[k]?=some m∧ps[k]?=some q∧m.name=q.1:=by
  intro q hq
  obtain ⟨k,hkq⟩:=List.getElem?_of_mem hq
  obtain ⟨m,hm⟩:=getElem?_lt (l:=l) (k:=k) (by rw [← hlen];exact (List.getElem?_eq_some_iff.1 hkq).1)
  obtain ⟨b,hb⟩:=hk k m hm
  rw [hkq] at hb
  injection hb with hb
  exact ⟨k,m,hm,hkq,by rw [hb]⟩
 have hone:∀ (k j:Nat) (a b:MsgD),l[k]?=some a→l[j]?=some b→a.name=b.name→k=j:=by
  intro k j a b ha hb hn
  obtain ⟨h1,ha'⟩:=List.getElem?_eq_some_iff.1 ha
  obtain ⟨h2,hb'⟩:=List.getElem?_eq_some_iff.1 hb
  have hpw:=List.pairwise_iff_getElem.1 hd
  rcases Nat.lt_trichotomy k j with h | h | h
  · have:=hpw k j h1 h2 h;rw [ha',hb'] at this;exact absurd hn this
  · exact h
  · have:=hpw j k h2 h1 h;rw [ha',hb'] at this;exact absurd hn.symm this
 unfold idx
 cases h:l.findIdx? (fun m=>decide (m.name=s)) with
 | none =>
  rw [List.findIdx?_eq_none_iff] at h
  refine .inl ⟨rfl,?_⟩
  cases hl:lastP ps s with
  | none=>rfl
  | some b =>
   obtain ⟨k,m,h1,_,h3⟩:=hin _ (lastP_mem hl)
   simpa [h3] using h m (List.mem_of_getElem? h1)
 | some k =>
  obtain ⟨hkl,hpk,_⟩:=List.findIdx?_eq_some_iff_getElem.1 h
  simp only [decide_eq_true_eq] at hpk
  obtain ⟨b,hb⟩:=hk k _ (List.getElem?_eq_getElem hkl)
  rw [hpk] at hb
  refine .inr ⟨k,b,rfl,hkl,hb,?_⟩
  cases hl:lastP ps s with
  | none =>
   have hmem:=List.mem_of_getElem? hb
   unfold lastP at hl
   rw [Option.map_eq_none_iff,List.find?_eq_none] at hl
   exact absurd (hl (s,b) (List.mem_reverse.2 hmem)) (by simp)
  | some b' =>
   obtain ⟨j,m,h1,h2,h3⟩:=hin _ (lastP_mem hl)
   have:=hone k j _ m (List.getElem?_eq_getElem hkl) h1 (hpk.trans h3.symm)
   subst this
   rw [hb] at h2
   injection h2 with h2
   injection h2 with _ h2
   rw [h2]
theorem Fine.dist {l:List MsgD} (h:Fine l):DistM l:=by
 refine List.pairwise_iff_getElem.2 fun i j hi hj hij hn=>?_
 have h6:=(next_parts (h.next (List.getElem?_eq_getElem hj))).2.1
 rw [← Option.not_isSome_iff_eq_none,isD] at h6
 exact h6 ⟨l[i],List.mem_of_getElem? (i:=i) (by rw [List.getElem?_take,if_pos hij];exact List.getElem?_eq_getElem hi),hn⟩
def FineF (deps:List (ByteArray×Int)) (strs:List (ByteArray×Bool)) (l:List FieldD):Prop:=∀ (j:Nat) (f:FieldD),l[j]?=some f→examineC (l.take j) (vI deps) (vB strs) f=0
section
variable {deps:List (ByteArray×Int)} {strs:List (ByteArray×Bool)} {l:List FieldD}
theorem exam_parts {bef:List FieldD} {D S:List (ByteArray×Value)} {f:FieldD} (h:examineC bef D S f=0):(bef.any fun o=>decide (o.name=f.name))=false∧checkC bef D S f=0:=by
 unfold examineC at h
 obtain ⟨_,h⟩:=orC_iff.1 h
 obtain ⟨h2,h⟩:=orC_iff.1 h
 obtain ⟨_,h⟩:=orC_iff.1 h
 obtain ⟨_,h⟩:=orC_iff.1 h
 exact ⟨by simpa using (needC_iff (by decide)).1 h2,h⟩
theorem FineF.dist (h:FineF deps strs l):Dist l:=by
 refine List.pairwise_iff_getElem.2 fun i j hi hj hij hn=>?_
 have h6:=(exam_parts (h j _ (List.getElem?_eq_getElem hj))).1
 rw [List.any_eq_false] at h6
 exact h6 l[i] (List.mem_of_getElem? (i:=i) (by rw [List.getElem?_take,if_pos hij];exact List.getElem?_eq_getElem hi)) (by simpa using hn)
theorem FineF.step {k:Nat} {f:FieldD} (h:FineF deps strs (l.take k)) (hk:l[k]?=some f) (hf:examineC (l.take k) (vI deps) (vB strs) f=0):FineF deps strs (l.take (k+1)):=by
 intro j g hg
 rw [List.getElem?_take] at hg
 split at hg
 · rename_i hj
   rw [List.take_take,Nat.min_eq_left (by omega)]
   by_cases hjk:j=k
   · subst hjk;rw [hk] at hg;injection hg with hg;subst hg;exact hf
   · have:=h j g (by rw [List.getElem?_take,if_pos (by omega)];exact hg)
     rwa [List.take_take,Nat.min_eq_left (by omega)] at this
 · cases hg
end
def DRow (w:World) (b:Nat) (L:List Int):Prop:=w.heap[b]?=some (.cells (L.map fun n=>Value.int .i64 n).toArray 3 (0,0))
theorem DRow.ext {w w':World} {b:Nat} {L:List Int} (h:DRow w b L) (e:Ext w w'):DRow w' b L:=e.obj h
theorem DRow.cell {w:World} {b:Nat} {L:List Int} (h:DRow w b L) {k:Nat} {n:Int} (hk:L[k]?=some n):w.cell? ⟨b,k*1,none⟩=some (.int .i64 n):=by
 rw [(cells_of_heap h).1];simp [hk]
theorem DRow.set {w:World} {b:Nat} {L:List Int} (h:DRow w b L) (k:Nat) (n:Int):DRow (w.setCell ⟨b,k*1,none⟩ (.int .i64 n)) b (L.set k n):=by
 rw [Nat.mul_one]
 have:=heap_set (o:=k) h (.int .i64 n)
 unfold DRow
 rw [this]
 congr 2
 rw [List.setIfInBounds_toArray,List.map_set]
theorem Fine.step {l:List MsgD} {k:Nat} {m:MsgD} (h:Fine (l.take k)) (hm:l[k]?=some m) (h0:(nextP (depsOf (l.take k)) (strsOf (l.take k)) m).2=0):Fine (l.take (k+1)):=by
 rw [take_snoc hm]
 unfold Fine
 rw [(msgs_append [m] (l.take k) [] [] 0).1 h]
 show (msgsP (depsOf (l.take k)) (strsOf (l.take k)) _ [m]).2.2=0
 rw [msgs_cons0 h0]
 rfl
theorem field_split {deps:List (ByteArray×Int)} {strs:List (ByteArray×Bool)}:∀ (l:List FieldD) (bef:List FieldD) (k:Nat),(∀ (j:Nat) (f:FieldD),j < k→l[j]?=some f→examineC (bef++l.take j) (vI deps) (vB strs) f=0)→fieldsP deps strs (bef++l.take k) (l.drop k)=fieldsP deps strs bef l
 | [],bef,k,_=>by simp
 | f::l,bef,0,_=>by simp
 | f::l,bef,k+1,h=>by
  have h0:=h 0 f (by omega) rfl
  rw [List.take_zero,List.append_nil] at h0
  have ih:=field_split l (bef++[f]) k fun j g hj hg=>by
   have:=h (j+1) g (by omega) (by simpa using hg)
   rw [List.take_succ_cons] at this
   rw [List.append_assoc];exact this
  rw [List.take_succ_cons,List.drop_succ_cons,fieldsP,if_pos h0,← ih,List.append_assoc]
  rfl
theorem FineF.fields {deps:List (ByteArray×Int)} {strs:List (ByteArray×Bool)} {l:List FieldD} {k:Nat} (h:FineF deps strs (l.take k)):fieldsP deps strs (l.take k) (l.drop k)=fieldsP deps strs [] l:=by
 have:=field_split (deps:=deps) (strs:=strs) l [] k fun j f hj hf=>by
  have:=h j f (by rw [List.getElem?_take,if_pos hj];exact hf)
  rwa [List.take_take,Nat.min_eq_left (by omega)] at this
 simpa using this
def upI (v n:Int):Int:=(v+n - 1).tdiv n*n
def okA (f:FieldD):Prop:=(f.kind=1∨f.kind=2→1≤f.bits∧f.bits≤32)∧(f.kind=10→padB f=true)
theorem padB_bits {f:FieldD} (h:padB f=true):2≤f.bits∧f.bits≤512∧(f.bits=2∨f.bits=4∨∃ q,1≤q∧f.bits=8*q):=by
 unfold padB at h
 simp only [Bool.or_eq_true,Bool.and_eq_true,beq_iff_eq,decide_eq_true_eq] at h
 rcases h with (h | h) | ⟨⟨h1,h2⟩,h3⟩
 · omega
 · omega
 · rw [Int.tmod_eq_emod_of_nonneg (by omega)] at h3
   exact ⟨by omega,h2,.inr (.inr ⟨f.bits / 8,by omega,by omega⟩)⟩
theorem upI_mul {v n:Int} (hv:0≤v) (hn:1≤n):∃ q,0≤q∧upI v n=n*q∧v≤n*q∧n*q < v+n:=by
 unfold upI
 rw [Int.tdiv_eq_ediv_of_nonneg (by omega)]
 have h1:=Int.emod_add_mul_ediv (v+n - 1) n
 have h2:=Int.emod_nonneg (v+n - 1) (b:=n) (by omega)
 have h3:=Int.emod_lt_of_pos (v+n - 1) (b:=n) (by omega)
 refine ⟨(v+n - 1) / n,Int.ediv_nonneg (by omega) (by omega),Int.mul_comm _ _,?_,?_⟩<;>omega
theorem fields_all {deps:List (ByteArray×Int)} {strs:List (ByteArray×Bool)}:∀ (l bef:List FieldD),(fieldsP deps strs bef l).2=0→∀ (j:Nat) (f:FieldD),l[j]?=some f→examineC (bef++l.take j) (vI deps) (vB strs) f=0
 | [],bef,_,j,f,hj=>by simp at hj
 | g::l,bef,h,j,f,hj=>by
  rw [fieldsP] at h
  split at h
  · rename_i h0
    cases j with
    | zero =>
     injection hj with hj
     subst hj
     simpa using h0
    | succ j =>
     have:=fields_all l (bef++[g]) h j f (by simpa using hj)
     rw [List.append_assoc] at this
     simpa using this
  · rename_i h0;exact absurd h h0
theorem okA_of {bef:List FieldD} {D S:List (ByteArray×Value)} {f:FieldD} (h:examineC bef D S f=0):okA f:=by
 unfold examineC at h
 obtain ⟨_,h⟩:=orC_iff.1 h
 obtain ⟨_,h⟩:=orC_iff.1 h
 obtain ⟨_,h⟩:=orC_iff.1 h
 obtain ⟨_,h⟩:=orC_iff.1 h
 have hbits:bitsB f=true→1≤f.bits∧f.bits≤32:=by
  unfold bitsB
  simp only [Bool.and_eq_true,decide_eq_true_eq]
  exact fun h=>h.1
 refine ⟨fun hk=>?_,fun hk=>?_⟩
 · rcases hk with hk | hk
   · rw [show checkC bef D S f=orC (needC (bitsB f) 6) (withinC (topF f) 0 [f.low,f.high]) by unfold checkC;rw [hk];rfl] at h
     exact hbits ((needC_iff (by decide)).1 (orC_iff.1 h).1)
   · rw [show checkC bef D S f=orC (needC (bitsB f) 6) (withinC (topF f) 0 [f.low]) by unfold checkC;rw [hk];rfl] at h
     exact hbits ((needC_iff (by decide)).1 (orC_iff.1 h).1)
 · rw [show checkC bef D S f=needC (padB f) 6 by unfold checkC;rw [hk];rfl] at h
   exact (needC_iff (by decide)).1 h
end Go.Proofs.YtdfhjlggcdemhaaGreat
namespace Go.Sw
open Go.RowKit (Below)
structure LW3 (B:Nat) (w w':World):Prop where
 os:w'.os=w.os
 tape:w'.tape=w.tape
 output:w'.output=w.output
 size:w.heap.size≤w'.heap.size
 block:∀ b,b < B→b < w.heap.size→w'.heap[b]?=w.heap[b]?
theorem LW3.mono {B B':Nat} {w w':World} (h:LW3 B w w') (hb:B'≤B):LW3 B' w w':=⟨h.os,h.tape,h.output,h.size,fun b hl=>h.block b (by omega)⟩
theorem LW3.of {B:Nat} {w w':World} (e:Ext w w'):LW3 B w w':=⟨e.os,e.tape,e.output,e.size,fun b _ hb=>e.block b hb⟩
theorem LW3.put {B l:Nat} {w:World} (hb:B≤l) (o:Obj):LW3 B w (w.putObj l o):=⟨rfl,rfl,rfl,by simp,fun b hB _=>World.putObj_heap_other (by omega)⟩
theorem LW3.setCell {B:Nat} {w:World} {p:Nat} (hb:B≤p) (o:Nat) (v:Value):LW3 B w (w.setCell ⟨p,o,none⟩ v):=⟨rfl,rfl,rfl,by simp,fun b hB _=>Below.heap_setCell w ⟨p,o,none⟩ v b (by show b≠p;omega)⟩
def Lasts3 (B:Nat) (I:World→Prop):Prop:=∀ w w',LW3 B w w'→I w→I w'
theorem Lasts3.ext {B:Nat} {I:World→Prop} (h:Lasts3 B I) {w w':World} (hI:I w) (e:Ext w w'):I w':=h _ _ (.of e) hI
theorem Lasts3.cell {B:Nat} {I:World→Prop} (h:Lasts3 B I) {w:World} (hI:I w) {p:Nat} (hb:B≤p) (o:Nat) (v:Value):I (w.setCell ⟨p,o,none⟩ v):=h _ _ (.setCell hb o v) hI
theorem Lasts3.loop {B l:Nat} {I:World→Prop} (h:Lasts3 B I) {w:World} {r:Loop} (hb:B≤l) (hI:I w) (_:w.heap[l]?=some (.loop r)) (o:Obj):I (w.putObj l o):=h _ _ (.put hb o) hI
theorem Lasts3.mark {B l:Nat} {I:World→Prop} (h:Lasts3 B I) {w:World} (hb:B≤l) (hI:I w) (_:MarkAt l w) (o:Obj):I (w.putObj l o):=h _ _ (.put hb o) hI
theorem Lasts3.busied {B l:Nat} {I:World→Prop} {w w':World} (h:Lasts3 B I) (hb:Busied l w w') (hl:B≤l) (hI:I w):I w':=by
 obtain ⟨r,hr,rfl⟩:=hb
 exact h.loop hl hI hr _
theorem Lasts3.mono {B B':Nat} {I:World→Prop} (h:Lasts3 B I) (hb:B≤B'):Lasts3 B' I:=fun _ _ hl=>h _ _ (hl.mono hb)
theorem Lasts3.and {B:Nat} {I J:World→Prop} (h:Lasts3 B I) (k:Lasts3 B J):Lasts3 B (fun w=>I w∧J w):=fun w w' hl hh=>⟨h _ _ hl hh.1,k _ _ hl hh.2⟩
theorem Lasts3.ex {B:Nat} {α:Sort _} {I:α→World→Prop} (h:∀ x,Lasts3 B (I x)):Lasts3 B (fun w=>∃ x,I x w):=fun w w' hl ⟨x,hx⟩=>⟨x,h x _ _ hl hx⟩
theorem Lasts3.const (B:Nat) (p:Prop):Lasts3 B (fun _=>p):=fun _ _ _ h=>h
theorem Lasts3.from {B:Nat} {w0:World} (hb:w0.heap.size≤B):Lasts3 B (Ext w0):=fun w w' hl e=>⟨hl.os.trans e.os,hl.tape.trans e.tape,hl.output.trans e.output,Nat.le_trans e.size hl.size,fun k hk=>by
 have:=e.size
 rw [hl.block k (by omega) (by omega)];exact e.block k hk⟩
theorem Lasts3.low {B b:Nat} (hb:b < B) (o:Obj):Lasts3 B (fun w=>w.heap[b]?=some o):=fun w w' hl h=>by
 show w'.heap[b]?=some o
 rw [hl.block b hb (Array.getElem?_eq_some_iff.1 h).1];exact h
def SeqIt3 (P:Program) (f:FuncId) (caps:Array Value) (n:Nat) (xs ys:Nat→Value) (FP:World→Prop):Prop :=
 ∀ (yv:Value) (J:Nat→World→Prop) (Jx:World→Prop) (Jp:List PanicEntry→World→Prop) (w:World),yv.oneCell'=true→(∀ k w,J k w→FP w)→(∀ k,Lasts3 w.heap.size (J k))→Lasts3 w.heap.size Jx→(∀ ch,Lasts3 w.heap.size (Jp ch)) →
  (∀ k,k < n→∀ Rk,Firm w.heap.size Rk→∀ w,J k w→Rk w→callV P yv #[xs k,ys k] (fun ch w'=>Rk w'∧Jp ch w') w (fun v w'=>Rk w'∧((v = .bool true∧J (k+1) w')∨(v = .bool false∧Jx w'))))→J 0 w →
  Calls P f (#[yv]++caps) w (fun e w'=>match e with
   | .returned _=>J n w'∨Jx w'
   | .panicked ch=>Jp ch w'
   | .outgrown=>False)
def rangeN3 (P:Program) (fv:Value) (ds:List Deferred) (body:Nat→Value→Value→World→(World→Prop)→(Nat→World→Prop)→(List PanicEntry→World→Prop)→Prop) (QP:List PanicEntry→List Deferred→World→Prop) (w:World)
 (k:List Deferred→World→Prop) (kx:List (List Deferred→World→Prop)):Prop :=
 ∃ (f:FuncId) (caps:Array Value) (n:Nat) (xs ys:Nat→Value) (FP:World→Prop) (I:Nat→World→Prop) (Ix:Nat→World→Prop) (Ip:List PanicEntry→World→Prop),
  fv = .func (.func f) #[] caps∧Callable P f∧SeqIt3 P f caps n xs ys FP∧I 0 w∧(∀ k w,I k w→FP w)∧(∀ k,Lasts3 w.heap.size (I k))∧(∀ c,Lasts3 w.heap.size (Ix c))∧(∀ ch,Lasts3 w.heap.size (Ip ch)) ∧
  (∀ (Rk:World→Prop),Firm (w.heap.size+1+1) Rk→∀ (j:Nat) (w':World),j < n→I j w'→Rk w'→w.heap.size+1 < w'.heap.size→ReadyAt (w.heap.size+1) w' →
   body (w.heap.size+1) (xs j) (ys j) w' (fun w''=>Rk w''∧I (j+1) w'') (fun c w''=>Rk w''∧Ix c w'') (fun ch w''=>Rk w''∧Ip ch w'')) ∧
  (∀ w',I n w'→MarkAt w.heap.size w'→k (mark w.heap.size::ds) w') ∧
  (∀ c w',Ix c w'→MarkAt w.heap.size w'→nthK kx c (mark w.heap.size::ds) w') ∧
  (∀ ch w',Ip ch w'→MarkAt w.heap.size w'→QP ch (mark w.heap.size::ds) w')
section
variable {P:Program} {N:Nat}
theorem sim_range3 {g:Operand} {p p2:Nat} {asg body:Code} {Q:K} {QP:KP} {ρ:Env} {ds:List Deferred} {w:World} {fv:Value} {nbody:Nat→Value→Value→World→(World→Prop)→(Nat→World→Prop)→(List PanicEntry→World→Prop)→Prop} {QPn:List PanicEntry→List Deferred→World→Prop}
 {k:List Deferred→World→Prop} {kx:List (List Deferred→World→Prop)} (js:List Code) (h:rangeN3 P fv ds nbody QPn w k kx) (hg:ev ρ g=fv)
 (hbody:∀ l x y w K X QPr,nbody l x y w K X QPr→den P N (some l) asg (thenK (fun ρ' ds' w'=>ds'=[]∧busyK l w' (fun w''=>den P N (some l) body (roundK js K X) (roundQP QPr) ρ' [] w'')) (fun _ _ _ _=>False)) (fun _ _ _ _=>False) (put N (put N ρ (some p) x) (some p2) y) [] w)
 (hk:∀ ds w,k ds w→Q .normal ρ ds w) (hx:∀ c ds w,nthK kx c ds w→∃ code,js[c]?=some code∧((code = .ret∧Q .ret ρ ds w)∨(∃ id,code = .exit id∧Q (.exit id) ρ ds w))) (hp:∀ ch ds w,QPn ch ds w→QP ch ρ ds w) :
 den P N none (.rangeFunc g #[p,p2] asg body) Q QP ρ ds w:=by
 intro a ha hds
 subst hds
 obtain ⟨f,caps,n,xs,ys,FP,I,Ix,Ip,hfv,hcal,hseq,h0,hFP,hL,hLx,hLp,hround,hend,hjump,hpan⟩:=h
 refine wpV_rangeFunc fun fn hfn=>?_
 obtain ⟨rec,hrec⟩:∃ rec:Loop,rec={ state := .ready,pending:=none,fn,tmps:=a.tmps,params := #[p,p2],assign:=asg,body,defers:=w.heap.size }:=⟨_,rfl⟩
 obtain ⟨W1,hW1⟩:∃ W1,(w.alloc (.deferred (some []))).alloc (.loop rec)=W1:=⟨_,rfl⟩
 have hE1:Ext w W1:=by rw [← hW1];exact ((Ext.refl w).alloc _).alloc _
 have hW1s:W1.heap.size=w.heap.size+1+1:=by rw [← hW1];simp
 have hL1:W1.heap[w.heap.size+1]?=some (.loop rec):=by
  rw [← hW1];have:=World.alloc_heap_new (w.alloc (.deferred (some []))) (.loop rec);rwa [World.size_alloc] at this
 have hK1:MarkAt w.heap.size W1:=by
  rw [← hW1];exact MarkAt.alloc (World.alloc_heap_new w _) _
 have hev:a.eval g=fv:=by rw [ha.eval];exact hg
 refine ⟨w.heap.size+1,[mark w.heap.size],W1,{ target := .fn (.func f) caps,args := #[.func (.yield (w.heap.size+1)) #[] #[]] },W1,f,#[.func (.yield (w.heap.size+1)) #[] #[]]++caps,W1,?_,?_,?_,?_⟩
 · rw [← hW1,hrec];exact run_enterLoop_outer _ _ _ _ _
 · simp only [resolve,hev,hfv]
   simp [go_sem]
 · simp only [invoke]
   exact callFunc_run hcal _ _
 · refine Calls.mono (hseq (.func (.yield (w.heap.size+1)) #[] #[]) (fun j w'=>I j w'∧MarkAt w.heap.size w'∧∃ p,w'.heap[w.heap.size+1]?=some (.loop { rec with state := .ready,pending:=p })∧p=none)
    (fun w'=>MarkAt w.heap.size w'∧∃ c code,Ix c w'∧js[c]?=some code∧w'.heap[w.heap.size+1]?=some (.loop { rec with state := .done,pending:=some code }))
    (fun ch w'=>MarkAt w.heap.size w'∧Ip ch w') W1 rfl (fun j w' hj=>hFP j w' hj.1) (fun j=>((hL j).mono (by omega)).and ((Lasts3.low (by omega) _).and (.ex fun q=>(Lasts3.low (by omega) _).and (.const _ _))))
    ((Lasts3.low (by omega) _).and (.ex fun c => .ex fun code=>((hLx c).mono (by omega)).and ((Lasts3.const _ _).and (Lasts3.low (by omega) _)))) (fun ch=>(Lasts3.low (by omega) _).and ((hLp ch).mono (by omega))) ?_ ⟨(hL 0).ext h0 hE1,hK1,none,by rw [hL1,hrec],rfl⟩) ?_
   · rintro j hj Rk hF w' ⟨hi,hm,q,hl,rfl⟩ hR
     have hlt:w.heap.size+1 < w'.heap.size:=(Array.getElem?_eq_some_iff.1 hl).1
     have hy:=run_yield (P:=P) (args := #[xs j,ys j]) hl (by rw [hrec];rfl)
     show onNext P _ _ _ _
     have hcs:callS (.func (.yield (w.heap.size+1)) #[] #[]) #[xs j,ys j]=Instr.yield (w.heap.size+1) #[xs j,ys j]:=by
      simp [callS,Deferred.ofValue,invoke,go_sem,bind,pure,Sem.bind]
     rw [hcs,hy]
     have key:∀ R,wpV (some (w.heap.size+1)) P asg (Exit.then (fun a₁ w₁=>∃ w₂,(Instr.beginRound (w.heap.size+1)).run P w₁ = .ok () w₂∧wpV (some (w.heap.size+1)) P body (endV P (w.heap.size+1) R) a₁ w₂) (fun _ _ _=>False)) { tmps:=((#[p,p2].zip #[xs j,ys j]).foldl (fun tmps (t,a)=>tmps.setIfInBounds t a) a.tmps),defers:=[] } w' →
      RoundV P (w.heap.size+1) rec.fn ((rec.params.zip #[xs j,ys j]).foldl (fun tmps (t,a)=>tmps.setIfInBounds t a) rec.tmps) rec.assign rec.body w' R:=by
      intro R h;rw [hrec];exact roundV_of_wpV hfn h
     refine key _ ?_
     have hb:=hbody _ _ _ _ _ _ _ (hround _ ((RecAt.firm rec _ w.heap.size).and (hW1s ▸ hF)) j w' hj hi ⟨⟨hm,_,_,hl⟩,hR⟩ hlt ⟨_,hl,rfl⟩)
     have hagr:Agrees N ({ tmps:=((#[p,p2].zip #[xs j,ys j]).foldl (fun tmps (t,a)=>tmps.setIfInBounds t a) a.tmps),defers:=[] }:Act) (put N (put N ρ (some p) (xs j)) (some p2) (ys j)):=by
      have:=((Agrees.defers ha []).put (some p) (xs j)).put (some p2) (ys j)
      simpa [Act.put] using this
     refine wpV_mono (den_sound asg _ _ _ _ _ hagr hb) ?_
     intro e a1 w1 hl1
     cases e with
     | panic ch=>obtain ⟨_,_,hf⟩:=hl1;exact hf.elim
     | outgrown=>exact hl1
     | exit id=>obtain ⟨_,_,_,hf⟩:=hl1;exact hf.elim
     | goto l=>obtain ⟨_,_,_,hf⟩:=hl1;exact hf.elim
     | ret=>obtain ⟨_,_,_,hf⟩:=hl1;exact hf.elim
     | normal =>
      obtain ⟨ρ1,ha1,_,hd1,hbz⟩:=hl1
      obtain ⟨⟨r,hr1,hr2⟩,hbz⟩:=hbz
      refine ⟨_,run_beginRound hr1 hr2,?_⟩
      rw [show a1={ a1 with defers:=[] } by rw [← hd1]]
      refine wpV_mono (den_sound body _ _ _ _ _ (Agrees.defers ha1 []) (hbz _ ⟨_,hr1,rfl⟩)) ?_
      have fin:∀ (jump:Option Code) (w2:World),RecAt rec w.heap.size w2→(Instr.endRound (w.heap.size+1) jump).run P w2 = .ok (.bool jump.isNone) (w2.putObj (w.heap.size+1) (.loop { rec with state:=if jump.isNone then .ready else .done,pending:=jump })) ∧
       (w2.putObj (w.heap.size+1) (.loop { rec with state:=if jump.isNone then .ready else .done,pending:=jump })).heap[w.heap.size+1]?=some (.loop { rec with state:=if jump.isNone then .ready else .done,pending:=jump }) ∧
       MarkAt w.heap.size (w2.putObj (w.heap.size+1) (.loop { rec with state:=if jump.isNone then .ready else .done,pending:=jump })):=by
       rintro jump w2 ⟨hm2,st,q,hq⟩
       refine ⟨by have:=run_endRound (P:=P) jump hq;exact this,World.putObj_heap_same (Array.getElem?_eq_some_iff.1 hq).1,?_⟩
       unfold MarkAt
       rw [World.putObj_heap_other (by omega)];exact hm2
      intro e a2 w2 hl2
      cases e with
      | normal =>
       obtain ⟨_,_,_,_,⟨hrec2,hR2⟩,hi2⟩:=hl2
       obtain ⟨f1,f2,f3⟩:=fin none w2 hrec2
       obtain ⟨_,st,q,hq⟩:=hrec2
       exact ⟨_,_,f1,hF _ _ (KR.turn hq _ _) hR2,.inl ⟨rfl,(hL _).loop (Nat.le_succ _) hi2 hq _,f3,none,f2,rfl⟩⟩
      | ret =>
       obtain ⟨_,_,_,_,c,hc,⟨hrec2,hR2⟩,hi2⟩:=hl2
       obtain ⟨f1,f2,f3⟩:=fin (some .ret) w2 hrec2
       obtain ⟨_,st,q,hq⟩:=hrec2
       exact ⟨_,_,f1,hF _ _ (KR.turn hq _ _) hR2,.inr ⟨rfl,f3,c,_,(hLx _).loop (Nat.le_succ _) hi2 hq _,hc,f2⟩⟩
      | exit id =>
       obtain ⟨_,_,_,_,c,hc,⟨hrec2,hR2⟩,hi2⟩:=hl2
       obtain ⟨f1,f2,f3⟩:=fin (some (.exit id)) w2 hrec2
       obtain ⟨_,st,q,hq⟩:=hrec2
       exact ⟨_,_,f1,hF _ _ (KR.turn hq _ _) hR2,.inr ⟨rfl,f3,c,_,(hLx _).loop (Nat.le_succ _) hi2 hq _,hc,f2⟩⟩
      | panic ch =>
       obtain ⟨_,_,hd2,⟨hrec2,hR2⟩,hi2⟩:=hl2
       exact ⟨hd2,hR2,hrec2.1,hi2⟩
      | goto l=>obtain ⟨_,_,_,hf⟩:=hl2;exact hf.elim
      | outgrown=>exact hl2
   · have hagr:Agrees N ({ a with defers:=[mark w.heap.size]++a.defers }:Act) ρ:=ha
     have exh:∀ (st:LoopState) (q:Option Code) (w':World),w'.heap[w.heap.size+1]?=some (.loop { rec with state:=st,pending:=q })→st ≠ .busy→MarkAt w.heap.size w' →
      (Instr.endLoop (w.heap.size+1)).run P w' = .ok q (w'.putObj (w.heap.size+1) (.loop { rec with state := .exhausted,pending:=q }))∧MarkAt w.heap.size (w'.putObj (w.heap.size+1) (.loop { rec with state := .exhausted,pending:=q })):=by
      intro st q w' hq hne hm
      refine ⟨by have:=run_endLoop (P:=P) hq hne;exact this,?_⟩
      unfold MarkAt
      rw [World.putObj_heap_other (by omega)];exact hm
     rintro e w' he
     cases e with
     | returned v =>
      rcases he with ⟨hi,hm,q,hl,rfl⟩ | ⟨hm,c,code,hi,hc,hl⟩
      · obtain ⟨e1,e2⟩:=exh _ _ w' hl (by simp) hm
        exact ⟨none,_,e1,hagr,hk _ _ (hend _ ((hL _).loop (Nat.le_succ _) hi hl _) e2)⟩
      · obtain ⟨e1,e2⟩:=exh _ _ w' hl (by simp) hm
        refine ⟨some code,_,e1,?_⟩
        obtain ⟨code',hc',hden⟩:=hx c _ _ (hjump c _ ((hLx _).loop (Nat.le_succ _) hi hl _) e2)
        rw [hc] at hc';cases hc'
        rcases hden with ⟨rfl,hq⟩ | ⟨id,rfl,hq⟩
        · exact wpV_ret ⟨hagr,hq⟩
        · exact wpV_exit ⟨hagr,hq⟩
     | panicked ch=>exact ⟨hagr,hp _ _ _ (hpan ch _ he.2 he.1)⟩
     | outgrown=>exact he.elim
end
end Go.Sw
namespace Go.Proofs.YtdfhjlggcdemhaaGreat
open Sw
def n9 (R:RT) (w:World):Prop :=
 opV Pg (Instr.alloc 24 true (.tuple #[])) (panK R) w fun t0 w =>
 opV Pg (Instr.build 121 #[(0,(.string { data := #[110] })),(1,(.int .i64 1))]) (panK R) w fun t3 w =>
 opV Pg (Instr.buildSlice 33 1 #[(0,t3)]) (panK R) w fun t4 w =>
 opV Pg (Instr.build 35 #[(1,t4)]) (panK R) w fun t5 w =>
 opV Pg (Instr.alloc 35 true (.tuple #[])) (panK R) w fun t1 w =>
 opU Pg (Instr.storeAt 35 t1 t5) (panK R) w fun w =>
 opV Pg (Instr.build 121 #[(0,(.string { data := #[116] })),(1,(.int .i64 1))]) (panK R) w fun t6 w =>
 opV Pg (Instr.buildSlice 33 1 #[(0,t6)]) (panK R) w fun t7 w =>
 opV Pg (Instr.build 35 #[(0,(.int .i64 1)),(1,t7)]) (panK R) w fun t8 w =>
 opV Pg (Instr.alloc 35 true (.tuple #[])) (panK R) w fun t2 w =>
 opU Pg (Instr.storeAt 35 t2 t8) (panK R) w fun w =>
 opV Pg (Instr.build 38 #[(0,(.string { data := #[110] })),(1,(.int .i64 1)),(2,(.int .i64 8)),(6,(.int .i64 3))]) (panK R) w fun t9 w =>
 L0 35 t1 R w fun t10 w =>
 opV Pg (Instr.build 38 #[(0,(.string { data := #[98] })),(1,(.int .i64 4)),(7,t10)]) (panK R) w fun t11 w =>
 opV Pg (Instr.buildSlice 42 2 #[(0,t9),(1,t11)]) (panK R) w fun t12 w =>
 opV Pg (Instr.build 44 #[(0,(.string { data := #[97] })),(1,t12)]) (panK R) w fun t13 w =>
 opV Pg (Instr.build 38 #[(0,(.string { data := #[116] })),(1,(.int .i64 1)),(2,(.int .i64 3)),(6,(.int .i64 2))]) (panK R) w fun t14 w =>
 opV Pg (Instr.build 38 #[(0,(.string { data := #[112] })),(1,(.int .i64 10)),(2,(.int .i64 8))]) (panK R) w fun t15 w =>
 opV Pg (Instr.build 38 #[(0,(.string { data := #[118] })),(1,(.int .i64 3)),(6,(.int .i64 300))]) (panK R) w fun t16 w =>
 L0 35 t2 R w fun t17 w =>
 opV Pg (Instr.build 38 #[(0,(.string { data := #[108] })),(1,(.int .i64 7)),(8,(.string { data := #[97] })),(7,t17)]) (panK R) w fun t18 w =>
 opV Pg (Instr.build 38 #[(0,(.string { data := #[107] })),(1,(.int .i64 11)),(12,(.int .i64 3)),(10,(.string { data := #[116] }))]) (panK R) w fun t19 w =>
 opV Pg (Instr.buildSlice 42 5 #[(0,t14),(1,t15),(2,t16),(3,t18),(4,t19)]) (panK R) w fun t20 w =>
 opV Pg (Instr.build 44 #[(0,(.string { data := #[109] })),(1,t20)]) (panK R) w fun t21 w =>
 opV Pg (Instr.buildSlice 22 2 #[(0,t13),(1,t21)]) (panK R) w fun t22 w =>
 opV Pg (Instr.build 24 #[(0,(.string { data := #[100] })),(2,(.string { data := #[109] })),(1,t22)]) (panK R) w fun t23 w =>
 opU Pg (Instr.storeAt 24 t0 t23) (panK R) w fun w =>
 qW Pg 24 t0 w fun r0 =>
 R (.returned r0) w
theorem n9s {R:RT} {w:World} (h:n9 R w):Calls Pg 61 #[] w R:=by
 refine yD Tryz.func61 ?_
 refine zs<|zr<|yv h fun _ w h=>zn<|zk<|zs<|zr<|yB h fun _ w h=>yS h fun _ w h=>yB h fun _ w h=>yv h fun _ w h=>yu h fun w h=>zn<|zk<|zs ?_
 refine zr<|yB h fun _ w h=>yS h fun _ w h=>yB h fun _ w h=>yv h fun _ w h=>yu h fun w h=>zn<|zk<|zs<|zr<|yB h fun _ w h=>yv h fun _ w h=>yB h fun _ w h=>yS h fun _ w h=>yB h fun _ w h=>?_
 exact yB h fun _ w h=>yB h fun _ w h=>yB h fun _ w h=>yv h fun _ w h=>yB h fun _ w h=>yB h fun _ w h=>yS h fun _ w h=>yB h fun _ w h=>yS h fun _ w h=>yB h fun _ w h=>yu h fun w h=>zn<|zk<|sim_ret<|body_retC rfl rfl h
def n5c1 (t2 t3 t15:Value) (R:RT) (w:World):Prop :=
 opV Pg (Instr.extract t15 0) (panK R) w fun t16 w =>
 opV Pg (Instr.extract t15 1) (panK R) w fun t17 w =>
 opV Pg (Instr.alloc 67 true (.tuple #[])) (panK R) w fun t9 w =>
 opU Pg (Instr.storeAt 67 t9 t16) (panK R) w fun w =>
 L0 67 t9 R w fun t18 w =>
 C0 63 #[t18,t17,t2,t3] R w fun t22 w =>
 R (.returned t22) w
def n5 (t0 t1 t2 t3:Value) (R:RT) (w:World):Prop :=
 C0 61 #[] R w fun t12 w =>
 C0 33 #[t12,t0,t1] R w fun t15 w =>
 n5c1 t2 t3 t15 R w
theorem n5s {t0 t1 t2 t3:Value} {R:RT} {w:World} (h:n5 t0 t1 t2 t3 R w):Calls Pg 62 #[t0,t1,t2,t3] w R:=by
 refine yD Tryz.func62 ?_
 refine zs<|zr<|zm<|zn<|zk<|zs<|zr<|yc h c61 fun _ w h=>zm<|zm<|yc h c33 fun _ w h=>zm<|yv h fun _ w h=>yv h fun _ w h=>yv h fun _ w h=>?_
 refine yu h fun w h=>zm<|zn<|zk<|zs<|zr<|yv h fun _ w h=>zm<|zm<|zm<|yc h c63 fun _ w h=>zm<|zn<|zk<|sim_ret ?_
 exact body_ret1 rfl rfl h
def n10 (t0 t1 t2 t3:Value) (R:RT) (w:World):Prop :=
 opV Pg (Instr.box 67 t0) (panK R) w fun t4 w =>
 L0 67 t4 R w fun t9 w =>
 opV Pg (Instr.build 67 #[(0,t2),(1,t3)]) (panK R) w fun t12 w =>
 B0 .eql 67 false t9 t12 R w fun t13 w =>
 joinK (fun (t16:Value) (w:World) =>
 pickK t13 t16 (.bool false) fun t17 =>
 R (.returned t17) w) fun K1 =>
 guardP t13 true (
 B0 .eql 52 true t1 (.int .i64 0) R w fun t16 w =>
 K1 t16 w) (
 K1 undef w)
theorem n10s {t0 t1 t2 t3:Value} {R:RT} {w:World} (h:n10 t0 t1 t2 t3 R w):Calls Pg 63 #[t0,t1,t2,t3] w R:=by
 refine yD Tryz.func63 ?_
 refine zs<|zr<|yv h fun _ w h=>zm<|zn<|zk<|zs<|sim_regionG<|yG 6<|yv h fun _ w h=>zm<|zm<|yB h fun _ w h=>yb h fun _ w h=>zm ?_
 refine zn<|yg1 2 5 true [15,16] 16 h (fun _ T hT h=>?_) fun σ w h=>?_
 · refine zm<|yb h fun _ w h=>zn ?_
   exact zt hT h
 exact yG 2<|yp h fun _ h=>zm<|zn<|sim_end<|zk<|sim_ret<|body_ret1 rfl rfl h
def n12c1 (t2 t3 t15:Value) (R:RT) (w:World):Prop :=
 opV Pg (Instr.extract t15 0) (panK R) w fun t16 w =>
 opV Pg (Instr.extract t15 1) (panK R) w fun t17 w =>
 opV Pg (Instr.alloc 67 true (.tuple #[])) (panK R) w fun t9 w =>
 opU Pg (Instr.storeAt 67 t9 t16) (panK R) w fun w =>
 L0 67 t9 R w fun t18 w =>
 C0 63 #[t18,t17,t2,t3] R w fun t22 w =>
 R (.returned t22) w
def n12 (t0 t1 t2 t3:Value) (R:RT) (w:World):Prop :=
 C0 61 #[] R w fun t12 w =>
 C0 34 #[t12,t0,t1] R w fun t15 w =>
 n12c1 t2 t3 t15 R w
theorem n12s {t0 t1 t2 t3:Value} {R:RT} {w:World} (h:n12 t0 t1 t2 t3 R w):Calls Pg 64 #[t0,t1,t2,t3] w R:=by
 refine yD Tryz.func64 ?_
 refine zs<|zr<|zm<|zn<|zk<|zs<|zr<|yc h c61 fun _ w h=>zm<|zm<|yc h c34 fun _ w h=>zm<|yv h fun _ w h=>yv h fun _ w h=>yv h fun _ w h=>?_
 refine yu h fun w h=>zm<|zn<|zk<|zs<|zr<|yv h fun _ w h=>zm<|zm<|zm<|yc h c63 fun _ w h=>zm<|zn<|zk<|sim_ret ?_
 exact body_ret1 rfl rfl h
def n103c1 (t3 t8 t10:Value) (R:RT) (w:World):Prop :=
 L0 105 t10 R w fun t37 w =>
 callV Pg t3 #[t37] (panK R) w fun t38 w =>
 opU Pg (Instr.storeAt 67 t8 t38) (panK R) w fun w =>
 qW Pg 67 t8 w fun r0 =>
 R (.returned (.tuple #[r0,(.int .i64 0)])) w
def n103c2 (t3 t8 t10 t11:Value) (R:RT) (w:World):Prop :=
 B0 .neq 52 true t11 (.int .i64 0) R w fun t33 w =>
 condP t33 (
 opV Pg (Instr.build 67 #[]) (panK R) w fun t34 w =>
 opU Pg (Instr.storeAt 67 t8 t34) (panK R) w fun w =>
 qW Pg 67 t8 w fun r0 =>
 R (.returned (.tuple #[r0,t11])) w) (
 n103c1 t3 t8 t10 R w)
def n103c3 (t3 t8 t10 t17 t19 t23 t29:Value) (R:RT) (w:World):Prop :=
 joinK (fun (t30:Value) (w:World) =>
 pickK t19 t30 (.bool false) fun t31 =>
 joinK (fun (t11:Value) (w:World) =>
 n103c2 t3 t8 t10 t11 R w) fun K4 =>
 condP t31 (
 K4 (.int .i64 3) w) (
 K4 t17 w)) fun K3 =>
 guardP t19 true (
 pickK t23 (.bool true) t29 fun t30 =>
 K3 t30 w) (
 K3 undef w)
def n103c4 (t2 t3 t8 t10 t17 t19 t23:Value) (R:RT) (w:World):Prop :=
 joinK (fun (t29:Value) (w:World) =>
 n103c3 t3 t8 t10 t17 t19 t23 t29 R w) fun K2 =>
 guardP t23 false (
 F0 105 t10 0 R w fun t25 w =>
 F0 44 t25 1 R w fun t26 w =>
 L0 42 t26 R w fun t27 w =>
 opV Pg (Builtin.len_ #[42] 3 #[t27]) (panK R) w fun t28 w =>
 B0 .geq 3 false t2 t28 R w fun t29 w =>
 K2 t29 w) (
 K2 undef w)
def n103c5 (t2 t3 t8 t15:Value) (R:RT) (w:World):Prop :=
 opV Pg (Instr.extract t15 0) (panK R) w fun t16 w =>
 opV Pg (Instr.extract t15 1) (panK R) w fun t17 w =>
 opV Pg (Instr.alloc 105 true (.tuple #[])) (panK R) w fun t10 w =>
 opU Pg (Instr.storeAt 105 t10 t16) (panK R) w fun w =>
 B0 .eql 52 true t17 (.int .i64 0) R w fun t19 w =>
 joinK (fun (t23:Value) (w:World) =>
 n103c4 t2 t3 t8 t10 t17 t19 t23 R w) fun K1 =>
 guardP t19 true (
 B0 .lss 3 true t2 (.int .i64 0) R w fun t22 w =>
 K1 t22 w) (
 K1 undef w)
def n103 (t0 t1 t2 t3:Value) (R:RT) (w:World):Prop :=
 opV Pg (Instr.box 24 t0) (panK R) w fun t4 w =>
 opV Pg (Instr.alloc 67 true (.tuple #[])) (panK R) w fun t8 w =>
 L0 24 t4 R w fun t13 w =>
 C0 100 #[t13,t1] R w fun t15 w =>
 n103c5 t2 t3 t8 t15 R w
theorem n103s {t0 t1 t2 t3:Value} {R:RT} {w:World} (h:n103 t0 t1 t2 t3 R w):Calls Pg 65 #[t0,t1,t2,t3] w R:=by
 refine yD Tryz.func65 ?_
 refine zs<|zr<|yv h fun _ w h=>yv h fun _ w h=>zm<|zn<|zk<|zs<|zr<|yv h fun _ w h=>zm<|yc h c100 fun _ w h=>zm<|yv h fun _ w h=>yv h fun _ w h=>?_
 refine yv h fun _ w h=>yu h fun w h=>zm<|zn<|zk<|zs<|zs<|sim_regionG<|yG 3<|zm<|yb h fun _ w h=>zm<|zn<|yg1 3 2 true [21,22,23] 23 h (fun _ T hT h=>?_) fun σ w h=>?_
 · refine zm<|yb h fun _ w h=>zm<|zn ?_
   exact zt hT h
 refine yg1 6 5 false [24,25,26,27,28,29] 29 h (fun _ T hT h=>?_) fun σ w h=>?_
 · refine zm<|yv h fun _ w h=>yv h fun _ w h=>yv h fun _ w h=>yx h fun _ w h=>yb h fun _ w h=>zn ?_
   exact zt hT h
 refine yg1 1 2 true [30] 30 h (fun _ T hT h=>?_) fun σ w h=>?_
 · refine yp h fun _ h=>zn ?_
   exact zt hT h
 refine yG 1<|yp h fun _ h=>zn<|sim_end<|zk<|yJ1 [11] 11 h (fun _ _ hkK4 h=>?_) fun σ w h=>?_
 · refine yC h (fun h=>?_) fun h=>?_
   · refine zr<|zm<|zn<|zk ?_
     exact zt hkK4 h
   refine sim_skip<|zk ?_
   exact zt hkK4 h
 refine zk<|zs<|zs<|zr<|zm<|yb h fun _ w h=>zn<|zk<|yC h (fun h=>zs<|zr<|yB h fun _ w h=>zm<|yu h fun w h=>zm<|zn<|zk<|sim_ret<|sim_then_ret<|body_retCT rfl rfl rfl h) fun h=>sim_skip<|zk<|zs<|zr<|zm ?_
 exact yv h fun _ w h=>yV h fun _ w h=>yu h fun w h=>zm<|zn<|zk<|sim_ret<|body_retCT rfl rfl rfl h
def n94c1 (t1 t2 t3:Value) (C1:World→Prop) (R:RT) (w:World):Prop :=
 qV Pg C1 (Instr.loadAt 105 t2) fun t4 =>
 qV Pg C1 (Instr.fieldAt 105 t2 0) fun t5 =>
 qV Pg C1 (Instr.fieldAt 44 t5 1) fun t6 =>
 qV Pg C1 (Instr.loadAt 42 t6) fun t7 =>
 qV Pg C1 (Instr.loadAt 3 t1) fun t8 =>
 qV Pg C1 (Instr.indexAt 42 t7 t8) fun t9 =>
 qV Pg C1 (Instr.loadAt 38 t9) fun t10 =>
 C0 67 #[t4,t10] R w fun t11 w =>
 C1 w∧(
 opU Pg (Instr.storeAt 67 t3 t11) (panK R) w fun w =>
 turnK w fun C2 w =>
 qW Pg 67 t3 w fun r0 =>
 R (.returned r0) w)
def n94 (t0 t1:Value) (R:RT) (w:World):Prop :=
 opV Pg (Instr.box 105 t0) (panK R) w fun t2 w =>
 opV Pg (Instr.alloc 67 true (.tuple #[])) (panK R) w fun t3 w =>
 drawK w fun C1 w =>
 n94c1 t1 t2 t3 C1 R w
theorem n94s {t0 t1:Value} {R:RT} {w:World} (h:n94 t0 t1 R w):Calls Pg 66 #[t0,t1] w R:=by
 refine yD Tryz.func66 ?_
 refine zs<|zr<|yv h fun _ w h=>yv h fun _ w h=>zn<|zk<|zs<|yh [4,5,6,7,8,9,10,11] h fun C hC h=>ye 0 hC h fun _ h=>?_
 refine ye 1 hC h fun _ h=>?_
 refine ye 2 hC h fun _ h=>?_
 refine ye 3 hC h fun _ h=>?_
 refine ye 4 hC h fun _ h=>?_
 refine ye 5 hC h fun _ h=>?_
 refine ye 6 hC h fun _ h=>?_
 refine yo 7 ?_
 refine yc h c67 fun _ w h=>zn ?_
 obtain ⟨hC,h⟩:=h
 refine ⟨hC,?_⟩
 refine yq 8 1 ?_
 refine yu h fun w h=>zn ?_
 obtain ⟨C2,hC,h⟩:=h
 refine ⟨C2,hC,?_⟩
 exact yz<|zk<|sim_ret<|body_retC rfl rfl h
def n112 (t0 t1:Value) (R:RT) (w:World):Prop :=
 opV Pg (Instr.box 105 t0) (panK R) w fun t2 w =>
 opV Pg (Instr.box 38 t1) (panK R) w fun t3 w =>
 opV Pg (Instr.alloc 67 true (.tuple #[])) (panK R) w fun t4 w =>
 opV Pg (Instr.makeMap 142 none) (panK R) w fun t6 w =>
 opU Pg (Instr.mapUpdate 142 t6 (.int .i64 1) (.func (.func 101) #[] #[])) (panK R) w fun w =>
 opU Pg (Instr.mapUpdate 142 t6 (.int .i64 2) (.func (.func 101) #[] #[])) (panK R) w fun w =>
 L0 105 t2 R w fun t9 w =>
 opV Pg (Instr.makeFunc (.func 102) #[t9] #[]) (panK R) w fun t10 w =>
 opU Pg (Instr.mapUpdate 142 t6 (.int .i64 3) t10) (panK R) w fun w =>
 L0 105 t2 R w fun t11 w =>
 opV Pg (Instr.makeFunc (.func 103) #[t11] #[]) (panK R) w fun t12 w =>
 opU Pg (Instr.mapUpdate 142 t6 (.int .i64 4) t12) (panK R) w fun w =>
 opU Pg (Instr.mapUpdate 142 t6 (.int .i64 5) (.func (.func 104) #[] #[])) (panK R) w fun w =>
 opU Pg (Instr.mapUpdate 142 t6 (.int .i64 6) (.func (.func 105) #[] #[])) (panK R) w fun w =>
 L0 105 t2 R w fun t13 w =>
 opV Pg (Instr.makeFunc (.func 106) #[t13] #[]) (panK R) w fun t14 w =>
 opU Pg (Instr.mapUpdate 142 t6 (.int .i64 7) t14) (panK R) w fun w =>
 opV Pg (Instr.makeFunc (.func 107) #[] #[t2]) (panK R) w fun t15 w =>
 opU Pg (Instr.mapUpdate 142 t6 (.int .i64 8) t15) (panK R) w fun w =>
 L0 105 t2 R w fun t16 w =>
 opV Pg (Instr.makeFunc (.func 108) #[t16] #[]) (panK R) w fun t17 w =>
 opU Pg (Instr.mapUpdate 142 t6 (.int .i64 9) t17) (panK R) w fun w =>
 opU Pg (Instr.mapUpdate 142 t6 (.int .i64 10) (.func (.func 109) #[] #[])) (panK R) w fun w =>
 L0 105 t2 R w fun t18 w =>
 opV Pg (Instr.makeFunc (.func 110) #[t18] #[]) (panK R) w fun t19 w =>
 opU Pg (Instr.mapUpdate 142 t6 (.int .i64 11) t19) (panK R) w fun w =>
 L0 105 t2 R w fun t20 w =>
 opV Pg (Instr.makeFunc (.func 103) #[t20] #[]) (panK R) w fun t21 w =>
 opU Pg (Instr.mapUpdate 142 t6 (.int .i64 12) t21) (panK R) w fun w =>
 F0 38 t3 1 R w fun t23 w =>
 L0 32 t23 R w fun t24 w =>
 opV Pg (Instr.lookup 142 t6 t24 false) (panK R) w fun t25 w =>
 L0 38 t3 R w fun t26 w =>
 callV Pg t25 #[t26] (panK R) w fun t27 w =>
 opU Pg (Instr.storeAt 67 t4 t27) (panK R) w fun w =>
 qW Pg 67 t4 w fun r0 =>
 R (.returned r0) w
theorem n112s {t0 t1:Value} {R:RT} {w:World} (h:n112 t0 t1 R w):Calls Pg 67 #[t0,t1] w R:=by
 refine yD Tryz.func67 ?_
 refine zs<|zr<|yv h fun _ w h=>yv h fun _ w h=>yv h fun _ w h=>zn<|zk<|zs<|zr<|zm<|zn<|zk<|zs<|zr<|yv h fun _ w h=>?_
 refine zm<|yu h fun w h=>zm<|yu h fun w h=>yv h fun _ w h=>yF h fun _ w h=>yu h fun w h=>yv h fun _ w h=>yF h fun _ w h=>yu h fun w h=>yu h fun w h=>yu h fun w h=>yv h fun _ w h=>yF h fun _ w h=>yu h fun w h=>?_
 refine yF h fun _ w h=>yu h fun w h=>yv h fun _ w h=>yF h fun _ w h=>yu h fun w h=>yu h fun w h=>yv h fun _ w h=>yF h fun _ w h=>yu h fun w h=>yv h fun _ w h=>yF h fun _ w h=>yu h fun w h=>zm<|yv h fun _ w h=>yv h fun _ w h=>?_
 exact yv h fun _ w h=>yv h fun _ w h=>yV h fun _ w h=>yu h fun w h=>zn<|zk<|sim_ret<|body_retC rfl rfl h
def n101 (t0 t1:Value) (R:RT) (w:World):Prop :=
 opV Pg (Instr.box 105 t0) (panK R) w fun t2 w =>
 opV Pg (Instr.alloc 67 true (.tuple #[])) (panK R) w fun t3 w =>
 L0 105 t2 R w fun t4 w =>
 L0 3 t1 R w fun t5 w =>
 C0 69 #[t4,t5] R w fun t6 w =>
 opU Pg (Instr.storeAt 67 t3 t6) (panK R) w fun w =>
 qW Pg 67 t3 w fun r0 =>
 R (.returned r0) w
theorem n101s {t0 t1:Value} {R:RT} {w:World} (h:n101 t0 t1 R w):Calls Pg 68 #[t0,t1] w R:=by
 refine yD Tryz.func68 ?_
 refine zs<|zr<|yv h fun _ w h=>yv h fun _ w h=>zn<|zk<|zs<|zr<|yv h fun _ w h=>yv h fun _ w h=>yc h c69 fun _ w h=>yu h fun w h=>zn<|zk<|sim_ret ?_
 exact body_retC rfl rfl h
def n105c1 (t3 t4 t6 t9:Value) (Kr1:World→Prop) (Qr1:List PanicEntry→World→Prop) (Xr1:Nat→World→Prop) (R:RT) (w:World):Prop :=
 opV Pg (Instr.loadAt 67 t6) Qr1 w fun t11 w =>
 opU Pg (Instr.storeAt 67 t4 t11) Qr1 w fun w =>
 opV Pg (Instr.loadAt 3 t3) Qr1 w fun t13 w =>
 opV Pg (binS .eql 3 false t9 t13) Qr1 w fun t14 w =>
 condP t14 (
 Xr1 0 w) (
 Kr1 w)
def n105c2 (t3 t4 t9 t10:Value) (Kr1:World→Prop) (Qr1:List PanicEntry→World→Prop) (Xr1:Nat→World→Prop) (l1:Nat) (R:RT) (w:World):Prop :=
 opV Pg (Instr.alloc 67 true (.tuple #[])) (fun _ _=>False) w fun t6 w =>
 opU Pg (Instr.storeAt 67 t6 t10) (fun _ _=>False) w fun w =>
 busyK l1 w fun w =>
 n105c1 t3 t4 t6 t9 Kr1 Qr1 Xr1 R w
def n105c3 (t4:Value) (ds:List Deferred) (R:RT) (w:World):Prop :=
 opV Pg (Instr.loadAt 67 t4) (outQ Pg ds [(some 67,t4)] R) w fun t15 w =>
 opU Pg (Instr.storeAt 67 t4 t15) (outQ Pg ds [(some 67,t4)] R) w fun w =>
 outX Pg ds [(some 67,t4)] R w
def n105c4 (t4:Value) (ds:List Deferred) (R:RT) (w:World):Prop :=
 opV Pg (Instr.loadAt 67 t4) (outQ Pg ds [(some 67,t4)] R) w fun t15 w =>
 opU Pg (Instr.storeAt 67 t4 t15) (outQ Pg ds [(some 67,t4)] R) w fun w =>
 outX Pg ds [(some 67,t4)] R w
def n105c5 (t3 t4 t8:Value) (ds:List Deferred) (R:RT) (w:World):Prop :=
 rangeN3 Pg t8 ds (fun l1 t9 t10 w Kr1 Xr1 Qr1 =>
 n105c2 t3 t4 t9 t10 Kr1 Qr1 Xr1 l1 R w) (fun ch ds w=>outQ Pg ds [(some 67,t4)] R ch w) w (fun ds w =>
 n105c3 t4 ds R w) [fun ds w =>
 n105c4 t4 ds R w]
def n105 (t0 t1:Value) (R:RT) (w:World):Prop :=
 (fun (ds:List Deferred) =>
 opV Pg (Instr.box 105 t0) (outQ Pg ds [(some 67,undef)] R) w fun t2 w =>
 opV Pg (Instr.box 3 t1) (outQ Pg ds [(some 67,undef)] R) w fun t3 w =>
 opV Pg (Instr.alloc 67 true (.tuple #[])) (outQ Pg ds [(some 67,undef)] R) w fun t4 w =>
 opV Pg (Instr.loadAt 105 t2) (outQ Pg ds [(some 67,t4)] R) w fun t7 w =>
 callK Pg 111 #[t7] (outQ Pg ds [(some 67,t4)] R) w fun t8 w =>
 n105c5 t3 t4 t8 ds R w) []
theorem n105s {t0 t1:Value} {R:RT} {w:World} (h:n105 t0 t1 R w):Calls Pg 69 #[t0,t1] w R:=by
 refine yE Tryz.func69 ?_
 unfold n105 at h
 dsimp only at h
 refine zs<|zr<|yv h fun _ w h=>yv h fun _ w h=>yv h fun _ w h=>zn<|zk<|sim_scope<|zs<|sim_label<|zk<|zs<|zs<|zr<|yv h fun _ w h=>?_
 refine yc h c111 fun _ w h=>zn<|zk<|sim_block<|sim_range3 [.exit 0] h rfl (fun l1 t9 t10 w Kr1 Xr1 Qr1 h=>?_) (fun ds w h=>?_) (fun c ds w h=>?_) (fun ch ds w h=>outQ_of rfl h)
 · refine zs<|zr<|zm<|zn<|zk<|zr<|yv h fun _ w h=>yu h fun w h=>zn<|zk ?_
   obtain ⟨hr,h⟩:=h
   refine ⟨rfl,hr,fun w hb=>?_⟩
   have h:=h w hb
   refine sim_block<|zs<|zr<|yv h fun _ w h=>yu h fun w h=>zn<|zk<|zs<|zr<|zm<|yv h fun _ w h=>yb h fun _ w h=>zn<|zk<|yC h (fun h=>sim_exit<|sim_block_miss rfl<|⟨rfl,0,rfl,h⟩) fun h=>?_
   exact sim_skip<|sim_block_normal<|⟨rfl,h⟩
 · exact sim_block_normal<|zk<|zs<|zr<|yv h fun _ w h=>yu h fun w h=>zn<|zk<|sim_ret<|bodyM_ret rfl h
 rcases c with _ | c
 · refine ⟨_,rfl,.inr ⟨_,rfl,?_⟩⟩
   exact sim_block_hit<|zk<|zs<|zr<|yv h fun _ w h=>yu h fun w h=>zn<|zk<|sim_ret<|bodyM_ret rfl h
 exact h.elim
open Go.RowKit (intOf Below)
def capF (v:Int):Int:=if v < 1099511627776 then v else 1099511627776
theorem capF_in {v:Int} (h:0≤v):0≤capF v∧capF v≤1099511627776:=by unfold capF;split<;>omega
theorem capF_low {v:Int} (h:v≤1099511627776):capF v=v:=by unfold capF;split<;>omega
theorem groups_lt (v:Nat) (h:¬ v < 128):v / 128 < v:=Nat.div_lt_self (by omega) (by decide)
def groupsG:Nat→Nat→Nat
 | 0,_=>1
 | n+1,v=>if v < 128 then 1 else 1+groupsG n (v / 128)
theorem groupsG_eq:∀ (n k v:Nat),v≤n→v≤k→groupsG n v=groupsG k v
 | 0,0,_,_,_=>rfl
 | 0,k+1,v,h,_=>by rw [groupsG,groupsG,if_pos (by omega)]
 | n+1,0,v,_,h=>by rw [groupsG,groupsG,if_pos (by omega)]
 | n+1,k+1,v,h1,h2=>by
  rw [groupsG,groupsG]
  split
  · rfl
  · rw [groupsG_eq n k (v / 128) (by omega) (by omega)]
def groupsP (v:Nat):Nat:=groupsG v v
theorem groupsP_small {v:Nat} (h:v < 128):groupsP v=1:=by
 unfold groupsP
 cases v with
 | zero=>rfl
 | succ n=>rw [groupsG,if_pos h]
theorem groupsP_big {v:Nat} (h:¬ v < 128):groupsP v=1+groupsP (v / 128):=by
 unfold groupsP
 cases v with
 | zero=>omega
 | succ n=>rw [groupsG,if_neg h,groupsG_eq n ((n+1) / 128) _ (by omega) (Nat.le_refl _)]
theorem groupsP_le:∀ (k v:Nat),v < 128 ^ k→1≤k→groupsP v≤k
 | 0,_,_,h=>by omega
 | k+1,v,hv,_=>by
  by_cases h:v < 128
  · rw [groupsP_small h];omega
  · rw [groupsP_big h]
    cases k with
    | zero=>simp at hv;omega
    | succ k =>
     have:=groupsP_le (k+1) (v / 128) (by rw [Nat.div_lt_iff_lt_mul (by decide)];rw [Nat.pow_succ] at hv;exact hv) (by omega)
     omega
theorem groupsP_pos (v:Nat):1≤groupsP v:=by
 by_cases h:v < 128
 · rw [groupsP_small h];exact Nat.le_refl 1
 · rw [groupsP_big h];omega
section
variable (w0:World)
theorem plus_ret (a b:Int) (ha:0≤a∧a≤1099511627776) (hb:0≤b∧b≤1099511627776):Ret Pg 137 #[.int .i64 a,.int .i64 b] w0 fun r w'=>r = .int .i64 (capF (a+b))∧Ext w0 w':=by
 refine n123s (R:=retR _) ?_;unfold n123
 simp (disch:=try exact DI) only [↓PR,QR,simprocAttr,wrap_ok]
 refine ⟨?_,Ext.refl _⟩
 unfold capF;rfl
theorem upS_ret (v n:Int) (hv:0≤v∧v≤1099511627776) (hn:1≤n∧n≤512):Ret Pg 136 #[.int .i64 v,.int .i64 n] w0 fun r w'=>r = .int .i64 (capF (upI v n))∧Ext w0 w':=by
 obtain ⟨q,hq,he,h1,h2⟩:=upI_mul hv.1 hn.1
 have hd:(v+n - 1).tdiv n*n=upI v n:=rfl
 have hd0:0≤(v+n - 1).tdiv n∧(v+n - 1).tdiv n≤v+n:=by
  rw [Int.tdiv_eq_ediv_of_nonneg (by omega)]
  exact ⟨Int.ediv_nonneg (by omega) (by omega),Int.le_trans (Int.ediv_le_self _ (by omega)) (by omega)⟩
 have hn0:n≠0:=by omega
 refine n126s (R:=retR _) ?_;unfold n126
 have hb:0≤(v+n - 1).tdiv n*n∧(v+n - 1).tdiv n*n≤v+n:=by rw [hd];omega
 simp (disch:=try exact DI) only [↓PR,QR,simprocAttr,op_quo,wrap_ok,hd]
 refine ⟨?_,Ext.refl _⟩
 unfold capF;rfl
theorem same_ret (v:Int):Ret Pg 79 #[.int .i64 v] w0 fun r w'=>r=rangeVal v v∧Ext w0 w':=by
 refine n124s (R:=retR _) ?_;unfold n124
 simp (disch:=try exact DI) only [↓PR,QR,simprocAttr]
 exact ⟨by first | trivial | rfl,ee⟩
theorem len1_ret (v:Int) (hv:0≤v∧v≤1099511627776):Ret Pg 80 #[.int .i64 v,.int .i64 8] w0 fun r w'=>r = .int .i64 ((v+7).tdiv 8)∧Ext w0 w':=by
 have hd:0≤(v+7).tdiv 8∧(v+7).tdiv 8≤v+7:=by
  rw [Int.tdiv_eq_ediv_of_nonneg (by omega)]
  exact ⟨Int.ediv_nonneg (by omega) (by omega),Int.ediv_le_self _ (by omega)⟩
 have h8:(8:Int)≠0:=by decide
 have hs:v+8 - 1=v+7:=by omega
 refine n97s (R:=retR _) ?_;unfold n97
 simp (disch:=try exact DI) only [↓PR,QR,simprocAttr,op_quo,wrap_ok,hs]
 exact ⟨by first | trivial | rfl,ee⟩
theorem groups_ret (v:Nat) (hv:v < 9223372036854775808):Ret Pg 132 #[.int .i64 (v:Int)] w0 fun r w'=>r = .int .i64 ((groupsP v:Nat):Int)∧Ext w0 w':=by
 refine n104s (R:=retR _) ?_;unfold n104
 have hb:=groupsP_le 9 v (Nat.lt_of_lt_of_le hv (by decide)) (by decide)
 refine loop2_intro (fun x n w=>∃ (y k:Nat),x = .int .i64 (y:Int)∧n = .int .i64 (k:Int)∧y≤v∧1≤k∧k+groupsP y=1+groupsP v∧Ext w0 w) (fun x _ _=>(intOf x).toNat) ⟨v,1,rfl,rfl,Nat.le_refl _,Nat.le_refl _,by omega,Ext.refl _⟩ ?_
 rintro _ _ w ⟨y,k,rfl,rfl,hy,hk,hg,e⟩
 have hp:=groupsP_pos y
 unfold n104c1
 by_cases h:y < 128
 · have d:decide ((y:Int)≥128)=false:=decide_eq_false (by omega)
   rw [groupsP_small h] at hg
   simp (disch:=try exact DI) only [↓PR,QR,simprocAttr,d]
   exact ⟨by rw [show k=groupsP v by omega],e⟩
 · have d:decide ((y:Int)≥128)=true:=decide_eq_true (by omega)
   rw [groupsP_big h] at hg
   have hw:IntKind.i64.wrap ((k:Int)+1)=((k+1:Nat):Int):=by rw [wrap_ok (by omega) (by omega)];omega
   have hsh:∀ (QP:List PanicEntry→World→Prop) (K:Value→World→Prop),opV Pg (binS .shr 3 true (.int .i64 (y:Int)) (.int .u64 7)) QP w K=K (.int .i64 ((y / 128:Nat):Int)) w:=fun QP K=>op_shr (P:=Pg) (QP:=QP) (w:=w) (k:=K) 3 true y .u64 7 (by decide)
   simp (disch:=try exact DI) only [↓PR,QR,simprocAttr,d,hsh,hw]
   have:=groups_lt y h
   refine ⟨⟨y / 128,k+1,rfl,rfl,by omega,by omega,by omega,e⟩,?_⟩
   simp only [intOf];omega
end
theorem w64 {n:Nat} (h:n < 18446744073709551616):IntKind.u64.wrap (n:Int)=n:=by
 simp [IntKind.wrap,IntKind.bits,IntKind.signed]
 omega
section
variable {QP:List PanicEntry→World→Prop} {w:World} {k:Value→World→Prop}
theorem op_and32 (t:TypeId) (c:Bool) (a:Nat) (h:a < 18446744073709551616):opV Pg (binS .and t c (.int .u64 (a:Int)) (.int .u64 4294967295)) QP w k=k (.int .u64 ((a % 4294967296:Nat):Int)) w:=opV_ok (by
 rw [run_bin_int _ _ _ _ _ _ rfl]
 have h1:(BitVec.ofInt IntKind.u64.bits (a:Int) &&& BitVec.ofInt IntKind.u64.bits 4294967295).toNat=a % 4294967296:=by
  rw [BitVec.toNat_and]
  have e1:(BitVec.ofInt IntKind.u64.bits (a:Int)).toNat=a:=by
   rw [BitVec.toNat_ofInt]
   show ((a:Int) % ((2 ^ 64:Nat):Int)).toNat=a
   omega
  have e2:(BitVec.ofInt IntKind.u64.bits 4294967295).toNat=2 ^ 32 - 1:=by decide
  rw [e1,e2,Nat.and_two_pow_sub_one_eq_mod]
 show Sem.run _ (Op.intBits .and .u64 (a:Int) 4294967295) w=_
 unfold Op.intBits
 show Result.ok (Value.int .u64 (IntKind.u64.wrap _)) w=_
 rw [h1,w64 (by omega)])
theorem op_shr64 (t:TypeId) (c:Bool) (x:Nat):opV Pg (binS .shr t c (.int .u64 (x:Int)) (.int .u64 32)) QP w k=k (.int .u64 ((x / 4294967296:Nat):Int)) w:=opV_ok (by
 have h3:(x:Int).fdiv (2 ^ 32)=((x / 4294967296:Nat):Int):=by
  rw [Int.fdiv_eq_ediv_of_nonneg _ (by decide)]
  omega
 simp [binS,go_sem,h3])
end
theorem Mul64_ret (w0:World) (x y:Nat) (hx:x≤2097152) (hy:y≤1099511627776):Ret Pg 157 #[.int .u64 (x:Int),.int .u64 (y:Int)] w0 fun r w'=>r = .tuple #[.int .u64 0,.int .u64 ((x*y:Nat):Int)]∧Ext w0 w':=by
 have m1:x*(y % 4294967296)≤2097152*4294967296:=Nat.mul_le_mul hx (by omega)
 have m2:x*(y / 4294967296)≤2097152*256:=Nat.mul_le_mul hx (by omega)
 have m3:x*y≤2097152*1099511627776:=Nat.mul_le_mul hx hy
 have e1:x % 4294967296=x:=by omega
 have e2:x / 4294967296=0:=by omega
 have q1:IntKind.u64.wrap ((x:Int)*((y % 4294967296:Nat):Int))=((x*(y % 4294967296):Nat):Int):=by rw [← Int.natCast_mul,w64 (by omega)]
 have q2:IntKind.u64.wrap ((x:Int)*((y / 4294967296:Nat):Int))=((x*(y / 4294967296):Nat):Int):=by rw [← Int.natCast_mul,w64 (by omega)]
 have q3:IntKind.u64.wrap ((x:Int)*(y:Int))=((x*y:Nat):Int):=by rw [← Int.natCast_mul,w64 (by omega)]
 have q4:∀ n:Nat,IntKind.u64.wrap (((0:Nat):Int)*(n:Int))=((0:Nat):Int):=fun n=>by simp;decide
 generalize x*(y % 4294967296)=u at m1 q1
 generalize x*(y / 4294967296)=v at m2 q2
 have e3:u / 4294967296 % 4294967296=u / 4294967296:=by omega
 have e4:u / 4294967296 / 4294967296=0:=by omega
 have q5:IntKind.u64.wrap (((0:Nat):Int)+((u / 4294967296:Nat):Int))=((u / 4294967296:Nat):Int):=by rw [← Int.natCast_add,Nat.zero_add,w64 (by omega)]
 have q6:IntKind.u64.wrap (((u / 4294967296:Nat):Int)+(v:Int))=((u / 4294967296+v:Nat):Int):=by rw [← Int.natCast_add,w64 (by omega)]
 have e5:(u / 4294967296+v) / 4294967296=0:=by omega
 have q7:IntKind.u64.wrap (((0:Nat):Int)+((0:Nat):Int))=((0:Nat):Int):=by decide
 have hu:u < 18446744073709551616:=by omega
 refine n3s (R:=retR _) ?_;unfold n3
 try unfold B0
 rw [op_and32 _ _ x (by omega),op_shr64,op_and32 _ _ y (by omega),op_shr64,e1,e2,op_mul,q1,op_mul,q4,op_shr64,op_add,q5,op_and32 _ _ _ (by omega),op_shr64,e3,e4,op_mul,q2,op_add,q6,op_mul,q4,op_add,q7,op_shr64,e5,op_add,q7,op_mul,q3]
 exact ⟨_,rfl,rfl,Ext.refl _⟩
theorem times_ret (w0:World) (x y:Int) (hx:0≤x∧x≤2097152) (hy:0≤y∧y≤1099511627776):Ret Pg 134 #[.int .i64 x,.int .i64 y] w0 fun r w'=>r = .int .i64 (capF (x*y))∧Ext w0 w':=by
 obtain ⟨x,rfl⟩:∃ n:Nat,x=n:=⟨x.toNat,by omega⟩
 obtain ⟨y,rfl⟩:∃ n:Nat,y=n:=⟨y.toNat,by omega⟩
 have m3:x*y≤2097152*1099511627776:=Nat.mul_le_mul (by omega) (by omega)
 have h1:=w64 (n:=x) (by omega)
 have h2:=w64 (n:=y) (by omega)
 refine n125s (R:=retR _) ?_;unfold n125
 simp (disch:=try exact DI) only [↓PR,QR,Int.reduceBEq,Int.reduceBNe,Int.reduceLT,Int.reduceLE,Int.reduceGT,Int.reduceGE,Int.reduceNeg,h1,h2]
 refine zcr (Mul64_ret w0 x y (by omega) (by omega)) fun w1 e1=>?_
 unfold n125c1
 have d0:decide ((0:Int) > 0)=false:=by decide
 by_cases h:1099511627776 < x*y
 · have d:decide (((x*y:Nat):Int) > 1099511627776)=true:=decide_eq_true (by omega)
   simp (disch:=try exact DI) only [↓PR,QR,Int.reduceBEq,Int.reduceBNe,Int.reduceLT,Int.reduceLE,Int.reduceGT,Int.reduceGE,Int.reduceNeg,d0,d]
   refine ⟨?_,e1⟩
   unfold capF
   rw [if_neg (by rw [← Int.natCast_mul];omega)]
 · have d:decide (((x*y:Nat):Int) > 1099511627776)=false:=decide_eq_false (by omega)
   have h3:IntKind.i64.wrap ((x*y:Nat):Int)=((x*y:Nat):Int):=wrap_ok (by omega) (by omega)
   simp (disch:=try exact DI) only [↓PR,QR,Int.reduceBEq,Int.reduceBNe,Int.reduceLT,Int.reduceLE,Int.reduceGT,Int.reduceGE,Int.reduceNeg,d0,d,h3]
   refine ⟨?_,e1⟩
   rw [capF_low (by rw [← Int.natCast_mul];omega),Int.natCast_mul]
def Two (w0:World) (g:FuncId) (a b c:Int):Prop:=∀ w,Ext w0 w→Ret Pg g #[.int .i64 a,.int .i64 b] w fun r w'=>r = .int .i64 c∧Ext w w'
theorem both_ret (w0:World) (a1 a2 b1 b2 c1 c2:Int) (g:FuncId) (hg:Callable Pg g) (h1:Two w0 g a1 b1 c1) (h2:Two w0 g a2 b2 c2):Ret Pg 78 #[rangeVal a1 a2,rangeVal b1 b2,.func (.func g) #[] #[]] w0 fun r w'=>r=rangeVal c1 c2∧Ext w0 w':=by
 refine n102s (R:=retR _) ?_;unfold n102
 simp (disch:=try exact DI) only [↓PR,QR,simprocAttr]
 generalize hW:World.alloc (World.alloc (World.alloc w0 _) _) _=W
 have e0:Ext w0 W:=by rw [← hW];exact ee
 have o3:W.heap[w0.heap.size]?=some (.cells #[.int .i64 a1,.int .i64 a2] 67 (0,0)):=by rw [← hW];simp (disch:=try exact DI) only [↓PR,QR,simprocAttr]
 have o4:W.heap[w0.heap.size+1]?=some (.cells #[.int .i64 b1,.int .i64 b2] 67 (0,0)):=by rw [← hW];simp (disch:=try exact DI) only [↓PR,QR,simprocAttr]
 have o6:W.heap[w0.heap.size+1+1]?=some (.cells #[.int .i64 0,.int .i64 0] 67 (0,0)):=by rw [← hW];simp (disch:=try exact DI) only [↓PR,QR,simprocAttr]
 clear hW
 refine drawK_intro ?_
 have eD:Ext W W.drew:=(Ext.refl _).wdrew
 unfold n102c2
 simp (disch:=try exact DI) only [↓PR,QR,simprocAttr,(cells_of_heap o3).1,(cells_of_heap o4).1]
 rw [callV_func hg]
 refine zcr (h1 _ (e0.trans eD)) fun w1 e1=>?_
 refine ⟨e1,?_⟩
 rw [callV_func hg]
 refine zcr (h2 _ (e0.trans (eD.trans e1))) fun w2 e2=>?_
 refine ⟨e1.trans e2,?_⟩
 have x6:=(eD.trans (e1.trans e2)).obj o6
 have E2:=e0.trans (eD.trans (e1.trans e2))
 have l6:=(Array.getElem?_eq_some_iff.1 x6).1
 unfold n102c1
 simp (disch:=try exact DI) only [↓PR,QR,simprocAttr,(cells_of_heap x6).1,(cells_of_heap x6).2]
 refine turnK_intro ?_
 simp (disch:=try exact DI) only [↓PR,QR,simprocAttr,(cells_of_heap x6).1]
 exact ⟨by first | trivial | rfl,ee⟩
abbrev planCells (m:MsgD) (fl:Value) (mr:Nat):List Value:=[.string m.name,fl,.map (some mr)]
def lookS (sp:List (ByteArray×Int×Int)) (s:ByteArray):Int×Int:=(lastR sp s).getD (0,0)
abbrev ivL (l:List FieldD) (f:FieldD):Int:=intervalL f.base f.terms (numR l)
abbrev ivH (l:List FieldD) (f:FieldD):Int:=intervalH f.base f.terms (numR l)
section
variable (w0:World) (m:MsgD) (fl tv cv:Value) (mr:Nat) (f:FieldD)
theorem of1_ret (hT:TermsOf w0 tv f.terms) (hC:CasesOf w0 cv f.cases):Ret Pg 101 #[.agg (fieldCells f tv cv).toArray] w0 fun r w'=>r=rangeVal f.bits f.bits∧Ext w0 w':=by
 have ht1:=SliceOf.oneCell hT
 have hc1:=SliceOf.oneCell hC
 refine n113s (R:=retR _) ?_;unfold n113
 simp (disch:=try exact DI) only [↓PR,QR,simprocAttr]
 generalize hW:World.alloc (World.alloc w0 _) _=W
 have e0:Ext w0 W:=by rw [← hW];exact ee
 have o2:W.heap[w0.heap.size+1]?=some (.cells #[.int .i64 0,.int .i64 0] 67 (0,0)):=by rw [← hW];simp (disch:=try exact DI) only [↓PR,QR,simprocAttr]
 clear hW
 refine zcr (same_ret _ f.bits) fun w1 e1=>?_
 have x2:=e1.obj o2
 have E1:=e0.trans e1
 have l2:=(Array.getElem?_eq_some_iff.1 x2).1
 simp (disch:=try exact DI) only [↓PR,QR,simprocAttr,(cells_of_heap x2).1,(cells_of_heap x2).2]
 exact ⟨by first | trivial | rfl,ee⟩
theorem of2_ret (hT:TermsOf w0 tv f.terms) (hC:CasesOf w0 cv f.cases) (hb:0≤f.high∧f.high≤1048576):Ret Pg 104 #[.agg (fieldCells f tv cv).toArray] w0 fun r w'=>r=rangeVal 8 (8*(f.high+1))∧Ext w0 w':=by
 have ht1:=SliceOf.oneCell hT
 have hc1:=SliceOf.oneCell hC
 refine n114s (R:=retR _) ?_;unfold n114
 simp (disch:=try exact DI) only [↓PR,QR,simprocAttr,wrap_ok]
 exact ⟨by first | trivial | rfl,ee⟩
theorem of3_ret (hT:TermsOf w0 tv f.terms) (hC:CasesOf w0 cv f.cases) (hb:0≤f.high∧f.high≤1048576):Ret Pg 105 #[.agg (fieldCells f tv cv).toArray] w0 fun r w'=>r=rangeVal 16 (8*f.high)∧Ext w0 w':=by
 have ht1:=SliceOf.oneCell hT
 have hc1:=SliceOf.oneCell hC
 refine n115s (R:=retR _) ?_;unfold n115
 simp (disch:=try exact DI) only [↓PR,QR,simprocAttr,wrap_ok]
 exact ⟨by first | trivial | rfl,ee⟩
theorem of5_ret (hT:TermsOf w0 tv f.terms) (hC:CasesOf w0 cv f.cases) (hb:0≤f.bits∧f.bits≤1048576):Ret Pg 109 #[.agg (fieldCells f tv cv).toArray] w0 fun r w'=>r=rangeVal 0 (f.bits - 1)∧Ext w0 w':=by
 have ht1:=SliceOf.oneCell hT
 have hc1:=SliceOf.oneCell hC
 refine n117s (R:=retR _) ?_;unfold n117
 simp (disch:=try exact DI) only [↓PR,QR,simprocAttr,wrap_ok]
 exact ⟨by first | trivial | rfl,ee⟩
theorem of4_ret (sp:List (ByteArray×Int×Int)) (p:Nat) (hM:MapOf w0 mr (RP sp)) (hp:w0.heap[p]?=some (.cells (planCells m fl mr).toArray 105 (0,0))) (hT:TermsOf w0 tv f.terms) (hC:CasesOf w0 cv f.cases):Ret Pg 107 #[.agg (fieldCells f tv cv).toArray,.pointer (some ⟨p,0,none⟩)] w0 fun r w'=>r=rangeVal (lookS sp f.of).1 (lookS sp f.of).2∧Ext w0 w':=by
 have ht1:=SliceOf.oneCell hT
 have hc1:=SliceOf.oneCell hC
 have lp:=(Array.getElem?_eq_some_iff.1 hp).1
 refine n116s (R:=retR _) ?_;unfold n116
 simp (disch:=try exact DI) only [↓PR,QR,simprocAttr]
 generalize hW:World.alloc (World.alloc w0 _) _=W
 have e0:Ext w0 W:=by rw [← hW];exact ee
 have o2:W.heap[w0.heap.size]?=some (.cells (fieldCells f tv cv).toArray 38 (0,0)):=by rw [← hW];simp (disch:=try exact DI) only [↓PR,QR,simprocAttr]
 have o3:W.heap[w0.heap.size+1]?=some (.cells #[.int .i64 0,.int .i64 0] 67 (0,0)):=by rw [← hW];simp (disch:=try exact DI) only [↓PR,QR,simprocAttr]
 clear hW
 have hlk:∀ (w:World) (QP:List PanicEntry→World→Prop) (K:Value→World→Prop),Ext W w→opV Pg (Instr.lookup 103 (.map (some mr)) (.string f.of) false) QP w K=K (rangeVal (lookS sp f.of).1 (lookS sp f.of).2) w:=fun w QP K e=>by
  rw [op_lookup1O Tryz.underlying103 Tryz.underlying9 ty67 ((hM.ext e0).ext e),lastOf_RP]
  unfold lookS
  cases lastR sp f.of<;>rfl
 have l3:=(Array.getElem?_eq_some_iff.1 o3).1
 simp (disch:=try exact DI) only [↓PR,QR,simprocAttr,(cells_of_heap hp).1,(cells_of_heap o2).1,hlk W _ _ (Ext.refl W),(cells_of_heap o3).1,(cells_of_heap o3).2]
 exact ⟨by first | trivial | rfl,ee⟩
end
section
variable (w0:World) (m:MsgD) (fl tv cv:Value) (mr:Nat) (f:FieldD)
theorem checkS_ret (hf1:fl.oneCell'=true) (hT:TermsOf w0 tv f.terms) (hC:CasesOf w0 cv f.cases):Ret Pg 110 #[.agg (planCells m fl mr).toArray,.agg (fieldCells f tv cv).toArray] w0 fun r w'=>r=(if f.check=3 then rangeVal 32 32 else rangeVal 16 16)∧Ext w0 w':=by
 have ht1:=SliceOf.oneCell hT
 have hc1:=SliceOf.oneCell hC
 refine n107s (R:=retR _) ?_;unfold n107
 by_cases hk:f.check=3
 · have d:(f.check == 3)=true:=by simp [hk]
   rw [if_pos hk]
   simp (disch:=try exact DI) only [↓PR,QR,simprocAttr,d]
   generalize hW:World.alloc (World.alloc (World.alloc w0 _) _) _=W
   have e0:Ext w0 W:=by rw [← hW];exact ee
   have o2:W.heap[w0.heap.size+1+1]?=some (.cells #[.int .i64 0,.int .i64 0] 67 (0,0)):=by rw [← hW];simp (disch:=try exact DI) only [↓PR,QR,simprocAttr]
   clear hW
   refine zcr (same_ret _ 32) fun w1 e1=>?_
   have x2:=e1.obj o2
   have E1:=e0.trans e1
   have l2:=(Array.getElem?_eq_some_iff.1 x2).1
   simp (disch:=try exact DI) only [↓PR,QR,simprocAttr,(cells_of_heap x2).1,(cells_of_heap x2).2]
   exact ⟨by first | trivial | rfl,ee⟩
 · have d:(f.check == 3)=false:=by simp [hk]
   rw [if_neg hk]
   simp (disch:=try exact DI) only [↓PR,QR,simprocAttr,d]
   generalize hW:World.alloc (World.alloc (World.alloc w0 _) _) _=W
   have e0:Ext w0 W:=by rw [← hW];exact ee
   have o2:W.heap[w0.heap.size+1+1]?=some (.cells #[.int .i64 0,.int .i64 0] 67 (0,0)):=by rw [← hW];simp (disch:=try exact DI) only [↓PR,QR,simprocAttr]
   clear hW
   refine zcr (same_ret _ 16) fun w1 e1=>?_
   have x2:=e1.obj o2
   have E1:=e0.trans e1
   have l2:=(Array.getElem?_eq_some_iff.1 x2).1
   simp (disch:=try exact DI) only [↓PR,QR,simprocAttr,(cells_of_heap x2).1,(cells_of_heap x2).2]
   exact ⟨by first | trivial | rfl,ee⟩
theorem sized_ret (hF:FieldsOf w0 fl m.fields) (hT:TermsOf w0 tv f.terms) (hC:CasesOf w0 cv f.cases) (hb:f.terms.length≤1048576):Ret Pg 133 #[.agg (planCells m fl mr).toArray,.agg (fieldCells f tv cv).toArray] w0 fun r w'=>r=rangeVal (ivL m.fields f) (ivH m.fields f)∧Ext w0 w':=by
 have ht1:=SliceOf.oneCell hT
 have hc1:=SliceOf.oneCell hC
 have hf1:=SliceOf.oneCell hF
 refine n120s (R:=retR _) ?_;unfold n120
 simp (disch:=try exact DI) only [↓PR,QR,simprocAttr]
 generalize hW:World.alloc (World.alloc (World.alloc w0 _) _) _=W
 have e0:Ext w0 W:=by rw [← hW];exact ee
 have o2:W.heap[w0.heap.size]?=some (.cells (planCells m fl mr).toArray 105 (0,0)):=by rw [← hW];simp (disch:=try exact DI) only [↓PR,QR,simprocAttr]
 have o3:W.heap[w0.heap.size+1]?=some (.cells (fieldCells f tv cv).toArray 38 (0,0)):=by rw [← hW];simp (disch:=try exact DI) only [↓PR,QR,simprocAttr]
 have o4:W.heap[w0.heap.size+1+1]?=some (.cells #[.int .i64 0,.int .i64 0] 67 (0,0)):=by rw [← hW];simp (disch:=try exact DI) only [↓PR,QR,simprocAttr]
 clear hW
 refine drawK_intro ?_
 have eD:Ext W W.drew:=(Ext.refl _).wdrew
 have hRg:=fun (w:World) (e:Ext W w)=>Ranges_ret w (.agg #[.string m.name,fl]) m ⟨fl,rfl,hF.ext (e0.trans e)⟩
 have hIv:=fun (w:World) (b:Nat) (e:Ext W w) (hM:MapOf w b (numPairs m.fields))=>Interval_ret w (.agg #[.int .i64 f.base,tv]) f.base f.terms b (numR m.fields) ⟨tv,rfl,hT.ext (e0.trans e)⟩ hb (by rw [← numPairs_RP];exact hM)
 unfold n120c5
 simp (disch:=try exact DI) only [↓PR,QR,simprocAttr,(cells_of_heap o2).1,(cells_of_heap o3).1]
 refine ⟨?_,?_⟩
 · refine callK_ret (hRg _ eD) ?_
   rintro _ w1 ⟨b,rfl,_,hM1,e1⟩
   refine ⟨e1,?_⟩
   unfold n120c3
   refine ⟨?_,?_⟩
   · refine zcr (hIv _ b (eD.trans e1) hM1) fun w2 e2=>?_
     refine ⟨e1.trans e2,?_⟩
     unfold n120c1
     have eX:Ext w2 (w2.alloc (.cells #[.int .i64 (ivL m.fields f),.int .i64 (ivH m.fields f)] 67)):=ee
     have x4:=eX.obj (e2.obj (e1.obj (eD.obj o4)))
     have l4:=(Array.getElem?_eq_some_iff.1 x4).1
     have E2:=eD.trans (e1.trans e2)
     simp (disch:=try exact DI) only [↓PR,QR,simprocAttr,(cells_of_heap x4).1,(cells_of_heap x4).2]
     have E3:Ext W.drew w2:=e1.trans e2
     have E02:Ext w0 w2:=e0.trans E2
     exact ⟨ee,ee,by trivial,ee⟩
   · have eX:Ext w1 (w1.alloc (.cells #[.int .i64 0,.int .i64 0] 67)):=ee
     have oX:=heap_new w1 #[.int .i64 0,.int .i64 0] 67
     have hM2:=hM1.ext eX
     have s1:=(eD.trans e1).size
     simp (disch:=try exact DI) only [↓PR,QR,simprocAttr]
     generalize (w1.alloc (.cells #[.int .i64 0,.int .i64 0] 67))=X at eX oX hM2 ⊢
     generalize w1.heap.size=px at oX s1 ⊢
     refine ⟨e1.trans eX,?_⟩
     unfold n120c2
     refine zcr (hIv _ b (eD.trans (e1.trans eX)) hM2) fun w2 e2=>?_
     have E2:Ext W.drew w2:=e1.trans (eX.trans e2)
     refine ⟨E2,?_⟩
     have x5:=e2.obj oX
     have x4:=e2.obj (eX.obj (e1.obj (eD.obj o4)))
     have l4:=(Array.getElem?_eq_some_iff.1 x4).1
     have l5:=(Array.getElem?_eq_some_iff.1 x5).1
     have l44:=(Array.getElem?_eq_some_iff.1 o4).1
     have n45:px≠w0.heap.size+1+1:=by omega
     have n54:w0.heap.size+1+1≠px:=by omega
     simp (disch:=try exact DI) only [↓PR,QR,simprocAttr,(cells_of_heap x5).1,(cells_of_heap x5).2,(cells_of_heap x4).1,(cells_of_heap x4).2]
     have E02:Ext w0 w2:=e0.trans (eD.trans E2)
     have sD:W.drew.heap.size=W.heap.size:=World.size_drew _
     have s0:=e0.size
     exact ⟨ee,by trivial,ee⟩
 · have eX:Ext W.drew (W.drew.alloc (.cells #[.int .i64 0,.int .i64 0] 67)):=ee
   have oX:=heap_new W.drew #[.int .i64 0,.int .i64 0] 67
   have sD:W.drew.heap.size=W.heap.size:=World.size_drew _
   rw [sD] at oX
   generalize (W.drew.alloc (.cells #[.int .i64 0,.int .i64 0] 67))=X at eX oX ⊢
   refine ⟨eX,?_⟩
   refine callK_ret (hRg _ (eD.trans eX)) ?_
   rintro _ w1 ⟨b,rfl,_,hM1,e1⟩
   refine ⟨eX.trans e1,?_⟩
   unfold n120c4
   refine zcr (hIv _ b (eD.trans (eX.trans e1)) hM1) fun w2 e2=>?_
   have E2:Ext W.drew w2:=eX.trans (e1.trans e2)
   refine ⟨E2,?_⟩
   have x5:=e2.obj (e1.obj oX)
   have x4:=E2.obj (eD.obj o4)
   have l4:=(Array.getElem?_eq_some_iff.1 x4).1
   have l5:=(Array.getElem?_eq_some_iff.1 x5).1
   have l44:=(Array.getElem?_eq_some_iff.1 o4).1
   have n45:W.heap.size≠w0.heap.size+1+1:=by omega
   have n54:w0.heap.size+1+1≠W.heap.size:=by omega
   simp (disch:=try exact DI) only [↓PR,QR,simprocAttr,(cells_of_heap x5).1,(cells_of_heap x5).2,(cells_of_heap x4).1,(cells_of_heap x4).2]
   have E02:Ext w0 w2:=e0.trans (eD.trans E2)
   have s0:=e0.size
   exact ⟨ee,by trivial,ee⟩
end
theorem two_times (w0:World) (a b:Int) (ha:0≤a∧a≤2097152) (hb:0≤b∧b≤1099511627776):Two w0 134 a b (capF (a*b)):=fun w _=>times_ret w a b ha hb
theorem run_look {w:World} {mr:Nat} {sp:List (ByteArray×Int×Int)} (hM:MapOf w mr (RP sp)) (s:ByteArray) (QP:List PanicEntry→World→Prop) (K:Value→World→Prop):opV Pg (Instr.lookup 103 (.map (some mr)) (.string s) false) QP w K=K (rangeVal (lookS sp s).1 (lookS sp s).2) w:=by
 rw [op_lookup1O Tryz.underlying103 Tryz.underlying9 ty67 hM,lastOf_RP]
 unfold lookS
 cases lastR sp s<;>rfl
section
variable (w0:World) (m:MsgD) (fl tv cv:Value) (mr:Nat) (f:FieldD)
theorem bytesS_ret (hF:FieldsOf w0 fl m.fields) (hT:TermsOf w0 tv f.terms) (hC:CasesOf w0 cv f.cases) (hb:f.terms.length≤1048576) (hL:0≤ivL m.fields f∧ivL m.fields f≤2097152) (hH:0≤ivH m.fields f∧ivH m.fields f≤2097152):Ret Pg 103 #[.agg (planCells m fl mr).toArray,.agg (fieldCells f tv cv).toArray] w0 fun r w'=>r=rangeVal (capF (ivL m.fields f*8)) (capF (ivH m.fields f*8))∧Ext w0 w':=by
 have ht1:=SliceOf.oneCell hT
 have hc1:=SliceOf.oneCell hC
 have hf1:=SliceOf.oneCell hF
 refine n106s (R:=retR _) ?_;unfold n106
 simp (disch:=try exact DI) only [↓PR,QR,simprocAttr]
 generalize hW:World.alloc (World.alloc (World.alloc w0 _) _) _=W
 have e0:Ext w0 W:=by rw [← hW];exact ee
 have o4:W.heap[w0.heap.size+1+1]?=some (.cells #[.int .i64 0,.int .i64 0] 67 (0,0)):=by rw [← hW];simp (disch:=try exact DI) only [↓PR,QR,simprocAttr]
 clear hW
 refine zcr (sized_ret W m fl tv cv mr f (hF.ext e0) (hT.ext e0) (hC.ext e0) hb) fun w1 e1=>?_
 refine zcr (same_ret _ 8) fun w2 e2=>?_
 unfold n106c1
 refine zcr (both_ret w2 _ _ 8 8 _ _ _ c134 (two_times _ _ 8 hL (by decide)) (two_times _ _ 8 hH (by decide))) fun w3 e3=>?_
 have x4:=e3.obj (e2.obj (e1.obj o4))
 have E3:=e0.trans (e1.trans (e2.trans e3))
 have l4:=(Array.getElem?_eq_some_iff.1 x4).1
 simp (disch:=try exact DI) only [↓PR,QR,simprocAttr,(cells_of_heap x4).1,(cells_of_heap x4).2]
 exact ⟨by first | trivial | rfl,ee⟩
theorem listS_ret (sp:List (ByteArray×Int×Int)) (hM:MapOf w0 mr (RP sp)) (hF:FieldsOf w0 fl m.fields) (hT:TermsOf w0 tv f.terms) (hC:CasesOf w0 cv f.cases) (hb:f.terms.length≤1048576) (hL:0≤ivL m.fields f∧ivL m.fields f≤2097152) (hH:0≤ivH m.fields f∧ivH m.fields f≤2097152)
 (h1:0≤(lookS sp f.of).1∧(lookS sp f.of).1≤1099511627776) (h2:0≤(lookS sp f.of).2∧(lookS sp f.of).2≤1099511627776):Ret Pg 106 #[.agg (planCells m fl mr).toArray,.agg (fieldCells f tv cv).toArray] w0 fun r w'=>r=rangeVal (capF (ivL m.fields f*(lookS sp f.of).1)) (capF (ivH m.fields f*(lookS sp f.of).2))∧Ext w0 w':=by
 have ht1:=SliceOf.oneCell hT
 have hc1:=SliceOf.oneCell hC
 have hf1:=SliceOf.oneCell hF
 refine n109s (R:=retR _) ?_;unfold n109
 simp (disch:=try exact DI) only [↓PR,QR,simprocAttr]
 generalize hW:World.alloc (World.alloc (World.alloc w0 _) _) _=W
 have e0:Ext w0 W:=by rw [← hW];exact ee
 have o2:W.heap[w0.heap.size]?=some (.cells (planCells m fl mr).toArray 105 (0,0)):=by rw [← hW];simp (disch:=try exact DI) only [↓PR,QR,simprocAttr]
 have o3:W.heap[w0.heap.size+1]?=some (.cells (fieldCells f tv cv).toArray 38 (0,0)):=by rw [← hW];simp (disch:=try exact DI) only [↓PR,QR,simprocAttr]
 have o4:W.heap[w0.heap.size+1+1]?=some (.cells #[.int .i64 0,.int .i64 0] 67 (0,0)):=by rw [← hW];simp (disch:=try exact DI) only [↓PR,QR,simprocAttr]
 clear hW
 refine drawK_intro ?_
 have eD:Ext W W.drew:=(Ext.refl _).wdrew
 have qlk:∀ K:Value→Prop,qV Pg (EC W.drew) (Instr.lookup 103 (.map (some mr)) (.string f.of) false) K=K (rangeVal (lookS sp f.of).1 (lookS sp f.of).2):=fun K=>qV_eqC fun w' e=>run_of_op fun QP k=>run_look (hM.ext (e0.trans (eD.trans e))) f.of QP k
 unfold n109c2
 simp (disch:=try exact DI) only [↓PR,QR,simprocAttr,(cells_of_heap o2).1,(cells_of_heap o3).1,qlk]
 refine zcr (sized_ret _ m fl tv cv mr f (hF.ext (e0.trans eD)) (hT.ext (e0.trans eD)) (hC.ext (e0.trans eD)) hb) fun w1 e1=>?_
 refine ⟨e1,?_⟩
 unfold n109c1
 refine zcr (both_ret w1 _ _ _ _ _ _ _ c134 (two_times _ _ _ hL h1) (two_times _ _ _ hH h2)) fun w2 e2=>?_
 refine ⟨e1.trans e2,?_⟩
 have E2:=eD.trans (e1.trans e2)
 have x4:=E2.obj o4
 have E3:=e0.trans E2
 have l4:=(Array.getElem?_eq_some_iff.1 x4).1
 simp (disch:=try exact DI) only [↓PR,QR,simprocAttr,(cells_of_heap x4).1,(cells_of_heap x4).2]
 refine turnK_intro ?_
 simp (disch:=try exact DI) only [↓PR,QR,simprocAttr,(cells_of_heap x4).1]
 exact ⟨by first | trivial | rfl,ee⟩
theorem num1_ret (v:Nat) (hv:v < 9223372036854775808):Ret Pg 131 #[.int .i64 (v:Int),.int .i64 8] w0 fun r w'=>r = .int .i64 (((groupsP v:Nat):Int)*8)∧Ext w0 w':=by
 have hb:=groupsP_le 9 v (Nat.lt_of_lt_of_le hv (by decide)) (by decide)
 refine n111s (R:=retR _) ?_;unfold n111
 refine zcr (groups_ret w0 v hv) fun w1 e1=>?_
 simp (disch:=try exact DI) only [↓PR,QR,simprocAttr,wrap_ok]
 exact ⟨by first | trivial | rfl,ee⟩
end
section
variable {w0:World} {m:MsgD} {fl tv cv:Value} {mr:Nat} {f:FieldD}
theorem num_c1 {w:World} {p3 p4 p5:Nat} {a b:Int} (h3:w.heap[p3]?=some (.cells (fieldCells f tv cv).toArray 38 (0,0))) (h4:w.heap[p4]?=some (.cells #[.int .i64 0,.int .i64 0] 67 (0,0))) (h5:w.heap[p5]?=some (.cells #[.int .i64 a,.int .i64 b] 67 (0,0))) (hne:p4≠p5) (e:Ext w0 w) (g4:w0.heap.size≤p4) (g5:w0.heap.size≤p5) :
 n110c1 (.pointer (some ⟨p3,0,none⟩)) (.pointer (some ⟨p4,0,none⟩)) (.pointer (some ⟨p5,0,none⟩)) (retR fun r w'=>r=rangeVal a (if f.loose then 40 else b)∧Ext w0 w') w:=by
 have hne':p5≠p4:=fun h=>hne h.symm
 have l4:=(Array.getElem?_eq_some_iff.1 h4).1
 have l5:=(Array.getElem?_eq_some_iff.1 h5).1
 unfold n110c1
 cases hl:f.loose with
 | true =>
  have y5:(w.setCell ⟨p5,1,none⟩ (.int .i64 40)).heap[p5]?=some (.cells #[.int .i64 a,.int .i64 40] 67 (0,0)):=by simpa using heap_set (o:=1) h5 (.int .i64 40)
  have y4:=(Only.setCell w p5 1 (.int .i64 40) p4 hne).trans h4
  have E:Ext w0 (w.setCell ⟨p5,1,none⟩ (.int .i64 40)):=ee
  simp (disch:=try exact DI) only [↓PR,QR,simprocAttr,(cells_of_heap h3).1,hl,(cells_of_heap h5).1,(cells_of_heap h5).2]
  generalize (w.setCell ⟨p5,1,none⟩ (.int .i64 40))=X at y5 y4 E ⊢
  have l4':=(Array.getElem?_eq_some_iff.1 y4).1
  simp (disch:=try exact DI) only [↓PR,QR,simprocAttr,(cells_of_heap y5).1,(cells_of_heap h4).1,(cells_of_heap y4).1,(cells_of_heap y4).2]
  exact ⟨by first | trivial | rfl,ee⟩
 | false =>
  simp (disch:=try exact DI) only [↓PR,QR,simprocAttr,(cells_of_heap h3).1,hl,(cells_of_heap h5).1,(cells_of_heap h4).1,(cells_of_heap h4).2]
  exact ⟨by first | trivial | rfl,ee⟩
theorem numberS_ret (hf1:fl.oneCell'=true) (hT:TermsOf w0 tv f.terms) (hC:CasesOf w0 cv f.cases) (h1:0≤f.low∧f.low < 9223372036854775808) (h2:0≤f.high∧f.high < 9223372036854775808):Ret Pg 102 #[.agg (planCells m fl mr).toArray,.agg (fieldCells f tv cv).toArray] w0 fun r w'=>r=rangeVal ((groupsP f.low.toNat:Nat)*8) (if f.loose then 40 else (groupsP f.high.toNat:Nat)*8)∧Ext w0 w':=by
 have ht1:=SliceOf.oneCell hT
 have hc1:=SliceOf.oneCell hC
 refine n110s (R:=retR _) ?_;unfold n110
 simp (disch:=try exact DI) only [↓PR,QR,simprocAttr]
 generalize hW:World.alloc (World.alloc (World.alloc w0 _) _) _=W
 have e0:Ext w0 W:=by rw [← hW];exact ee
 have o3:W.heap[w0.heap.size+1]?=some (.cells (fieldCells f tv cv).toArray 38 (0,0)):=by rw [← hW];simp (disch:=try exact DI) only [↓PR,QR,simprocAttr]
 have o4:W.heap[w0.heap.size+1+1]?=some (.cells #[.int .i64 0,.int .i64 0] 67 (0,0)):=by rw [← hW];simp (disch:=try exact DI) only [↓PR,QR,simprocAttr]
 clear hW
 have s0:=e0.size
 have l4:=(Array.getElem?_eq_some_iff.1 o4).1
 refine drawK_intro ?_
 have eD:Ext W W.drew:=(Ext.refl _).wdrew
 have sD:W.drew.heap.size=W.heap.size:=World.size_drew _
 have h1':((f.low.toNat:Nat):Int)=f.low:=by omega
 have h2':((f.high.toNat:Nat):Int)=f.high:=by omega
 have t1:∀ w,Two w 131 f.low 8 ((groupsP f.low.toNat:Nat)*8):=fun w w' _=>by have:=num1_ret w' f.low.toNat (by omega);rwa [h1'] at this
 have t2:∀ w,Two w 131 f.high 8 ((groupsP f.high.toNat:Nat)*8):=fun w w' _=>by have:=num1_ret w' f.high.toNat (by omega);rwa [h2'] at this
 have both:=fun w=>both_ret w f.low f.high 8 8 _ _ _ c131 (t1 w) (t2 w)
 clear t1 t2
 generalize (((groupsP f.low.toNat:Nat):Int)*8)=A at both ⊢
 generalize (((groupsP f.high.toNat:Nat):Int)*8)=B at both ⊢
 have st:∀ (w:World) (p:Nat),Ext W.drew w→W.heap.size≤p→w.heap[p]?=some (.cells #[.int .i64 0,.int .i64 0] 67 (0,0))→opU Pg (Instr.storeAt 67 (.pointer (some ⟨p,0,none⟩)) (rangeVal A B)) (panK (retR fun r w'=>r=rangeVal A (if f.loose then 40 else B)∧Ext w0 w')) w fun w=>turnK w fun C w=>n110c1 (.pointer (some ⟨w0.heap.size+1,0,none⟩)) (.pointer (some ⟨w0.heap.size+1+1,0,none⟩)) (.pointer (some ⟨p,0,none⟩)) (retR fun r w'=>r=rangeVal A (if f.loose then 40 else B)∧Ext w0 w') w:=by
  intro w p e hp hh
  simp (disch:=try exact DI) only [↓PR,QR,simprocAttr,(cells_of_heap hh).1,(cells_of_heap hh).2]
  refine turnK_intro ?_
  have y5:((w.setCell ⟨p,0,none⟩ (.int .i64 A)).setCell ⟨p,1,none⟩ (.int .i64 B)).heap[p]?=some (.cells #[.int .i64 A,.int .i64 B] 67 (0,0)):=by simpa using heap_set (o:=1) (heap_set (o:=0) hh (.int .i64 A)) (.int .i64 B)
  have only:∀ q,q≠p→((w.setCell ⟨p,0,none⟩ (.int .i64 A)).setCell ⟨p,1,none⟩ (.int .i64 B)).heap[q]?=w.heap[q]?:=fun q hq=>(Only.setCell _ p 1 (.int .i64 B) q hq).trans (Only.setCell w p 0 (.int .i64 A) q hq)
  have E:Ext w0 ((w.setCell ⟨p,0,none⟩ (.int .i64 A)).setCell ⟨p,1,none⟩ (.int .i64 B)):=((e0.trans (eD.trans e)).setCell (p:=⟨p,0,none⟩) (by show w0.heap.size≤p;omega) _).setCell (p:=⟨p,1,none⟩) (by show w0.heap.size≤p;omega) _
  exact num_c1 ((only _ (by omega)).trans (e.obj (eD.obj o3))) ((only _ (by omega)).trans (e.obj (eD.obj o4))) y5 (by omega) E (by omega) (by omega)
 unfold n110c4
 simp (disch:=try exact DI) only [↓PR,QR,simprocAttr,(cells_of_heap o3).1]
 repeat rw [World.size_alloc]
 refine ⟨?_,?_⟩
 · refine zcr (same_ret _ 8) fun w1 e1=>?_
   refine ⟨e1,?_⟩
   unfold n110c2
   refine ⟨?_,?_⟩
   · refine zcr (both _) fun w2 e2=>?_
     have E2:=e1.trans e2
     have s2:=E2.size
     refine ⟨E2,?_⟩
     have eX:Ext w2 (w2.alloc (.cells #[.int .i64 0,.int .i64 0] 67)):=ee
     have oX:=heap_new w2 #[.int .i64 0,.int .i64 0] 67
     rw [op_alloc ty67]
     refine ⟨E2.trans eX,?_⟩
     exact st _ _ (E2.trans eX) (by omega) oX
   · have eX:Ext w1 (w1.alloc (.cells #[.int .i64 0,.int .i64 0] 67)):=ee
     have oX:=heap_new w1 #[.int .i64 0,.int .i64 0] 67
     have s1:=e1.size
     rw [op_alloc ty67]
     refine ⟨e1.trans eX,?_⟩
     refine zcr (both _) fun w2 e2=>?_
     refine ⟨e1.trans (eX.trans e2),?_⟩
     exact st _ _ (e1.trans (eX.trans e2)) (by omega) (e2.obj oX)
 · have eX:Ext W.drew (W.drew.alloc (.cells #[.int .i64 0,.int .i64 0] 67)):=ee
   have oX:=heap_new W.drew #[.int .i64 0,.int .i64 0] 67
   refine ⟨eX,?_⟩
   refine zcr (same_ret _ 8) fun w1 e1=>?_
   unfold n110c3
   refine ⟨eX.trans e1,?_⟩
   refine zcr (both _) fun w2 e2=>?_
   refine ⟨eX.trans (e1.trans e2),?_⟩
   have sD2:(drew W).heap.size=W.heap.size:=sD
   exact st _ _ (eX.trans (e1.trans e2)) (by omega) (e2.obj (e1.obj oX))
def minI (a b:Int):Int:=if b < a then b else a
def stepC (sp:List (ByteArray×Int×Int)) (o:Int×Int) (c:CaseD):Int×Int:=(minI o.1 (lookS sp c.of).1,maxI o.2 (lookS sp c.of).2)
def choiceS (sp:List (ByteArray×Int×Int)) (l:List CaseD):Int×Int:=match l with
 | []=>(0,0)
 | c::_=>l.foldl (stepC sp) (lookS sp c.of)
theorem choiceF_ret (sp:List (ByteArray×Int×Int)) (hM:MapOf w0 mr (RP sp)) (hf1:fl.oneCell'=true) (hT:TermsOf w0 tv f.terms) (hC:CasesOf w0 cv f.cases) (hne:f.cases≠[]):Ret Pg 108 #[.agg (planCells m fl mr).toArray,.agg (fieldCells f tv cv).toArray] w0 fun r w'=>r=rangeVal (choiceS sp f.cases).1 (choiceS sp f.cases).2∧Ext w0 w':=by
 have ht1:=SliceOf.oneCell hT
 have hc1:=SliceOf.oneCell hC
 obtain ⟨A,c,rfl,hlc,hcm,hlm,hel⟩:=SliceOf.open hC
 obtain ⟨c0,hc0⟩:∃ c0,f.cases[0]?=some c0:=by
  cases hh:f.cases with
  | nil=>exact absurd hh hne
  | cons a l=>exact ⟨a,rfl⟩
 have hch:choiceS sp f.cases=f.cases.foldl (stepC sp) (lookS sp c0.of):=by
  cases hh:f.cases with
  | nil=>exact absurd hh hne
  | cons a l=>rw [hh] at hc0;injection hc0 with hc0;subst hc0;rfl
 have hl0:0 < f.cases.length:=(List.getElem?_eq_some_iff.1 hc0).1
 obtain ⟨b,o,cs0,rfl,_,hA0,rfl⟩:=hel 0 c0 hc0
 rw [Nat.zero_mul,Nat.add_zero] at hA0
 refine n108s (R:=retR _) ?_;unfold n108
 simp (disch:=try exact DI) only [↓PR,QR,simprocAttr]
 generalize hW:World.alloc (World.alloc (World.alloc w0 _) _) _=W
 have e0:Ext w0 W:=by rw [← hW];exact ee
 have o2:W.heap[w0.heap.size]?=some (.cells (planCells m fl mr).toArray 105 (0,0)):=by rw [← hW];simp (disch:=try exact DI) only [↓PR,QR,simprocAttr]
 have o3:W.heap[w0.heap.size+1]?=some (.cells (fieldCells f tv (.slice (some ⟨b,o,none⟩) f.cases.length c)).toArray 38 (0,0)):=by rw [← hW];simp (disch:=try exact DI) only [↓PR,QR,simprocAttr]
 have o4:W.heap[w0.heap.size+1+1]?=some (.cells #[.int .i64 0,.int .i64 0] 67 (0,0)):=by rw [← hW];simp (disch:=try exact DI) only [↓PR,QR,simprocAttr]
 clear hW
 have s0:=e0.size
 have l4:=(Array.getElem?_eq_some_iff.1 o4).1
 refine drawK_intro ?_
 have eD:Ext W W.drew:=(Ext.refl _).wdrew
 have sD:W.drew.heap.size=W.heap.size:=World.size_drew _
 have qlk:∀ K:Value→Prop,qV Pg (EC W.drew) (Instr.lookup 103 (.map (some mr)) (.string c0.of) false) K=K (rangeVal (lookS sp c0.of).1 (lookS sp c0.of).2):=fun K=>qV_eqC fun w' e=>run_of_op fun QP k=>run_look (hM.ext (e0.trans (eD.trans e))) c0.of QP k
 have qix:∀ K:Value→Prop,qV Pg (EC W.drew) (Instr.indexAt 36 (.slice (some ⟨b,o,none⟩) f.cases.length c) (.int .i64 0)) K=K (.pointer (some ⟨b,o,none⟩)):=fun K=>by
  have:=qV_of (C:=EC W.drew) (k:=K) fun QP w' k=>op_indexN (QP:=QP) (w:=w') (k:=k) Tryz.underlying36 ty116 b o f.cases.length c .i64 0 hl0
  rwa [Nat.zero_mul,Nat.add_zero] at this
 unfold n108c4
 simp (disch:=try exact DI) only [↓PR,QR,simprocAttr,(cells_of_heap o2).1,(cells_of_heap o3).1,qix,qlk,hA0.c3 (e0.trans eD),hA0.c3 e0,(hA0.c3 (Ext.refl w0))]
 repeat rw [World.size_alloc]
 refine ⟨ee,turnK_intro ?_⟩
 have o5:(W.drew.alloc (.cells #[.int .i64 (lookS sp c0.of).1,.int .i64 (lookS sp c0.of).2] 67)).heap[W.heap.size]?=some (.cells #[.int .i64 (lookS sp c0.of).1,.int .i64 (lookS sp c0.of).2] 67 (0,0)):=by have:=heap_new W.drew #[.int .i64 (lookS sp c0.of).1,.int .i64 (lookS sp c0.of).2] 67;rwa [sD] at this
 have eX:Ext W (W.drew.alloc (.cells #[.int .i64 (lookS sp c0.of).1,.int .i64 (lookS sp c0.of).2] 67)):=eD.trans ee
 have sD2:(drew W).heap.size=W.heap.size:=sD
 rw [sD2]
 generalize (W.drew.alloc (.cells #[.int .i64 (lookS sp c0.of).1,.int .i64 (lookS sp c0.of).2] 67))=X at o5 eX ⊢
 generalize hp5:W.heap.size=p5 at o5 l4 ⊢
 have n45:w0.heap.size+1+1≠p5:=by omega
 unfold n108c3
 simp (disch:=try exact DI) only [↓PR,QR,simprocAttr,(cells_of_heap (eX.obj o3)).1]
 refine loop1_intro (fun i w=>∃ k:Nat,i = .int .i64 k∧k≤f.cases.length∧Ext W w∧w.heap[p5]?=some (.cells #[.int .i64 ((f.cases.take k).foldl (stepC sp) (lookS sp c0.of)).1,.int .i64 ((f.cases.take k).foldl (stepC sp) (lookS sp c0.of)).2] 67 (0,0))) (fun i _=>f.cases.length - (intOf i).toNat) ⟨0,rfl,by omega,eX,o5⟩ ?_
 rintro _ w ⟨k,rfl,hk,e,x5⟩
 have E:=e0.trans e
 have l5:=(Array.getElem?_eq_some_iff.1 x5).1
 unfold n108c2
 rcases drop_cases hk with ⟨x,hx,hd,hlt,hdec⟩ | ⟨hk,hd,hdec⟩
 · obtain ⟨b',o',cs,hbo,_,hA,rfl⟩:=hel k x hx
   injection hbo with hbo
   injection hbo with hb1 hb2
   subst hb1 hb2
   have hst:(f.cases.take (k+1)).foldl (stepC sp) (lookS sp c0.of)=stepC sp ((f.cases.take k).foldl (stepC sp) (lookS sp c0.of)) x:=by rw [take_snoc hx,List.foldl_append];rfl
   generalize (f.cases.take k).foldl (stepC sp) (lookS sp c0.of)=z at x5 hst
   simp (disch:=try exact DI) only [↓PR,QR,simprocAttr,hdec]
   unfold n108c1
   have eA:Ext w (w.alloc (.cells (caseCells x).toArray 116)):=ee
   have hlk:=run_look ((hM.ext E).ext eA) x.of
   try unfold X0
   try unfold L0
   rw [op_indexN Tryz.underlying36 ty116 _ _ _ _ _ k hlt,op_load ((hA.ext E).loads ty116 rfl)]
   simp (disch:=try exact DI) only [↓PR,QR,simprocAttr,(cells_of_heap (e.obj o2)).1,hlk,(cells_of_heap x5).1,(cells_of_heap x5).2]
   refine ⟨⟨k+1,rfl,by omega,ee,?_⟩,meas_lt hlt⟩
   rw [hst]
   simpa [stepC,minI,maxI] using heap_set (o:=1) (heap_set (o:=0) x5 (.int .i64 (minI z.1 (lookS sp x.of).1))) (.int .i64 (maxI z.2 (lookS sp x.of).2))
 · subst hk
   rw [List.take_length,← hch] at x5
   have x4:=e.obj o4
   have l44:=(Array.getElem?_eq_some_iff.1 x4).1
   simp (disch:=try exact DI) only [↓PR,QR,simprocAttr,hdec,(cells_of_heap x5).1,(cells_of_heap x4).1,(cells_of_heap x4).2]
   exact ⟨by first | trivial | rfl,ee⟩
end
end Go.Proofs.YtdfhjlggcdemhaaGreat
