/-
  Lemmas for the claim.
-/
import Derived.Test.YtgalpdihjbinjaaGreatDoorXe3
set_option linter.all false
set_option maxHeartbeats 40000000
set_option maxRecDepth 100000
namespace Go.Proofs.YtgalpdihjbinjaaGreatDoor
open Sw
open Go.RowKit (intOf Below)
theorem ContainsFunc_Field_ret (w0:World) (v:Value) (l:List FieldD) (g:FuncId) (caps:Array Value) (p:FieldD→Bool) (hs:FieldsOf w0 v l) (hg:Callable Pg g) (hc:Tests w0 FieldVal g caps p l) :
 Ret Pg 250 #[v,.func (.func g) #[] caps] w0 fun r w'=>r = .bool (l.any p)∧Ext w0 w':=by
 refine n117s (R:=retR _) ?_;unfold n117
 refine callK_ret (IndexFunc_Field_ret _ _ l g caps p hs hg hc) ?_
 rintro r w' ⟨rfl,e⟩
 refine Qg ?_
 exact ⟨by rw [idx_neg],e⟩
def taggedP (tag:ByteArray) (o:FieldD):Bool:=o.kind == 9&&decide (o.tag=tag)
theorem casesS1_ret (w0:World) (v:Value) (o f:FieldD) (pb:Nat) (tv cv:Value) (hv:FieldVal w0 v o) (hp:w0.heap[pb]?=some (.cells (fieldCells f tv cv).toArray 123 (0,0))) :
 Ret Pg 251 #[v,.pointer (some ⟨pb,0,none⟩)] w0 fun r w'=>r = .bool (taggedP f.tag o)∧Ext w0 w':=by
 obtain ⟨tv',cv',rfl,hT,hC,ht1,hc1⟩:=hv.op
 have hlt:=(Qk hp).1
 refine n59s (R:=retR _) ?_;unfold n59
 simp (disch:=try exact DI) only [↓PR,QR,simprocAttr,Sw.joinK_eq,(cells_of_heap hp).1]
 exact ⟨by first | trivial | rfl,ee⟩
def casesL (hi:Int) (deps:List (ByteArray×Value)):Int→List CaseD→Int
 | _,[]=>0
 | low,x::xs=>orC (withinC hi low [x.low,x.high]) (orC (needC (lastOf deps x.of).isSome 8) (casesL hi deps (IntKind.i64.wrap (x.high+1)) xs))
def casesC (bef:List FieldD) (deps:List (ByteArray×Value)) (f:FieldD):Int :=
 orC (needC ((lastR (numR bef) f.tag).isSome&&!bef.any (taggedP f.tag)) 8) (orC (needC (decide (1≤(f.cases.length:Int))&&decide ((f.cases.length:Int)≤40)) 3) (casesL (((lastR (numR bef) f.tag).getD (0,0)).2) deps (((lastR (numR bef) f.tag).getD (0,0)).1) f.cases))
section
variable {w0:World} {cb md ms:Nat} {deps strs:List (ByteArray×Value)} {at_ fld:Int} {fs:List FieldD}
theorem cases_tail {a0:World} (e00:Ext a0 w0) (h:Chk w0 cb md ms deps strs at_ fld fs) (pf p4:Nat) (f:FieldD) (tv cv:Value) (lo hi:Int) (hC:CasesOf w0 cv f.cases) (o3:w0.heap[pf]?=some (.cells (fieldCells f tv cv).toArray 123 (0,0))) (o4:w0.heap[p4]?=some (.cells #[.int .i64 lo,.int .i64 hi] 300 (0,0))) :
 n58c4 (.pointer (some ⟨cb,0,none⟩)) (.pointer (some ⟨pf,0,none⟩)) (.pointer (some ⟨p4,0,none⟩)) (flwR a0 at_ fld (casesL hi deps lo f.cases)) w0:=by
 obtain ⟨A,c,rfl,hlc,hcm,hlm,hel⟩:=SliceOf.open hC
 simp (disch:=try exact DI) only [↓PR,QR,simprocAttr,↓n58c1,↓n58c2,↓n58c3,↓n58c4,↓n58c5,↓n58c6,↓n58c7,↓n58c8,↓n58c9,↓n58c10,↓n58c11,↓n58c12,↓n58c13,(cells_of_heap o3).1,(cells_of_heap o4).1]
 refine loop2_intro (fun a0 a1 w=>∃ (k:Nat) (n:Int),a0 = .int .i64 n∧a1 = .int .i64 (k:Int)∧k≤f.cases.length∧Ext w0 w∧casesL hi deps n (f.cases.drop k)=casesL hi deps lo f.cases) (fun a0 a1 _=>f.cases.length - (intOf a1).toNat) ⟨0,lo,rfl,rfl,Nat.zero_le _,ee,rfl⟩ ?_
 rintro _ _ w ⟨k,n,rfl,rfl,hk,e,hI⟩
 have se:=e.size
 rcases drop_cases hk with ⟨x,hx,hd,hlt,hdec⟩ | ⟨hk,hd,hdec⟩
 · obtain ⟨b,o,cs,rfl,hl,hA,rfl⟩:=hel k x hx
   have l4:p4 < w.heap.size:=(Qk (e.obj o4)).1
   rw [hd] at hI
   simp only [casesL] at hI
   simp (disch:=try exact DI) only [↓PR,QR,simprocAttr,↓n58c1,↓n58c2,↓n58c3,↓n58c4,↓n58c5,↓n58c6,↓n58c7,↓n58c8,↓n58c9,↓n58c10,↓n58c11,↓n58c12,↓n58c13,hdec,hA.c3,(cells_of_heap (e.obj o4)).1]
   generalize hW:World.alloc (World.alloc w _) _=W
   have eW:Ext w W:=by rw [← hW];exact ee
   have o9:W.heap[w.heap.size]?=some (.cells #[.int .i64 x.low,.int .i64 x.high,.string x.of] 213 (0,0)):=by rw [← hW];exact Qb
   have hIn:IntsOf W (.slice (some ⟨w.heap.size+1,0,none⟩) 2 2) [x.low,x.high]:=by rw [← hW];exact ints2 (by simp only [World.size_alloc]) _ _ _
   clear hW
   refine callK_flw (within_flw (h.ext (e.trans eW)) n hi _ _ hIn) (fun w1 e1 h0=>?_) (fun w1 e1 h0=>?_)
   · rw [h0,orC_zero] at hI
     have er1:=eW.trans e1
     simp (disch:=try exact DI) only [↓PR,QR,simprocAttr,↓n58c1,↓n58c2,↓n58c3,↓n58c4,↓n58c5,↓n58c6,↓n58c7,↓n58c8,↓n58c9,↓n58c10,↓n58c11,↓n58c12,↓n58c13,(cells_of_heap (e1.obj o9)).1]
     refine callK_flw (refer_flw (h.ext (e.trans er1)) x.of) (fun w2 e2 h0=>?_) (fun w2 e2 h0=>?_)
     · rw [h0,orC_zero] at hI
       simp (disch:=try exact DI) only [↓PR,QR,simprocAttr,↓n58c1,↓n58c2,↓n58c3,↓n58c4,↓n58c5,↓n58c6,↓n58c7,↓n58c8,↓n58c9,↓n58c10,↓n58c11,↓n58c12,↓n58c13,(cells_of_heap ((e1.trans e2).obj o9)).1]
       exact ⟨⟨k+1,_,rfl,rfl,by omega,ee,hI⟩,meas_lt (kd := .i64) hlt⟩
     · rw [orC_ne h0] at hI
       exact flwR_pan (e00.trans (e.trans (er1.trans e2))) hI.symm h0
   · rw [orC_ne h0] at hI
     exact flwR_pan (e00.trans (e.trans (eW.trans e1))) hI.symm h0
 · subst hk
   simp (disch:=try exact DI) only [↓PR,QR,simprocAttr,↓n58c1,↓n58c2,↓n58c3,↓n58c4,↓n58c5,↓n58c6,↓n58c7,↓n58c8,↓n58c9,↓n58c10,↓n58c11,↓n58c12,↓n58c13,hdec]
   rw [hd] at hI
   exact flwR_ret (e00.trans e) hI.symm
theorem cases_mid {a0:World} (e00:Ext a0 w0) (h:Chk w0 cb md ms deps strs at_ fld fs) (i:Nat) (hi:fld=i) (hlt:i < fs.length) (pf p4:Nat) (f:FieldD) (tv cv:Value) (lo hi':Int) (b:Bool) (hC:CasesOf w0 cv f.cases) (o3:w0.heap[pf]?=some (.cells (fieldCells f tv cv).toArray 123 (0,0))) (o4:w0.heap[p4]?=some (.cells #[.int .i64 lo,.int .i64 hi'] 300 (0,0)))
 (hb:b=(lastR (numR (fs.take i)) f.tag).isSome) (hlo:b=true→lo=((lastR (numR (fs.take i)) f.tag).getD (0,0)).1∧hi'=((lastR (numR (fs.take i)) f.tag).getD (0,0)).2) :
 n58c7 (.pointer (some ⟨cb,0,none⟩)) (.pointer (some ⟨pf,0,none⟩)) (.pointer (some ⟨p4,0,none⟩)) (.bool b) (flwR a0 at_ fld (casesC (fs.take i) deps f)) w0:=by
 unfold n58c7
 refine callK_ret (before_ret h i hi hlt) ?_
 rintro bv w1 ⟨hB,e1⟩
 refine Qf ?_
 refine callK_ret (ContainsFunc_Field_ret _ _ _ _ _ (taggedP f.tag) hB c251 ?_) ?_
 · intro w v o _ e hv
   exact casesS1_ret w v o f pf tv cv hv ((e1.trans e).obj o3)
 rintro _ w2 ⟨rfl,e2⟩
 have e12:=e1.trans e2
 simp (disch:=try exact DI) only [↓PR,QR,simprocAttr,↓n58c6]
 unfold casesC
 refine callK_flw (need_flw (h.ext e12) _ 8 Qj) (fun w3 e3 h0=>?_) (fun w3 e3 h0=>?_)
 · rw [← hb,h0,orC_zero]
   have hbt:b=true:=by
    cases b with
    | true=>rfl
    | false=>exact absurd h0 (by simp [needC])
   obtain ⟨h1,h2⟩:=hlo hbt
   rw [← h1,← h2]
   have e13:=e12.trans e3
   obtain ⟨A,c,rfl,_⟩:=SliceOf.open hC
   simp (disch:=try exact DI) only [↓PR,QR,simprocAttr,↓n58c5,(cells_of_heap (e13.obj o3)).1]
   refine callK_flw (need_flw (h.ext e13) _ 3 Qj) (fun w4 e4 h0=>?_) (fun w4 e4 h0=>?_)
   · rw [h0,orC_zero]
     have e14:=e13.trans e4
     exact cases_tail (e00.trans e14) (h.ext e14) pf p4 f tv _ lo hi' (CasesOf.ext hC e14) (e14.obj o3) (e14.obj o4)
   · rw [orC_ne h0]
     exact flwR_pan (e00.trans (e13.trans e4)) rfl h0
 · rw [← hb,orC_ne h0]
   exact flwR_pan (e00.trans (e12.trans e3)) rfl h0
theorem cases_flw (h:Chk w0 cb md ms deps strs at_ fld fs) (i:Nat) (hi:fld=i) (hlt:i < fs.length) (v:Value) (f:FieldD) (hf:FieldVal w0 v f):Calls Pg 232 #[.pointer (some ⟨cb,0,none⟩),v] w0 (flwR w0 at_ fld (casesC (fs.take i) deps f)):=by
 obtain ⟨tv,cv,rfl,hT,hC,ht1,hc1⟩:=hf.op
 refine n58s ?_;unfold n58
 refine Qf ?_
 generalize hW:World.alloc w0 _=W
 have e0:Ext w0 W:=by rw [← hW];exact ee
 have o3:W.heap[w0.heap.size]?=some (.cells (fieldCells f tv cv).toArray 123 (0,0)):=by rw [← hW];exact Qb
 clear hW
 refine drawK_intro ?_
 simp (disch:=try exact DI) only [↓PR,QR,simprocAttr,↓n58c13,(cells_of_heap o3).1]
 have key:∀ w' p4 b lo hi',Ext W w'→w'.heap[p4]?=some (.cells #[.int .i64 lo,.int .i64 hi'] 300 (0,0))→b=(lastR (numR (fs.take i)) f.tag).isSome→(b=true→lo=((lastR (numR (fs.take i)) f.tag).getD (0,0)).1∧hi'=((lastR (numR (fs.take i)) f.tag).getD (0,0)).2) →
  n58c7 (.pointer (some ⟨cb,0,none⟩)) (.pointer (some ⟨w0.heap.size,0,none⟩)) (.pointer (some ⟨p4,0,none⟩)) (.bool b) (flwR w0 at_ fld (casesC (fs.take i) deps f)) w':=by
  intro w' p4 b lo hi' e o4 hb hlo
  exact cases_mid (e0.trans e) (h.ext (e0.trans e)) i hi hlt _ p4 f tv cv lo hi' b (CasesOf.ext hC (e0.trans e)) (e.obj o3) o4 hb hlo
 have eD:Ext W W.drew:=(Ext.refl W).wdrew
 have fin9:∀ (w2:World) (m p4:Nat) (u0 u1:Value),Ext W.drew w2→MapOf w2 m (RP (numR (fs.take i)))→w2.heap[p4]?=some (.cells #[u0,u1] 300 (0,0))→W.heap.size≤p4 →
  n58c9 (.pointer (some ⟨p4,0,none⟩)) (.map (some m)) (.string f.tag) (KL W.drew m (RP (numR (fs.take i)))) (fun t4 t5 w=>n58c7 (.pointer (some ⟨cb,0,none⟩)) (.pointer (some ⟨w0.heap.size,0,none⟩)) t4 t5 (flwR w0 at_ fld (casesC (fs.take i) deps f)) w) (flwR w0 at_ fld (casesC (fs.take i) deps f)) w2:=by
  intro w2 m p4 u0 u1 e2 hM o4 hp4
  haveI:ClassNe (KL W.drew m (RP (numR (fs.take i)))):=⟨⟨w2,e2,hM⟩⟩
  unfold n58c9
  rw [qV_lookupKL Tryz.underlying296 Tryz.underlying9 ty300 ⟨w2,e2,hM⟩,lastOf_RP]
  have hfin:∀ lo hi' b,b=(lastR (numR (fs.take i)) f.tag).isSome→(b=true→lo=((lastR (numR (fs.take i)) f.tag).getD (0,0)).1∧hi'=((lastR (numR (fs.take i)) f.tag).getD (0,0)).2) →
   KL W.drew m (RP (numR (fs.take i))) ((w2.setCell ⟨p4,0,none⟩ (.int .i64 lo)).setCell ⟨p4,1,none⟩ (.int .i64 hi'))∧n58c7 (.pointer (some ⟨cb,0,none⟩)) (.pointer (some ⟨w0.heap.size,0,none⟩)) (.pointer (some ⟨p4,0,none⟩)) (.bool b) (flwR w0 at_ fld (casesC (fs.take i) deps f)) ((w2.setCell ⟨p4,0,none⟩ (.int .i64 lo)).setCell ⟨p4,1,none⟩ (.int .i64 hi')):=by
   intro lo hi' b hb hlo
   have e3:Ext W.drew ((w2.setCell ⟨p4,0,none⟩ (.int .i64 lo)).setCell ⟨p4,1,none⟩ (.int .i64 hi')):=(e2.setCell (show W.drew.heap.size≤(⟨p4,0,none⟩:Addr).block from hp4) _).setCell (show W.drew.heap.size≤(⟨p4,1,none⟩:Addr).block from hp4) _
   refine ⟨⟨e3,(hM.setCell _ _).setCell _ _⟩,key _ p4 b lo hi' (eD.trans e3) ?_ hb hlo⟩
   have:=heap_set (o:=1) (heap_set (o:=0) o4 (.int .i64 lo)) (.int .i64 hi')
   simpa using this
  cases hl:lastR (numR (fs.take i)) f.tag with
  | none =>
   rw [hl] at hfin
   simp (disch:=try exact DI) only [↓PR,QR,simprocAttr,Option.map_none,(cells_of_heap o4).1,(cells_of_heap o4).2]
   exact hfin 0 0 false rfl (by simp)
  | some q =>
   obtain ⟨lo,hi'⟩:=q
   rw [hl] at hfin
   simp (disch:=try exact DI) only [↓PR,QR,simprocAttr,(cells_of_heap o4).1,(cells_of_heap o4).2,rangeVal]
   exact hfin lo hi' true rfl (fun _=>⟨rfl,rfl⟩)
 refine ⟨?_,?_⟩
 · refine callK_ret (before_ret (h.ext (e0.trans eD)) i hi hlt) ?_
   rintro bv w1 ⟨hB,e1⟩
   refine narrowK_same e1 ?_
   unfold n58c10
   refine ⟨?_,?_⟩
   · refine callK_ret (ranges_ret _ _ _ hB) ?_
     rintro _ w2 ⟨m,rfl,_,hM,e2⟩
     rw [numPairs_RP] at hM
     refine narrowK_KL (e1.trans e2) hM ?_
     unfold n58c8
     simp only [drew_wdrew]
     haveI:ClassNe (KL W.drew m (RP (numR (fs.take i)))):=⟨⟨w2,e1.trans e2,hM⟩⟩
     rw [qV_lookupKL Tryz.underlying296 Tryz.underlying9 ty300 ⟨w2,e1.trans e2,hM⟩]
     have h9:=fin9 (w2.alloc (.cells #[.int .i64 0,.int .i64 0] 300)) m w2.heap.size _ _ ((e1.trans e2).alloc _) (hM.ext ((Ext.refl _).alloc _)) (heap_new _ _ _) (by have:=(e1.trans e2).size;simpa using this)
     unfold n58c9 at h9
     rw [qV_lookupKL Tryz.underlying296 Tryz.underlying9 ty300 ⟨w2,e1.trans e2,hM⟩] at h9
     refine Qf ?_
     refine ⟨⟨(e1.trans e2).alloc _,hM.ext ((Ext.refl _).alloc _)⟩,?_⟩
     simp only [↓Sw.GENQ] at h9
     exact h9
   · refine Qf ?_
     refine ⟨e1.alloc _,?_⟩
     refine callK_ret (ranges_ret _ _ _ (FieldsOf.ext hB ((Ext.refl _).alloc _))) ?_
     rintro _ w2 ⟨m,rfl,_,hM,e2⟩
     rw [numPairs_RP] at hM
     have s1:=e1.size
     simp only [World.size_drew] at s1
     refine narrowK_KL ((e1.alloc _).trans e2) hM ?_
     exact fin9 w2 m w1.heap.size _ _ ((e1.alloc _).trans e2) hM (e2.obj (heap_new _ _ _)) s1
 · refine ⟨(Ext.refl _).alloc _,?_⟩
   unfold n58c12
   refine callK_ret (before_ret (h.ext ((e0.trans eD).alloc _)) i hi hlt) ?_
   rintro bv w1 ⟨hB,e1⟩
   refine narrowK_same (((Ext.refl _).alloc _).trans e1) ?_
   refine callK_ret (ranges_ret _ _ _ hB) ?_
   rintro _ w2 ⟨m,rfl,_,hM,e2⟩
   rw [numPairs_RP] at hM
   refine narrowK_KL (((Ext.refl _).alloc _).trans (e1.trans e2)) hM ?_
   exact fin9 w2 m W.heap.size _ _ (((Ext.refl _).alloc _).trans (e1.trans e2)) hM ((e1.trans e2).obj (heap_new W.drew _ _)) (Nat.le_refl _)
end
section
variable {w0:World} {cb md ms:Nat} {deps strs:List (ByteArray×Value)} {at_ fld:Int} {fs:List FieldD}
def topF (f:FieldD):Int:=2 ^ f.bits.toNat - 1
theorem top_wrap {f:FieldD} (h:bitsB f=true):0≤f.bits∧f.bits≤64∧IntKind.i64.wrap (IntKind.i64.wrap (1*2 ^ f.bits.toNat) - 1)=topF f:=by
 unfold bitsB at h
 simp only [Bool.and_eq_true,decide_eq_true_eq] at h
 obtain ⟨⟨h1,h2⟩,_⟩:=h
 have hc:(2:Int) ^ f.bits.toNat=((2 ^ f.bits.toNat:Nat):Int):=by simp
 have hp1:2 ^ f.bits.toNat≤2 ^ 32:=Nat.pow_le_pow_right Qj Qx
 have hp:(2:Int) ^ f.bits.toNat≤4294967296:=by rw [hc];omega
 have hp0:(0:Int) < 2 ^ f.bits.toNat:=Int.pow_pos Qj
 refine ⟨by omega,by omega,?_⟩
 unfold topF
 rw [Int.one_mul,show IntKind.i64.wrap (2 ^ f.bits.toNat)=2 ^ f.bits.toNat from wrap_ok Qx Qx,wrap_ok Qx Qx]
theorem needC_zero {b:Bool} {c:Int} (hc:c≠0) (h:needC b c=0):b=true:=by
 cases b with
 | true=>rfl
 | false=>exact absurd h hc
theorem uint_flw (h:Chk w0 cb md ms deps strs at_ fld fs) (v:Value) (f:FieldD) (hf:FieldVal w0 v f):Calls Pg 213 #[.pointer (some ⟨cb,0,none⟩),v] w0 (flwR w0 at_ fld (orC (needC (bitsB f) 6) (withinC (topF f) 0 [f.low,f.high]))):=by
 obtain ⟨tv,cv,rfl,hT,hC,ht1,hc1⟩:=hf.op
 refine n82s ?_;unfold n82
 refine Qf ?_
 generalize hW:World.alloc w0 _=W
 have e0:Ext w0 W:=by rw [← hW];exact ee
 have o3:W.heap[w0.heap.size]?=some (.cells (fieldCells f tv cv).toArray 123 (0,0)):=by rw [← hW];exact Qb
 clear hW
 refine Qp (cells_of_heap o3).1 ?_
 refine callK_flw (bits_flw (h.ext e0) _ f ⟨tv,cv,rfl,TermsOf.ext hT e0,CasesOf.ext hC e0⟩) (fun w1 e1 h0=>?_) (fun w1 e1 h0=>?_)
 · rw [h0,orC_zero]
   obtain ⟨ha,hb,hw⟩:=top_wrap (needC_zero Qj h0)
   have e01:=e0.trans e1
   have l1:w0.heap.size < w1.heap.size:=(Qk (e1.obj o3)).1
   refine drawK_intro ?_
   simp (disch:=try exact DI) only [↓PR,QR,simprocAttr,↓n82c1,(cells_of_heap (e1.obj o3)).1,hw]
   generalize hW:World.alloc (World.drew w1) _=W2
   have eD:Ext w1.drew W2:=by rw [← hW];exact ee
   have hIn:IntsOf W2 (.slice (some ⟨w1.heap.size,0,none⟩) 2 2) [f.low,f.high]:=by rw [← hW];exact ints2 rfl _ _ _
   clear hW
   have eE:Ext w0 W2:=(e01.wdrew).trans eD
   refine ⟨eD,?_⟩
   refine callK_flw (within_flw (h.ext eE) 0 (topF f) _ _ hIn) (fun w2 e2 h0=>?_) (fun w2 e2 h0=>?_)
   · exact ⟨eD.trans e2,flwR_ret (eE.trans e2) h0⟩
   · exact flwR_pan (eE.trans e2) rfl h0
 · rw [orC_ne h0]
   exact flwR_pan (e0.trans e1) rfl h0
theorem const_flw (h:Chk w0 cb md ms deps strs at_ fld fs) (v:Value) (f:FieldD) (hf:FieldVal w0 v f):Calls Pg 217 #[.pointer (some ⟨cb,0,none⟩),v] w0 (flwR w0 at_ fld (orC (needC (bitsB f) 6) (withinC (topF f) 0 [f.low]))):=by
 obtain ⟨tv,cv,rfl,hT,hC,ht1,hc1⟩:=hf.op
 refine n87s ?_;unfold n87
 refine Qf ?_
 generalize hW:World.alloc w0 _=W
 have e0:Ext w0 W:=by rw [← hW];exact ee
 have o3:W.heap[w0.heap.size]?=some (.cells (fieldCells f tv cv).toArray 123 (0,0)):=by rw [← hW];exact Qb
 clear hW
 refine Qp (cells_of_heap o3).1 ?_
 refine callK_flw (bits_flw (h.ext e0) _ f ⟨tv,cv,rfl,TermsOf.ext hT e0,CasesOf.ext hC e0⟩) (fun w1 e1 h0=>?_) (fun w1 e1 h0=>?_)
 · rw [h0,orC_zero]
   obtain ⟨ha,hb,hw⟩:=top_wrap (needC_zero Qj h0)
   have e01:=e0.trans e1
   have l1:w0.heap.size < w1.heap.size:=(Qk (e1.obj o3)).1
   refine drawK_intro ?_
   simp (disch:=try exact DI) only [↓PR,QR,simprocAttr,↓n87c1,(cells_of_heap (e1.obj o3)).1,hw]
   generalize hW:World.alloc (World.drew w1) _=W2
   have eD:Ext w1.drew W2:=by rw [← hW];exact ee
   have hIn:IntsOf W2 (.slice (some ⟨w1.heap.size,0,none⟩) 1 1) [f.low]:=by rw [← hW];exact ints1 rfl _ _
   clear hW
   have eE:Ext w0 W2:=(e01.wdrew).trans eD
   refine ⟨eD,?_⟩
   refine callK_flw (within_flw (h.ext eE) 0 (topF f) _ _ hIn) (fun w2 e2 h0=>?_) (fun w2 e2 h0=>?_)
   · exact ⟨eD.trans e2,flwR_ret (eE.trans e2) h0⟩
   · exact flwR_pan (eE.trans e2) rfl h0
 · rw [orC_ne h0]
   exact flwR_pan (e0.trans e1) rfl h0
theorem varint_flw (h:Chk w0 cb md ms deps strs at_ fld fs) (v:Value) (f:FieldD) (hf:FieldVal w0 v f):Calls Pg 219 #[.pointer (some ⟨cb,0,none⟩),v] w0 (flwR w0 at_ fld (withinC 34359738367 0 [f.low,f.high])):=by
 obtain ⟨tv,cv,rfl,hT,hC,ht1,hc1⟩:=hf.op
 refine n89s ?_;unfold n89
 refine Qf ?_
 generalize hW:World.alloc (World.alloc w0 _) _=W
 have e0:Ext w0 W:=by rw [← hW];exact ee
 have o3:W.heap[w0.heap.size]?=some (.cells (fieldCells f tv cv).toArray 123 (0,0)):=by rw [← hW];exact Qb
 have hIn:IntsOf W (.slice (some ⟨w0.heap.size+1,0,none⟩) 2 2) [f.low,f.high]:=by rw [← hW];exact ints2 (by simp only [World.size_alloc]) _ _ _
 clear hW
 refine callK_flw (within_flw (h.ext e0) 0 34359738367 _ _ hIn) (fun w1 e1 h0=>?_) (fun w1 e1 h0=>?_)
 · exact flwR_ret (e0.trans e1) h0
 · exact flwR_pan (e0.trans e1) rfl h0
theorem headers_flw (h:Chk w0 cb md ms deps strs at_ fld fs) (v:Value) (f:FieldD) (hf:FieldVal w0 v f):Calls Pg 225 #[.pointer (some ⟨cb,0,none⟩),v] w0 (flwR w0 at_ fld (withinC 1048576 2 [f.high])):=by
 obtain ⟨tv,cv,rfl,hT,hC,ht1,hc1⟩:=hf.op
 refine n73s ?_;unfold n73
 refine Qf ?_
 generalize hW:World.alloc (World.alloc w0 _) _=W
 have e0:Ext w0 W:=by rw [← hW];exact ee
 have o3:W.heap[w0.heap.size]?=some (.cells (fieldCells f tv cv).toArray 123 (0,0)):=by rw [← hW];exact Qb
 have hIn:IntsOf W (.slice (some ⟨w0.heap.size+1,0,none⟩) 1 1) [f.high]:=by rw [← hW];exact ints1 (by simp only [World.size_alloc]) _ _
 clear hW
 refine callK_flw (within_flw (h.ext e0) 2 1048576 _ _ hIn) (fun w1 e1 h0=>?_) (fun w1 e1 h0=>?_)
 · exact flwR_ret (e0.trans e1) h0
 · exact flwR_pan (e0.trans e1) rfl h0
theorem until_flw (h:Chk w0 cb md ms deps strs at_ fld fs) (v:Value) (f:FieldD) (hf:FieldVal w0 v f):Calls Pg 223 #[.pointer (some ⟨cb,0,none⟩),v] w0 (flwR w0 at_ fld (orC (withinC 255 0 [f.low]) (withinC 1048576 0 [f.high]))):=by
 obtain ⟨tv,cv,rfl,hT,hC,ht1,hc1⟩:=hf.op
 refine n92s ?_;unfold n92
 refine Qf ?_
 generalize hW:World.alloc (World.alloc w0 _) _=W
 have e0:Ext w0 W:=by rw [← hW];exact ee
 have o3:W.heap[w0.heap.size]?=some (.cells (fieldCells f tv cv).toArray 123 (0,0)):=by rw [← hW];exact Qb
 have hIn:IntsOf W (.slice (some ⟨w0.heap.size+1,0,none⟩) 1 1) [f.low]:=by rw [← hW];exact ints1 (by simp only [World.size_alloc]) _ _
 clear hW
 refine callK_flw (within_flw (h.ext e0) 0 255 _ _ hIn) (fun w1 e1 h0=>?_) (fun w1 e1 h0=>?_)
 · rw [h0,orC_zero]
   have e01:=e0.trans e1
   simp (disch:=try exact DI) only [↓PR,QR,simprocAttr,↓n92c1,(cells_of_heap (e1.obj o3)).1]
   refine callK_flw (within_flw ((h.ext e01).ext ((Ext.refl _).alloc _)) 0 1048576 _ _ (ints1 rfl _ _)) (fun w2 e2 h0=>?_) (fun w2 e2 h0=>?_)
   · exact flwR_ret ((e01.alloc _).trans e2) h0
   · exact flwR_pan ((e01.alloc _).trans e2) rfl h0
 · rw [orC_ne h0]
   exact flwR_pan (e0.trans e1) rfl h0
theorem message_flw (h:Chk w0 cb md ms deps strs at_ fld fs) (v:Value) (f:FieldD) (hf:FieldVal w0 v f):Calls Pg 230 #[.pointer (some ⟨cb,0,none⟩),v] w0 (flwR w0 at_ fld (needC (lastOf deps f.of).isSome 8)):=by
 obtain ⟨tv,cv,rfl,hT,hC,ht1,hc1⟩:=hf.op
 refine n77s ?_;unfold n77
 refine Qf ?_
 generalize hW:World.alloc w0 _=W
 have e0:Ext w0 W:=by rw [← hW];exact ee
 have o3:W.heap[w0.heap.size]?=some (.cells (fieldCells f tv cv).toArray 123 (0,0)):=by rw [← hW];exact Qb
 clear hW
 refine Qp (cells_of_heap o3).1 ?_
 refine callK_flw (refer_flw (h.ext e0) f.of) (fun w1 e1 h0=>?_) (fun w1 e1 h0=>?_)
 · exact flwR_ret (e0.trans e1) h0
 · exact flwR_pan (e0.trans e1) rfl h0
theorem list_flw (h:Chk w0 cb md ms deps strs at_ fld fs) (i:Nat) (hi:fld=i) (hlt:i < fs.length) (v:Value) (f:FieldD) (hf:FieldVal w0 v f):Calls Pg 227 #[.pointer (some ⟨cb,0,none⟩),v] w0 (flwR w0 at_ fld (orC (needC (lastOf deps f.of).isSome 8) (sizedC (numR (fs.take i)) f))):=by
 obtain ⟨tv,cv,rfl,hT,hC,ht1,hc1⟩:=hf.op
 refine n75s ?_;unfold n75
 refine Qf ?_
 generalize hW:World.alloc w0 _=W
 have e0:Ext w0 W:=by rw [← hW];exact ee
 have o3:W.heap[w0.heap.size]?=some (.cells (fieldCells f tv cv).toArray 123 (0,0)):=by rw [← hW];exact Qb
 clear hW
 refine Qp (cells_of_heap o3).1 ?_
 refine callK_flw (refer_flw (h.ext e0) f.of) (fun w1 e1 h0=>?_) (fun w1 e1 h0=>?_)
 · rw [h0,orC_zero]
   have e01:=e0.trans e1
   refine Qp (cells_of_heap (e1.obj o3)).1 ?_
   refine callK_flw (sized_flw (h.ext e01) i hi hlt _ f ⟨tv,cv,rfl,TermsOf.ext hT e01,CasesOf.ext hC e01⟩) (fun w2 e2 h0=>?_) (fun w2 e2 h0=>?_)
   · exact flwR_ret (e01.trans e2) h0
   · exact flwR_pan (e01.trans e2) rfl h0
 · rw [orC_ne h0]
   exact flwR_pan (e0.trans e1) rfl h0
theorem view_flw (h:Chk w0 cb md ms deps strs at_ fld fs) (i:Nat) (hi:fld=i) (hlt:i < fs.length) (v:Value) (f:FieldD) (hf:FieldVal w0 v f):Calls Pg 238 #[.pointer (some ⟨cb,0,none⟩),v] w0 (flwR w0 at_ fld (orC (withinC 4294967295 0 [f.key]) (orC (needC (strB strs f.of) 8) (sizedC (numR (fs.take i)) f)))):=by
 obtain ⟨tv,cv,rfl,hT,hC,ht1,hc1⟩:=hf.op
 refine n85s ?_;unfold n85
 refine Qf ?_
 generalize hW:World.alloc (World.alloc w0 _) _=W
 have e0:Ext w0 W:=by rw [← hW];exact ee
 have o3:W.heap[w0.heap.size]?=some (.cells (fieldCells f tv cv).toArray 123 (0,0)):=by rw [← hW];exact Qb
 have hIn:IntsOf W (.slice (some ⟨w0.heap.size+1,0,none⟩) 1 1) [f.key]:=by rw [← hW];exact ints1 (by simp only [World.size_alloc]) _ _
 clear hW
 refine callK_flw (within_flw (h.ext e0) 0 4294967295 _ _ hIn) (fun w1 e1 h0=>?_) (fun w1 e1 h0=>?_)
 · rw [h0,orC_zero]
   have e01:=e0.trans e1
   have h1:=h.ext e01.wdrew
   obtain ⟨⟨dn,mv,ds,mn,fv,k1,k2⟩,k3,k4,k5,k6⟩:=id h1
   refine drawK_intro ?_
   simp (disch:=try exact DI) only [↓PR,QR,simprocAttr,↓n85c1,(cells_of_heap (e1.obj o3)).1,(cells_of_heap k1).1]
   have k1':=(cells_of_heap k1).1
   simp only [World.cell?] at k1'
   rw [qV_lookup1E Tryz.underlying199 Tryz.underlying9 ty4 k4]
   rw [h1.strV f.of]
   refine callK_flw (need_flw h1 _ 8 Qj) (fun w2 e2 h0=>?_) (fun w2 e2 h0=>?_)
   · rw [h0,orC_zero]
     refine ⟨e2,?_⟩
     have e02:=(e01.wdrew).trans e2
     have e12:Ext W w2:=(e1.wdrew).trans e2
     refine Qp (cells_of_heap (e12.obj o3)).1 ?_
     refine callK_flw (sized_flw (h.ext e02) i hi hlt _ f ⟨tv,cv,rfl,TermsOf.ext hT e02,CasesOf.ext hC e02⟩) (fun w3 e3 h0=>?_) (fun w3 e3 h0=>?_)
     · exact flwR_ret (e02.trans e3) h0
     · exact flwR_pan (e02.trans e3) rfl h0
   · rw [orC_ne h0]
     exact flwR_pan (e01.wdrew.trans e2) rfl h0
 · rw [orC_ne h0]
   exact flwR_pan (e0.trans e1) rfl h0
theorem check_flw (h:Chk w0 cb md ms deps strs at_ fld fs) (i:Nat) (hi:fld=i) (hlt:i < fs.length) (v:Value) (f:FieldD) (hf:FieldVal w0 v f):Calls Pg 236 #[.pointer (some ⟨cb,0,none⟩),v] w0 (flwR w0 at_ fld (orC (withinC 3 1 [f.check]) (needC ((fs.take i).any fun o=>decide (o.name=f.fr)) 8))):=by
 obtain ⟨tv,cv,rfl,hT,hC,ht1,hc1⟩:=hf.op
 refine n83s ?_;unfold n83
 refine Qf ?_
 generalize hW:World.alloc (World.alloc w0 _) _=W
 have e0:Ext w0 W:=by rw [← hW];exact ee
 have o3:W.heap[w0.heap.size]?=some (.cells (fieldCells f tv cv).toArray 123 (0,0)):=by rw [← hW];exact Qb
 have hIn:IntsOf W (.slice (some ⟨w0.heap.size+1,0,none⟩) 1 1) [f.check]:=by rw [← hW];exact ints1 (by simp only [World.size_alloc]) _ _
 clear hW
 refine callK_flw (within_flw (h.ext e0) 1 3 _ _ hIn) (fun w1 e1 h0=>?_) (fun w1 e1 h0=>?_)
 · rw [h0,orC_zero]
   have e01:=e0.trans e1
   refine drawK_intro ?_
   simp (disch:=try exact DI) only [↓PR,QR,simprocAttr,↓n83c1,↓n83c2,(cells_of_heap (e1.obj o3)).1]
   refine callK_ret (before_ret (h.ext e01.wdrew) i hi hlt) ?_
   rintro bv w2 ⟨hB,e2⟩
   refine ⟨e2,?_⟩
   have hb1:=SliceOf.oneCell hB
   simp (disch:=try exact DI) only [↓PR,QR,simprocAttr,↓n83c1,↓n83c2]
   refine zcr (Field_ret w2 _ ⟨ByteArray.empty,fs.take i⟩ f.fr ⟨bv,rfl,hB⟩) fun w3 e3=>?_
   refine ⟨e2.trans e3,?_⟩
   simp (disch:=try exact DI) only [↓PR,QR,simprocAttr,↓n83c1,↓n83c2]
   have e03:=(e01.wdrew).trans (e2.trans e3)
   refine callK_flw (need_flw (h.ext e03) _ 8 Qj) (fun w4 e4 h0=>?_) (fun w4 e4 h0=>?_)
   · exact flwR_ret (e03.trans e4) h0
   · exact flwR_pan (e03.trans e4) rfl h0
 · rw [orC_ne h0]
   exact flwR_pan (e0.trans e1) rfl h0
def padB (f:FieldD):Bool:=(f.bits == 2)||(f.bits == 4)||(decide (8≤f.bits)&&decide (f.bits≤512)&&(f.bits.tmod 8 == 0))
theorem pad_flw (h:Chk w0 cb md ms deps strs at_ fld fs) (v:Value) (f:FieldD) (hf:FieldVal w0 v f):Calls Pg 234 #[.pointer (some ⟨cb,0,none⟩),v] w0 (flwR w0 at_ fld (needC (padB f) 6)):=by
 obtain ⟨tv,cv,rfl,hT,hC,ht1,hc1⟩:=hf.op
 refine n80s ?_;unfold n80
 simp (disch:=try exact DI) only [↓PR,QR,simprocAttr,↓n80c1,↓n80c2,↓n80c3,↓n80c4]
 have e0:Ext w0 (w0.alloc (Obj.cells (fieldCells f tv cv).toArray 123)):=ee
 have fin:∀ b,b=padB f→callK Pg 135 #[.pointer (some ⟨cb,0,none⟩),.bool b,.int .i64 6] (panK (flwR w0 at_ fld (needC (padB f) 6))) (w0.alloc (Obj.cells (fieldCells f tv cv).toArray 123)) (fun _ w=>flwR w0 at_ fld (needC (padB f) 6) (.returned (.tuple #[])) w):=by
  rintro b rfl
  exact callK_flw (need_flw (h.ext e0) _ 6 Qj) (fun w' e1 h0=>flwR_ret (e0.trans e1) h0) (fun w' e1 h0=>flwR_pan (e0.trans e1) rfl h0)
 unfold padB at fin ⊢
 generalize (f.bits == 2)=b1 at fin ⊢
 generalize (f.bits == 4)=b2 at fin ⊢
 generalize decide (8≤f.bits)=b3 at fin ⊢
 generalize decide (f.bits≤512)=b4 at fin ⊢
 cases b1<;>cases b2<;>cases b3<;>cases b4<;>simp (disch:=try exact DI) only [↓PR,QR,simprocAttr,↓n80c1,↓n80c2,↓n80c3,↓n80c4]<;>first | exact fin _ rfl | exact fin _ (by simp)
end
theorem eq_Term (x y:TermD):(decide (x.field=y.field)&&decide (x.factor=y.factor))=decide (x=y):=by
 cases x;cases y
 rw [Bool.eq_iff_iff]
 simp
theorem Equal_Term_ret (w0:World) (v u:Value) (l m:List TermD) (hl:TermsOf w0 v l) (hm:TermsOf w0 u m) :
 Ret Pg 240 #[v,u] w0 fun r w'=>r = .bool (decide (l=m))∧Ext w0 w':=by
 obtain ⟨A,c,rfl,hlc,hcm,hlm,hel⟩:=SliceOf.open hl
 obtain ⟨A',c',rfl,hlc',hcm',hlm',hel'⟩:=SliceOf.open hm
 refine n125s (R:=retR _) ?_;unfold n125
 refine Qf ?_
 by_cases hlen:l.length=m.length
 · have hne:((l.length:Int) != (m.length:Int))=false:=by simp [hlen]
   simp (disch:=try exact DI) only [↓PR,QR,simprocAttr,↓n125c1,↓n125c2,hne]
   refine loop1_intro (fun a0 w=>∃ (k:Nat) , a0 = .int .i64 (k:Int)∧k≤l.length∧Ext w0 w∧l.take k=m.take k) (fun a0 _=>l.length - (intOf a0).toNat) ⟨0,rfl,Nat.zero_le _,ee,rfl⟩ ?_
   rintro _ w ⟨k,rfl,hk,e,hI⟩
   have se:=e.size
   rcases drop_cases hk with ⟨x,hx,hd,hlt,hdec⟩ | ⟨hk,hd,hdec⟩
   · obtain ⟨b,o,cs,rfl,_,hA,rfl⟩:=hel k x hx
     obtain ⟨y,hy⟩:=getElem?_lt (l:=m) (k:=k) Qx
     obtain ⟨b',o',cs',rfl,_,hA',rfl⟩:=hel' k y hy
     have hlt':k < m.length:=Qx
     have eD:Ext w0 w.drew:=e.wdrew
     simp (disch:=try exact DI) only [↓PR,QR,simprocAttr,↓n125c1,↓n125c2,hdec]
     refine drawK_intro ?_
     simp (disch:=try exact DI) only [↓PR,QR,simprocAttr,↓n125c1,↓n125c2,hA.c2,hA'.c2]
     rw [eq_Term]
     by_cases hxy:x=y
     · subst hxy
       simp only [decide_true,Bool.not_true]
       simp (disch:=try exact DI) only [↓PR,QR,simprocAttr,↓n125c1,↓n125c2]
       exact ⟨⟨k+1,rfl,by omega,ee,by rw [List.take_add_one,List.take_add_one,hx,hy,hI]⟩,meas_lt (kd := .i64) hlt⟩
     · simp only [hxy,decide_false,Bool.not_false]
       simp (disch:=try exact DI) only [↓PR,QR,simprocAttr,↓n125c1,↓n125c2]
       refine ⟨?_,eD⟩
       have hne':¬ l=m:=by
        rintro rfl
        rw [hx] at hy
        injection hy with hy
        exact hxy hy
       simp [hne']
   · subst hk
     simp (disch:=try exact DI) only [↓PR,QR,simprocAttr,↓n125c1,↓n125c2,hdec]
     rw [List.take_length,hlen,List.take_length] at hI
     exact ⟨by simp [hI],e⟩
 · have hne:((l.length:Int) != (m.length:Int))=true:=by simp;omega
   simp (disch:=try exact DI) only [↓PR,QR,simprocAttr,↓n125c1,↓n125c2,hne]
   have hne':¬ l=m:=fun h=>hlen (by rw [h])
   exact ⟨by simp [hne'],Ext.refl _⟩
theorem eq_Case (x y:CaseD):(decide (x.low=y.low)&&(decide (x.high=y.high)&&decide (x.of=y.of)))=decide (x=y):=by
 cases x;cases y
 rw [Bool.eq_iff_iff]
 simp
theorem Equal_Case_ret (w0:World) (v u:Value) (l m:List CaseD) (hl:CasesOf w0 v l) (hm:CasesOf w0 u m) :
 Ret Pg 241 #[v,u] w0 fun r w'=>r = .bool (decide (l=m))∧Ext w0 w':=by
 obtain ⟨A,c,rfl,hlc,hcm,hlm,hel⟩:=SliceOf.open hl
 obtain ⟨A',c',rfl,hlc',hcm',hlm',hel'⟩:=SliceOf.open hm
 refine n124s (R:=retR _) ?_;unfold n124
 refine Qf ?_
 by_cases hlen:l.length=m.length
 · have hne:((l.length:Int) != (m.length:Int))=false:=by simp [hlen]
   simp (disch:=try exact DI) only [↓PR,QR,simprocAttr,↓n124c1,↓n124c2,hne]
   refine loop1_intro (fun a0 w=>∃ (k:Nat) , a0 = .int .i64 (k:Int)∧k≤l.length∧Ext w0 w∧l.take k=m.take k) (fun a0 _=>l.length - (intOf a0).toNat) ⟨0,rfl,Nat.zero_le _,ee,rfl⟩ ?_
   rintro _ w ⟨k,rfl,hk,e,hI⟩
   have se:=e.size
   rcases drop_cases hk with ⟨x,hx,hd,hlt,hdec⟩ | ⟨hk,hd,hdec⟩
   · obtain ⟨b,o,cs,rfl,_,hA,rfl⟩:=hel k x hx
     obtain ⟨y,hy⟩:=getElem?_lt (l:=m) (k:=k) Qx
     obtain ⟨b',o',cs',rfl,_,hA',rfl⟩:=hel' k y hy
     have hlt':k < m.length:=Qx
     have eD:Ext w0 w.drew:=e.wdrew
     simp (disch:=try exact DI) only [↓PR,QR,simprocAttr,↓n124c1,↓n124c2,hdec]
     refine drawK_intro ?_
     simp (disch:=try exact DI) only [↓PR,QR,simprocAttr,↓n124c1,↓n124c2,hA.c3,hA'.c3]
     rw [eq_Case]
     by_cases hxy:x=y
     · subst hxy
       simp only [decide_true,Bool.not_true]
       simp (disch:=try exact DI) only [↓PR,QR,simprocAttr,↓n124c1,↓n124c2]
       exact ⟨⟨k+1,rfl,by omega,ee,by rw [List.take_add_one,List.take_add_one,hx,hy,hI]⟩,meas_lt (kd := .i64) hlt⟩
     · simp only [hxy,decide_false,Bool.not_false]
       simp (disch:=try exact DI) only [↓PR,QR,simprocAttr,↓n124c1,↓n124c2]
       refine ⟨?_,eD⟩
       have hne':¬ l=m:=by
        rintro rfl
        rw [hx] at hy
        injection hy with hy
        exact hxy hy
       simp [hne']
   · subst hk
     simp (disch:=try exact DI) only [↓PR,QR,simprocAttr,↓n124c1,↓n124c2,hdec]
     rw [List.take_length,hlen,List.take_length] at hI
     exact ⟨by simp [hI],e⟩
 · have hne:((l.length:Int) != (m.length:Int))=true:=by simp;omega
   simp (disch:=try exact DI) only [↓PR,QR,simprocAttr,↓n124c1,↓n124c2,hne]
   have hne':¬ l=m:=fun h=>hlen (by rw [h])
   exact ⟨by simp [hne'],Ext.refl _⟩
abbrev partsVal (f:FieldD):Value := .agg #[.string f.name,.string f.of,.string f.tag,.string f.fr,.int .i64 f.kind,.int .i64 f.bits,.int .i64 f.low,.int .i64 f.high,.int .i64 f.base,.int .i64 f.check,.int .i64 f.key,.bool f.little,.bool f.loose]
theorem parts_ret (w0:World) (v:Value) (f:FieldD) (hf:FieldVal w0 v f):Ret Pg 239 #[v] w0 fun r w'=>r=partsVal f∧Ext w0 w':=by
 obtain ⟨tv,cv,rfl,hT,hC,ht1,hc1⟩:=hf.op
 refine n93s (R:=retR _) ?_;unfold n93
 refine Qg ?_
 exact ⟨by first | trivial | rfl,ee⟩
theorem sameField_ret (w0:World) (v u:Value) (f g:FieldD) (hf:FieldVal w0 v f) (hg:FieldVal w0 u g):Ret Pg 197 #[v,u] w0 fun r w'=>r = .bool (decide (f=g))∧Ext w0 w':=by
 obtain ⟨tv,cv,rfl,hT,hC,ht1,hc1⟩:=hf.op
 obtain ⟨tv',cv',rfl,hT',hC',ht1',hc1'⟩:=hg.op
 refine n95s (R:=retR _) ?_;unfold n95
 refine Qf ?_
 generalize hW:World.alloc (World.alloc w0 _) _=W
 have e0:Ext w0 W:=by rw [← hW];exact ee
 have o3:W.heap[w0.heap.size]?=some (.cells (fieldCells f tv cv).toArray 123 (0,0)):=by rw [← hW];exact Qb
 have o4:W.heap[w0.heap.size+1]?=some (.cells (fieldCells g tv' cv').toArray 123 (0,0)):=by rw [← hW];exact Qb
 clear hW
 simp only [World.size_alloc]
 refine drawK_intro ?_
 have eD:Ext w0 W.drew:=e0.wdrew
 simp (disch:=try exact DI) only [↓PR,QR,simprocAttr,↓n95c1,↓n95c2,↓n95c3,(cells_of_heap o3).1,(cells_of_heap o4).1]
 refine zcr (parts_ret _ _ f ⟨tv,cv,rfl,TermsOf.ext hT eD,CasesOf.ext hC eD⟩) fun w1 e1=>?_
 refine ⟨e1,?_⟩
 have eD1:=eD.trans e1
 refine zcr (parts_ret _ _ g ⟨tv',cv',rfl,TermsOf.ext hT' eD1,CasesOf.ext hC' eD1⟩) fun w2 e2=>?_
 refine ⟨e1.trans e2,?_⟩
 simp (disch:=try exact DI) only [↓PR,QR,simprocAttr,↓n95c1,↓n95c2,↓n95c3,(cells_of_heap o3).1,(cells_of_heap o4).1]
 have eW2:Ext W w2:=(Ext.refl W).wdrew.trans (e1.trans e2)
 generalize hb:(_&&_:Bool)=b1
 cases b1 with
 | false =>
  simp (disch:=try exact DI) only [↓PR,QR,simprocAttr,↓n95c1,↓n95c2,↓n95c3]
  refine ⟨?_,e0.trans eW2⟩
  have hne:¬ f=g:=by
   rintro rfl
   simp at hb
  simp [hne]
 | true =>
  have hbt:=hb
  simp only [Bool.and_eq_true,decide_eq_true_eq] at hb
  obtain ⟨h1,h2,h3,h4,h5,h6,h7,h8,h9,h10,h11,h12,h13⟩:=hb
  simp (disch:=try exact DI) only [↓PR,QR,simprocAttr,↓n95c1,↓n95c2,↓n95c3,(cells_of_heap o3).1,(cells_of_heap o4).1]
  refine zcr (Equal_Term_ret _ _ _ _ _ (TermsOf.ext hT (e0.trans eW2)) (TermsOf.ext hT' (e0.trans eW2))) fun w3 e3=>?_
  refine ⟨(e1.trans e2).trans e3,?_⟩
  have eW3:=eW2.trans e3
  by_cases ht:f.terms=g.terms
  · simp only [ht,decide_true]
    simp (disch:=try exact DI) only [↓PR,QR,simprocAttr,↓n95c1,↓n95c2,↓n95c3,hbt,(cells_of_heap o3).1,(cells_of_heap o4).1]
    refine zcr (Equal_Case_ret _ _ _ _ _ (CasesOf.ext hC (e0.trans eW3)) (CasesOf.ext hC' (e0.trans eW3))) fun w4 e4=>?_
    refine ⟨((e1.trans e2).trans e3).trans e4,?_⟩
    simp (disch:=try exact DI) only [↓PR,QR,simprocAttr,↓n95c1,↓n95c2,↓n95c3]
    refine ⟨?_,e0.trans (eW3.trans e4)⟩
    congr 1
    rw [Bool.eq_iff_iff]
    simp only [decide_eq_true_eq]
    constructor
    · intro hc;cases f;cases g;simp_all
    · rintro rfl;rfl
  · simp only [ht,decide_false]
    simp (disch:=try exact DI) only [↓PR,QR,simprocAttr,↓n95c1,↓n95c2,↓n95c3,hbt]
    refine ⟨?_,e0.trans eW3⟩
    have hne:¬ f=g:=by rintro rfl;exact ht rfl
    simp [hne]
def Clears (g:FuncId) (cl:FieldD→FieldD) (ct cc:Bool):Prop:=∀ (w:World) (p:Nat) (f:FieldD) (tv cv:Value),tv.oneCell'=true→cv.oneCell'=true→w.heap[p]?=some (.cells (fieldCells f tv cv).toArray 123 (0,0)) →
 Ret Pg g #[.pointer (some ⟨p,0,none⟩)] w fun _ w'=>w'.heap[p]?=some (.cells (fieldCells (cl f) (if ct then .slice none 0 0 else tv) (if cc then .slice none 0 0 else cv)).toArray 123 (0,0))∧∀ a,Ext a w→a.heap.size≤p→Ext a w'
def clear1 (f:FieldD):FieldD:={ f with bits:=0,little:=false,low:=0,high:=0 }
theorem clears1:Clears 212 clear1 false false:=by
 intro w p f tv cv ht1 hc1 hp
 have hlt:=(Qk hp).1
 refine n71s (R:=retR _) ?_;unfold n71
 simp (disch:=try exact DI) only [↓PR,QR,simprocAttr,Sw.joinK_eq,(cells_of_heap hp).1,(cells_of_heap hp).2]
 refine ⟨?_,fun a e hp'=>?_⟩
 · simp only [heap_set_map,hp,Option.map_some,setObj_cells,List.setIfInBounds_toArray,List.set_cons_zero,List.set_cons_succ,Bool.false_eq_true,if_false,if_true]
   try rfl
 · exact ee
def clear2 (f:FieldD):FieldD:={ f with bits:=0,little:=false,low:=0 }
theorem clears2:Clears 216 clear2 false false:=by
 intro w p f tv cv ht1 hc1 hp
 have hlt:=(Qk hp).1
 refine n86s (R:=retR _) ?_;unfold n86
 simp (disch:=try exact DI) only [↓PR,QR,simprocAttr,Sw.joinK_eq,(cells_of_heap hp).1,(cells_of_heap hp).2]
 refine ⟨?_,fun a e hp'=>?_⟩
 · simp only [heap_set_map,hp,Option.map_some,setObj_cells,List.setIfInBounds_toArray,List.set_cons_zero,List.set_cons_succ,Bool.false_eq_true,if_false,if_true]
   try rfl
 · exact ee
def clear3 (f:FieldD):FieldD:={ f with loose:=false,low:=0,high:=0 }
theorem clears3:Clears 218 clear3 false false:=by
 intro w p f tv cv ht1 hc1 hp
 have hlt:=(Qk hp).1
 refine n88s (R:=retR _) ?_;unfold n88
 simp (disch:=try exact DI) only [↓PR,QR,simprocAttr,Sw.joinK_eq,(cells_of_heap hp).1,(cells_of_heap hp).2]
 refine ⟨?_,fun a e hp'=>?_⟩
 · simp only [heap_set_map,hp,Option.map_some,setObj_cells,List.setIfInBounds_toArray,List.set_cons_zero,List.set_cons_succ,Bool.false_eq_true,if_false,if_true]
   try rfl
 · exact ee
def clear4 (f:FieldD):FieldD:={ f with base:=0,terms:=[] }
theorem clears4:Clears 220 clear4 true false:=by
 intro w p f tv cv ht1 hc1 hp
 have hlt:=(Qk hp).1
 refine n90s (R:=retR _) ?_;unfold n90
 simp (disch:=try exact DI) only [↓PR,QR,simprocAttr,Sw.joinK_eq,(cells_of_heap hp).1,(cells_of_heap hp).2]
 refine ⟨?_,fun a e hp'=>?_⟩
 · simp only [heap_set_map,hp,Option.map_some,setObj_cells,List.setIfInBounds_toArray,List.set_cons_zero,List.set_cons_succ,Bool.false_eq_true,if_false,if_true]
   try rfl
 · exact ee
def clear5 (f:FieldD):FieldD:={ f with low:=0,high:=0 }
theorem clears5:Clears 222 clear5 false false:=by
 intro w p f tv cv ht1 hc1 hp
 have hlt:=(Qk hp).1
 refine n91s (R:=retR _) ?_;unfold n91
 simp (disch:=try exact DI) only [↓PR,QR,simprocAttr,Sw.joinK_eq,(cells_of_heap hp).1,(cells_of_heap hp).2]
 refine ⟨?_,fun a e hp'=>?_⟩
 · simp only [heap_set_map,hp,Option.map_some,setObj_cells,List.setIfInBounds_toArray,List.set_cons_zero,List.set_cons_succ,Bool.false_eq_true,if_false,if_true]
   try rfl
 · exact ee
def clear6 (f:FieldD):FieldD:={ f with loose:=false,high:=0 }
theorem clears6:Clears 224 clear6 false false:=by
 intro w p f tv cv ht1 hc1 hp
 have hlt:=(Qk hp).1
 refine n72s (R:=retR _) ?_;unfold n72
 simp (disch:=try exact DI) only [↓PR,QR,simprocAttr,Sw.joinK_eq,(cells_of_heap hp).1,(cells_of_heap hp).2]
 refine ⟨?_,fun a e hp'=>?_⟩
 · simp only [heap_set_map,hp,Option.map_some,setObj_cells,List.setIfInBounds_toArray,List.set_cons_zero,List.set_cons_succ,Bool.false_eq_true,if_false,if_true]
   try rfl
 · exact ee
def clear7 (f:FieldD):FieldD:={ f with of:=ByteArray.empty,base:=0,terms:=[] }
theorem clears7:Clears 226 clear7 true false:=by
 intro w p f tv cv ht1 hc1 hp
 have hlt:=(Qk hp).1
 refine n74s (R:=retR _) ?_;unfold n74
 simp (disch:=try exact DI) only [↓PR,QR,simprocAttr,Sw.joinK_eq,(cells_of_heap hp).1,(cells_of_heap hp).2]
 refine ⟨?_,fun a e hp'=>?_⟩
 · simp only [heap_set_map,hp,Option.map_some,setObj_cells,List.setIfInBounds_toArray,List.set_cons_zero,List.set_cons_succ,Bool.false_eq_true,if_false,if_true]
   try rfl
 · exact ee
def clear8 (f:FieldD):FieldD:={ f with of:=ByteArray.empty }
theorem clears8:Clears 229 clear8 false false:=by
 intro w p f tv cv ht1 hc1 hp
 have hlt:=(Qk hp).1
 refine n76s (R:=retR _) ?_;unfold n76
 simp (disch:=try exact DI) only [↓PR,QR,simprocAttr,Sw.joinK_eq,(cells_of_heap hp).1,(cells_of_heap hp).2]
 refine ⟨?_,fun a e hp'=>?_⟩
 · simp only [heap_set_map,hp,Option.map_some,setObj_cells,List.setIfInBounds_toArray,List.set_cons_zero,List.set_cons_succ,Bool.false_eq_true,if_false,if_true]
   try rfl
 · exact ee
def clear9 (f:FieldD):FieldD:={ f with tag:=ByteArray.empty,cases:=[] }
theorem clears9:Clears 231 clear9 false true:=by
 intro w p f tv cv ht1 hc1 hp
 have hlt:=(Qk hp).1
 refine n78s (R:=retR _) ?_;unfold n78
 simp (disch:=try exact DI) only [↓PR,QR,simprocAttr,Sw.joinK_eq,(cells_of_heap hp).1,(cells_of_heap hp).2]
 refine ⟨?_,fun a e hp'=>?_⟩
 · simp only [heap_set_map,hp,Option.map_some,setObj_cells,List.setIfInBounds_toArray,List.set_cons_zero,List.set_cons_succ,Bool.false_eq_true,if_false,if_true]
   try rfl
 · exact ee
def clear10 (f:FieldD):FieldD:={ f with bits:=0 }
theorem clears10:Clears 233 clear10 false false:=by
 intro w p f tv cv ht1 hc1 hp
 have hlt:=(Qk hp).1
 refine n79s (R:=retR _) ?_;unfold n79
 simp (disch:=try exact DI) only [↓PR,QR,simprocAttr,Sw.joinK_eq,(cells_of_heap hp).1,(cells_of_heap hp).2]
 refine ⟨?_,fun a e hp'=>?_⟩
 · simp only [heap_set_map,hp,Option.map_some,setObj_cells,List.setIfInBounds_toArray,List.set_cons_zero,List.set_cons_succ,Bool.false_eq_true,if_false,if_true]
   try rfl
 · exact ee
def clear11 (f:FieldD):FieldD:={ f with fr:=ByteArray.empty,check:=0 }
theorem clears11:Clears 235 clear11 false false:=by
 intro w p f tv cv ht1 hc1 hp
 have hlt:=(Qk hp).1
 refine n81s (R:=retR _) ?_;unfold n81
 simp (disch:=try exact DI) only [↓PR,QR,simprocAttr,Sw.joinK_eq,(cells_of_heap hp).1,(cells_of_heap hp).2]
 refine ⟨?_,fun a e hp'=>?_⟩
 · simp only [heap_set_map,hp,Option.map_some,setObj_cells,List.setIfInBounds_toArray,List.set_cons_zero,List.set_cons_succ,Bool.false_eq_true,if_false,if_true]
   try rfl
 · exact ee
def clear12 (f:FieldD):FieldD:={ f with of:=ByteArray.empty,base:=0,terms:=[],key:=0 }
theorem clears12:Clears 237 clear12 true false:=by
 intro w p f tv cv ht1 hc1 hp
 have hlt:=(Qk hp).1
 refine n84s (R:=retR _) ?_;unfold n84
 simp (disch:=try exact DI) only [↓PR,QR,simprocAttr,Sw.joinK_eq,(cells_of_heap hp).1,(cells_of_heap hp).2]
 refine ⟨?_,fun a e hp'=>?_⟩
 · simp only [heap_set_map,hp,Option.map_some,setObj_cells,List.setIfInBounds_toArray,List.set_cons_zero,List.set_cons_succ,Bool.false_eq_true,if_false,if_true]
   try rfl
 · exact ee
abbrev kindEnc:Int→Value:=fun n => .int .i64 n
def KindsIn (L:List (Int×Value×Nat)):Prop:=(∀ k,¬ (1≤k∧k≤12)→Sw.look L k=none)∧Sw.look L 1=some (.agg #[.func (.func 212) #[] #[],.func (.func 213) #[] #[]])∧Sw.look L 2=some (.agg #[.func (.func 216) #[] #[],.func (.func 217) #[] #[]])∧Sw.look L 3=some (.agg #[.func (.func 218) #[] #[],.func (.func 219) #[] #[]])∧Sw.look L 4=some (.agg #[.func (.func 220) #[] #[],.func (.func 221) #[] #[]])∧Sw.look L 5=some (.agg #[.func (.func 222) #[] #[],.func (.func 223) #[] #[]])∧Sw.look L 6=some (.agg #[.func (.func 224) #[] #[],.func (.func 225) #[] #[]])∧Sw.look L 7=some (.agg #[.func (.func 226) #[] #[],.func (.func 227) #[] #[]])∧Sw.look L 8=some (.agg #[.func (.func 229) #[] #[],.func (.func 230) #[] #[]])∧Sw.look L 9=some (.agg #[.func (.func 231) #[] #[],.func (.func 232) #[] #[]])∧Sw.look L 10=some (.agg #[.func (.func 233) #[] #[],.func (.func 234) #[] #[]])∧Sw.look L 11=some (.agg #[.func (.func 235) #[] #[],.func (.func 236) #[] #[]])∧Sw.look L 12=some (.agg #[.func (.func 237) #[] #[],.func (.func 238) #[] #[]])
theorem kind_step {w0 w:World} {m c:Nat} {L:List (Int×Value×Nat)} {QP:List PanicEntry→World→Prop} {ku:World→Prop} (hM:MapB w m kindEnc L c) (e:Ext w0 w) (hm:w0.heap.size≤m) (k:Int) (v:Value)
 (h:∀ w' L' c',MapB w' m kindEnc L' c'→(∀ k',Sw.look L' k'=if k'=k then some v else Sw.look L k')→Ext w0 w'→ku w'):opU Pg (Instr.mapUpdate 257 (.map (some m)) (.int .i64 k) v) QP w ku:=by
 rw [op_mapUpdate Tryz.underlying257 (KeyOK.int Tryz.underlying117) hM k v]
 exact h _ _ _ (hM.put k v) (fun k'=>look_put _ _ _ _ _) (e.putObj hm _)
theorem kinds_ret (w0:World):Ret Pg 196 #[] w0 fun r w'=>∃ m L c,r = .map (some m)∧w0.heap.size≤m∧MapB w' m kindEnc L c∧KindsIn L∧Ext w0 w':=by
 refine n70s (R:=retR _) ?_;unfold n70
 refine Qf ?_
 have hM0:MapB (w0.alloc (.map #[] 0)) w0.heap.size kindEnc [] 0:=MapB.new w0 _
 have e0:Ext w0 (w0.alloc (.map #[] 0)):=ee
 refine kind_step hM0 e0 (Nat.le_refl _) 1 _ (fun w1 L1 c1 hM1 hl1 e1=>?_)
 refine Qf ?_
 refine kind_step hM1 e1 (Nat.le_refl _) 2 _ (fun w2 L2 c2 hM2 hl2 e2=>?_)
 refine Qf ?_
 refine kind_step hM2 e2 (Nat.le_refl _) 3 _ (fun w3 L3 c3 hM3 hl3 e3=>?_)
 refine Qf ?_
 refine kind_step hM3 e3 (Nat.le_refl _) 4 _ (fun w4 L4 c4 hM4 hl4 e4=>?_)
 refine Qf ?_
 refine kind_step hM4 e4 (Nat.le_refl _) 5 _ (fun w5 L5 c5 hM5 hl5 e5=>?_)
 refine Qf ?_
 refine kind_step hM5 e5 (Nat.le_refl _) 6 _ (fun w6 L6 c6 hM6 hl6 e6=>?_)
 refine Qf ?_
 refine kind_step hM6 e6 (Nat.le_refl _) 7 _ (fun w7 L7 c7 hM7 hl7 e7=>?_)
 refine Qf ?_
 refine kind_step hM7 e7 (Nat.le_refl _) 8 _ (fun w8 L8 c8 hM8 hl8 e8=>?_)
 refine Qf ?_
 refine kind_step hM8 e8 (Nat.le_refl _) 9 _ (fun w9 L9 c9 hM9 hl9 e9=>?_)
 refine Qf ?_
 refine kind_step hM9 e9 (Nat.le_refl _) 10 _ (fun w10 L10 c10 hM10 hl10 e10=>?_)
 refine Qf ?_
 refine kind_step hM10 e10 (Nat.le_refl _) 11 _ (fun w11 L11 c11 hM11 hl11 e11=>?_)
 refine Qf ?_
 refine kind_step hM11 e11 (Nat.le_refl _) 12 _ (fun w12 L12 c12 hM12 hl12 e12=>?_)
 refine Qf ?_
 have hn:∀ k,Sw.look ([]:List (Int×Value×Nat)) k=none:=fun _=>rfl
 refine ⟨_,_,_,rfl,Nat.le_refl _,hM12,⟨fun k hk=>?_,?_,?_,?_,?_,?_,?_,?_,?_,?_,?_,?_,?_⟩,e12⟩
 · rw [hl12,if_neg Qx,hl11,if_neg Qx,hl10,if_neg Qx,hl9,if_neg Qx,hl8,if_neg Qx,hl7,if_neg Qx,hl6,if_neg Qx,hl5,if_neg Qx,hl4,if_neg Qx,hl3,if_neg Qx,hl2,if_neg Qx,hl1,if_neg Qx,hn]
 · rw [hl12,if_neg Qj,hl11,if_neg Qj,hl10,if_neg Qj,hl9,if_neg Qj,hl8,if_neg Qj,hl7,if_neg Qj,hl6,if_neg Qj,hl5,if_neg Qj,hl4,if_neg Qj,hl3,if_neg Qj,hl2,if_neg Qj,hl1,if_pos rfl]
 · rw [hl12,if_neg Qj,hl11,if_neg Qj,hl10,if_neg Qj,hl9,if_neg Qj,hl8,if_neg Qj,hl7,if_neg Qj,hl6,if_neg Qj,hl5,if_neg Qj,hl4,if_neg Qj,hl3,if_neg Qj,hl2,if_pos rfl]
 · rw [hl12,if_neg Qj,hl11,if_neg Qj,hl10,if_neg Qj,hl9,if_neg Qj,hl8,if_neg Qj,hl7,if_neg Qj,hl6,if_neg Qj,hl5,if_neg Qj,hl4,if_neg Qj,hl3,if_pos rfl]
 · rw [hl12,if_neg Qj,hl11,if_neg Qj,hl10,if_neg Qj,hl9,if_neg Qj,hl8,if_neg Qj,hl7,if_neg Qj,hl6,if_neg Qj,hl5,if_neg Qj,hl4,if_pos rfl]
 · rw [hl12,if_neg Qj,hl11,if_neg Qj,hl10,if_neg Qj,hl9,if_neg Qj,hl8,if_neg Qj,hl7,if_neg Qj,hl6,if_neg Qj,hl5,if_pos rfl]
 · rw [hl12,if_neg Qj,hl11,if_neg Qj,hl10,if_neg Qj,hl9,if_neg Qj,hl8,if_neg Qj,hl7,if_neg Qj,hl6,if_pos rfl]
 · rw [hl12,if_neg Qj,hl11,if_neg Qj,hl10,if_neg Qj,hl9,if_neg Qj,hl8,if_neg Qj,hl7,if_pos rfl]
 · rw [hl12,if_neg Qj,hl11,if_neg Qj,hl10,if_neg Qj,hl9,if_neg Qj,hl8,if_pos rfl]
 · rw [hl12,if_neg Qj,hl11,if_neg Qj,hl10,if_neg Qj,hl9,if_pos rfl]
 · rw [hl12,if_neg Qj,hl11,if_neg Qj,hl10,if_pos rfl]
 · rw [hl12,if_neg Qj,hl11,if_pos rfl]
 · rw [hl12,if_pos rfl]
def bareF (f:FieldD):FieldD:={ name:=f.name,kind:=f.kind,bits:=0,little:=false,loose:=false,low:=0,high:=0,base:=0,terms:=[],of:=ByteArray.empty,tag:=ByteArray.empty,fr:=ByteArray.empty,cases:=[],check:=0,key:=0 }
section
variable {w0:World} {cb md ms:Nat} {deps strs:List (ByteArray×Value)} {at_ fld:Int} {fs:List FieldD}
theorem exa_tail {a0:World} (e00:Ext a0 w0) (h:Chk w0 cb md ms deps strs at_ fld fs) (p3 p6:Nat) (f:FieldD) (tv cv:Value) (hT:TermsOf w0 tv f.terms) (hC:CasesOf w0 cv f.cases) (o3:w0.heap[p3]?=some (.cells (fieldCells f tv cv).toArray 123 (0,0)))
 (g1 g2:FuncId) (o6:w0.heap[p6]?=some (.cells #[.func (.func g1) #[] #[],.func (.func g2) #[] #[]] 255 (0,0))) (hc1:Callable Pg g1) (hc2:Callable Pg g2) (cl:FieldD→FieldD) (ct cc:Bool) (hcl:Clears g1 cl ct cc)
 (hterms:(cl f).terms=if ct then [] else f.terms) (hcases:(cl f).cases=if cc then [] else f.cases) (code:Int)
 (hchk:∀ w v,Chk w cb md ms deps strs at_ fld fs→FieldVal w v f→Calls Pg g2 #[.pointer (some ⟨cb,0,none⟩),v] w (flwR w at_ fld code)) :
 n60c3 (.pointer (some ⟨cb,0,none⟩)) (.pointer (some ⟨p3,0,none⟩)) (.pointer (some ⟨p6,0,none⟩)) (flwR a0 at_ fld (orC (needC (decide (cl f=bareF f)) 5) code)) w0:=by
 have ht1:=SliceOf.oneCell hT
 have hv1:=SliceOf.oneCell hC
 have l6:p6 < w0.heap.size:=(Qk o6).1
 unfold n60c3
 refine QJ (cells_of_heap o3).1 (cells_of_heap o6).1 ?_
 have e1:Ext w0 (w0.alloc (Obj.cells (fieldCells f tv cv).toArray 123)):=ee
 have o7:=heap_new w0 (fieldCells f tv cv).toArray 123
 rw [callV_func hc1]
 simp only [Array.empty_append,Array.append_empty]
 refine callK_ret (hcl _ w0.heap.size f tv cv ht1 hv1 o7) ?_
 rintro r w2 ⟨o7',hE⟩
 have e2:=hE w0 e1 (Nat.le_refl _)
 clear hE o7 e1
 have hT2:TermsOf w2 (if ct then .slice none 0 0 else tv) (cl f).terms:=by
  rw [hterms]
  cases ct
  · exact TermsOf.ext hT e2
  · exact SliceOf.nil _ _ _
 have hC2:CasesOf w2 (if cc then .slice none 0 0 else cv) (cl f).cases:=by
  rw [hcases]
  cases cc
  · exact CasesOf.ext hC e2
  · exact SliceOf.nil _ _ _
 generalize (if ct=true then Value.slice none 0 0 else tv)=tv2 at o7' hT2
 generalize (if cc=true then Value.slice none 0 0 else cv)=cv2 at o7' hC2
 generalize cl f=g at o7' hT2 hC2 ⊢
 have o3':=e2.obj o3
 clear hterms hcases hcl
 unfold n60c2
 have hL:Loads Pg w2 123 ⟨w0.heap.size,0,none⟩ (.agg (fieldCells g tv2 cv2).toArray):=Loads.many ty123 rfl (fun j v hv=>by rw [Addr.add_lit,(cells_of_heap o7').1];simpa using hv)
 refine (op_load hL).mpr ?_
 refine Qp (cells_of_heap o3').1 ?_
 refine zcr (sameField_ret w2 _ _ g (bareF f) ⟨_,_,rfl,hT2,hC2⟩ ⟨.slice none 0 0,.slice none 0 0,rfl,SliceOf.nil _ _ _,SliceOf.nil _ _ _⟩) fun w3 e3=>?_
 have e23:=e2.trans e3
 refine callK_flw (need_flw (h.ext e23) _ 5 Qj) (fun w4 e4 h0=>?_) (fun w4 e4 h0=>?_)
 · rw [h0,orC_zero]
   have e24:=e23.trans e4
   simp (disch:=try exact DI) only [↓PR,QR,simprocAttr,↓n60c1,(cells_of_heap (e24.obj o6)).1,(cells_of_heap (e24.obj o3)).1]
   rw [callV_func hc2]
   simp only [Array.empty_append,Array.append_empty]
   refine callK_flw (hchk w4 _ (h.ext e24) ⟨tv,cv,rfl,TermsOf.ext hT e24,CasesOf.ext hC e24⟩) (fun w5 e5 h0=>?_) (fun w5 e5 h0=>?_)
   · exact flwR_ret (e00.trans (e24.trans e5)) h0
   · exact flwR_pan (e00.trans (e24.trans e5)) rfl h0
 · rw [orC_ne h0]
   exact flwR_pan (e00.trans (e23.trans e4)) rfl h0
end
def checkC (bef:List FieldD) (deps strs:List (ByteArray×Value)) (f:FieldD):Int :=
 if f.kind=1 then orC (needC (bitsB f) 6) (withinC (topF f) 0 [f.low,f.high]) else
 if f.kind=2 then orC (needC (bitsB f) 6) (withinC (topF f) 0 [f.low]) else
 if f.kind=3 then withinC 34359738367 0 [f.low,f.high] else
 if f.kind=4 then sizedC (numR bef) f else
 if f.kind=5 then orC (withinC 255 0 [f.low]) (withinC 1048576 0 [f.high]) else
 if f.kind=6 then withinC 1048576 2 [f.high] else
 if f.kind=7 then orC (needC (lastOf deps f.of).isSome 8) (sizedC (numR bef) f) else
 if f.kind=8 then needC (lastOf deps f.of).isSome 8 else
 if f.kind=9 then casesC bef deps f else
 if f.kind=10 then needC (padB f) 6 else
 if f.kind=11 then orC (withinC 3 1 [f.check]) (needC (bef.any fun o=>decide (o.name=f.fr)) 8) else
 if f.kind=12 then orC (withinC 4294967295 0 [f.key]) (orC (needC (strB strs f.of) 8) (sizedC (numR bef) f)) else 0
def clearK (f:FieldD):FieldD :=
 if f.kind=1 then clear1 f else
 if f.kind=2 then clear2 f else
 if f.kind=3 then clear3 f else
 if f.kind=4 then clear4 f else
 if f.kind=5 then clear5 f else
 if f.kind=6 then clear6 f else
 if f.kind=7 then clear7 f else
 if f.kind=8 then clear8 f else
 if f.kind=9 then clear9 f else
 if f.kind=10 then clear10 f else
 if f.kind=11 then clear11 f else
 if f.kind=12 then clear12 f else f
def examineC (bef:List FieldD) (deps strs:List (ByteArray×Value)) (f:FieldD):Int :=
 orC (needC (nameB f.name) 1) (orC (needC (!bef.any fun o=>decide (o.name=f.name)) 2) (orC (needC (decide (1≤f.kind∧f.kind≤12)) 4) (orC (needC (decide (clearK f=bareF f)) 5) (checkC bef deps strs f))))
section
variable {w0:World} {cb md ms:Nat} {deps strs:List (ByteArray×Value)} {at_ fld:Int} {fs:List FieldD}
theorem exa_mid {a0:World} (e00:Ext a0 w0) (h:Chk w0 cb md ms deps strs at_ fld fs) (i:Nat) (hi:fld=i) (hlt:i < fs.length) (p3 p6:Nat) (f:FieldD) (tv cv:Value) (hT:TermsOf w0 tv f.terms) (hC:CasesOf w0 cv f.cases) (o3:w0.heap[p3]?=some (.cells (fieldCells f tv cv).toArray 123 (0,0)))
 (L:List (Int×Value×Nat)) (hL:KindsIn L) (a b:Value) (ok:Bool) (hab:(Sw.look L f.kind).getD (.agg #[.nilFunc,.nilFunc]) = .agg #[a,b]) (hok:ok=(Sw.look L f.kind).isSome) (o6:w0.heap[p6]?=some (.cells #[a,b] 255 (0,0))) :
 callK Pg 135 #[.pointer (some ⟨cb,0,none⟩),.bool ok,.int .i64 4] (panK (flwR a0 at_ fld (orC (needC (decide (1≤f.kind∧f.kind≤12)) 4) (orC (needC (decide (clearK f=bareF f)) 5) (checkC (fs.take i) deps strs f))))) w0
  (fun _ w=>n60c3 (.pointer (some ⟨cb,0,none⟩)) (.pointer (some ⟨p3,0,none⟩)) (.pointer (some ⟨p6,0,none⟩)) (flwR a0 at_ fld (orC (needC (decide (1≤f.kind∧f.kind≤12)) 4) (orC (needC (decide (clearK f=bareF f)) 5) (checkC (fs.take i) deps strs f)))) w):=by
 obtain ⟨hn,k1,k2,k3,k4,k5,k6,k7,k8,k9,k10,k11,k12⟩:=hL
 by_cases hk:1≤f.kind∧f.kind≤12
 · have hd:decide (1≤f.kind∧f.kind≤12)=true:=by simpa using hk
   rw [hd]
   show callK _ _ _ (panK (flwR a0 at_ fld (orC 0 _))) _ _
   simp only [show needC true 4=0 from rfl,orC_zero]
   have hs:ok=true:=by
    rw [hok]
    have:f.kind=1∨f.kind=2∨f.kind=3∨f.kind=4∨f.kind=5∨f.kind=6∨f.kind=7∨f.kind=8∨f.kind=9∨f.kind=10∨f.kind=11∨f.kind=12:=Qx
    rcases this with h | h | h | h | h | h | h | h | h | h | h | h<;>simp only [h,k1,k2,k3,k4,k5,k6,k7,k8,k9,k10,k11,k12,Option.isSome_some]
   subst hs
   refine callK_flw (need_flw h true 4 Qj) (fun w1 e1 _=>?_) (fun w1 e1 h0=>absurd rfl h0)
   have hw:=h.ext e1
   have hT1:=TermsOf.ext hT e1
   have hC1:=CasesOf.ext hC e1
   have o31:=e1.obj o3
   have this:f.kind=1∨f.kind=2∨f.kind=3∨f.kind=4∨f.kind=5∨f.kind=6∨f.kind=7∨f.kind=8∨f.kind=9∨f.kind=10∨f.kind=11∨f.kind=12:=Qx
   rcases this with hkk | hkk | hkk | hkk | hkk | hkk | hkk | hkk | hkk | hkk | hkk | hkk
   · rw [hkk,k1,Option.getD_some] at hab
     injection hab with hab
     have hab:=congrArg Array.toList hab
     simp only [List.cons.injEq,and_true] at hab
     obtain ⟨rfl,rfl⟩:=hab
     have hcl:clearK f=clear1 f:=by unfold clearK;simp [hkk]
     have hcc:checkC (fs.take i) deps strs f=orC (needC (bitsB f) 6) (withinC (topF f) 0 [f.low,f.high]):=by unfold checkC;simp [hkk]
     rw [hcl,hcc]
     exact exa_tail (e00.trans e1) hw p3 p6 f tv cv hT1 hC1 o31 _ _ (e1.obj o6) c212 c213 clear1 false false clears1 rfl rfl _ (fun w v hw hf=>uint_flw hw v f hf)
   · rw [hkk,k2,Option.getD_some] at hab
     injection hab with hab
     have hab:=congrArg Array.toList hab
     simp only [List.cons.injEq,and_true] at hab
     obtain ⟨rfl,rfl⟩:=hab
     have hcl:clearK f=clear2 f:=by unfold clearK;simp [hkk]
     have hcc:checkC (fs.take i) deps strs f=orC (needC (bitsB f) 6) (withinC (topF f) 0 [f.low]):=by unfold checkC;simp [hkk]
     rw [hcl,hcc]
     exact exa_tail (e00.trans e1) hw p3 p6 f tv cv hT1 hC1 o31 _ _ (e1.obj o6) c216 c217 clear2 false false clears2 rfl rfl _ (fun w v hw hf=>const_flw hw v f hf)
   · rw [hkk,k3,Option.getD_some] at hab
     injection hab with hab
     have hab:=congrArg Array.toList hab
     simp only [List.cons.injEq,and_true] at hab
     obtain ⟨rfl,rfl⟩:=hab
     have hcl:clearK f=clear3 f:=by unfold clearK;simp [hkk]
     have hcc:checkC (fs.take i) deps strs f=withinC 34359738367 0 [f.low,f.high]:=by unfold checkC;simp [hkk]
     rw [hcl,hcc]
     exact exa_tail (e00.trans e1) hw p3 p6 f tv cv hT1 hC1 o31 _ _ (e1.obj o6) c218 c219 clear3 false false clears3 rfl rfl _ (fun w v hw hf=>varint_flw hw v f hf)
   · rw [hkk,k4,Option.getD_some] at hab
     injection hab with hab
     have hab:=congrArg Array.toList hab
     simp only [List.cons.injEq,and_true] at hab
     obtain ⟨rfl,rfl⟩:=hab
     have hcl:clearK f=clear4 f:=by unfold clearK;simp [hkk]
     have hcc:checkC (fs.take i) deps strs f=sizedC (numR (fs.take i)) f:=by unfold checkC;simp [hkk]
     rw [hcl,hcc]
     exact exa_tail (e00.trans e1) hw p3 p6 f tv cv hT1 hC1 o31 _ _ (e1.obj o6) c220 c221 clear4 true false clears4 rfl rfl _ (fun w v hw hf=>sized_flw hw i hi hlt v f hf)
   · rw [hkk,k5,Option.getD_some] at hab
     injection hab with hab
     have hab:=congrArg Array.toList hab
     simp only [List.cons.injEq,and_true] at hab
     obtain ⟨rfl,rfl⟩:=hab
     have hcl:clearK f=clear5 f:=by unfold clearK;simp [hkk]
     have hcc:checkC (fs.take i) deps strs f=orC (withinC 255 0 [f.low]) (withinC 1048576 0 [f.high]):=by unfold checkC;simp [hkk]
     rw [hcl,hcc]
     exact exa_tail (e00.trans e1) hw p3 p6 f tv cv hT1 hC1 o31 _ _ (e1.obj o6) c222 c223 clear5 false false clears5 rfl rfl _ (fun w v hw hf=>until_flw hw v f hf)
   · rw [hkk,k6,Option.getD_some] at hab
     injection hab with hab
     have hab:=congrArg Array.toList hab
     simp only [List.cons.injEq,and_true] at hab
     obtain ⟨rfl,rfl⟩:=hab
     have hcl:clearK f=clear6 f:=by unfold clearK;simp [hkk]
     have hcc:checkC (fs.take i) deps strs f=withinC 1048576 2 [f.high]:=by unfold checkC;simp [hkk]
     rw [hcl,hcc]
     exact exa_tail (e00.trans e1) hw p3 p6 f tv cv hT1 hC1 o31 _ _ (e1.obj o6) c224 c225 clear6 false false clears6 rfl rfl _ (fun w v hw hf=>headers_flw hw v f hf)
   · rw [hkk,k7,Option.getD_some] at hab
     injection hab with hab
     have hab:=congrArg Array.toList hab
     simp only [List.cons.injEq,and_true] at hab
     obtain ⟨rfl,rfl⟩:=hab
     have hcl:clearK f=clear7 f:=by unfold clearK;simp [hkk]
     have hcc:checkC (fs.take i) deps strs f=orC (needC (lastOf deps f.of).isSome 8) (sizedC (numR (fs.take i)) f):=by unfold checkC;simp [hkk]
     rw [hcl,hcc]
     exact exa_tail (e00.trans e1) hw p3 p6 f tv cv hT1 hC1 o31 _ _ (e1.obj o6) c226 c227 clear7 true false clears7 rfl rfl _ (fun w v hw hf=>list_flw hw i hi hlt v f hf)
   · rw [hkk,k8,Option.getD_some] at hab
     injection hab with hab
     have hab:=congrArg Array.toList hab
     simp only [List.cons.injEq,and_true] at hab
     obtain ⟨rfl,rfl⟩:=hab
     have hcl:clearK f=clear8 f:=by unfold clearK;simp [hkk]
     have hcc:checkC (fs.take i) deps strs f=needC (lastOf deps f.of).isSome 8:=by unfold checkC;simp [hkk]
     rw [hcl,hcc]
     exact exa_tail (e00.trans e1) hw p3 p6 f tv cv hT1 hC1 o31 _ _ (e1.obj o6) c229 c230 clear8 false false clears8 rfl rfl _ (fun w v hw hf=>message_flw hw v f hf)
   · rw [hkk,k9,Option.getD_some] at hab
     injection hab with hab
     have hab:=congrArg Array.toList hab
     simp only [List.cons.injEq,and_true] at hab
     obtain ⟨rfl,rfl⟩:=hab
     have hcl:clearK f=clear9 f:=by unfold clearK;simp [hkk]
     have hcc:checkC (fs.take i) deps strs f=casesC (fs.take i) deps f:=by unfold checkC;simp [hkk]
     rw [hcl,hcc]
     exact exa_tail (e00.trans e1) hw p3 p6 f tv cv hT1 hC1 o31 _ _ (e1.obj o6) c231 c232 clear9 false true clears9 rfl rfl _ (fun w v hw hf=>cases_flw hw i hi hlt v f hf)
   · rw [hkk,k10,Option.getD_some] at hab
     injection hab with hab
     have hab:=congrArg Array.toList hab
     simp only [List.cons.injEq,and_true] at hab
     obtain ⟨rfl,rfl⟩:=hab
     have hcl:clearK f=clear10 f:=by unfold clearK;simp [hkk]
     have hcc:checkC (fs.take i) deps strs f=needC (padB f) 6:=by unfold checkC;simp [hkk]
     rw [hcl,hcc]
     exact exa_tail (e00.trans e1) hw p3 p6 f tv cv hT1 hC1 o31 _ _ (e1.obj o6) c233 c234 clear10 false false clears10 rfl rfl _ (fun w v hw hf=>pad_flw hw v f hf)
   · rw [hkk,k11,Option.getD_some] at hab
     injection hab with hab
     have hab:=congrArg Array.toList hab
     simp only [List.cons.injEq,and_true] at hab
     obtain ⟨rfl,rfl⟩:=hab
     have hcl:clearK f=clear11 f:=by unfold clearK;simp [hkk]
     have hcc:checkC (fs.take i) deps strs f=orC (withinC 3 1 [f.check]) (needC ((fs.take i).any fun o=>decide (o.name=f.fr)) 8):=by unfold checkC;simp [hkk]
     rw [hcl,hcc]
     exact exa_tail (e00.trans e1) hw p3 p6 f tv cv hT1 hC1 o31 _ _ (e1.obj o6) c235 c236 clear11 false false clears11 rfl rfl _ (fun w v hw hf=>check_flw hw i hi hlt v f hf)
   · rw [hkk,k12,Option.getD_some] at hab
     injection hab with hab
     have hab:=congrArg Array.toList hab
     simp only [List.cons.injEq,and_true] at hab
     obtain ⟨rfl,rfl⟩:=hab
     have hcl:clearK f=clear12 f:=by unfold clearK;simp [hkk]
     have hcc:checkC (fs.take i) deps strs f=orC (withinC 4294967295 0 [f.key]) (orC (needC (strB strs f.of) 8) (sizedC (numR (fs.take i)) f)):=by unfold checkC;simp [hkk]
     rw [hcl,hcc]
     exact exa_tail (e00.trans e1) hw p3 p6 f tv cv hT1 hC1 o31 _ _ (e1.obj o6) c237 c238 clear12 true false clears12 rfl rfl _ (fun w v hw hf=>view_flw hw i hi hlt v f hf)
 · have hd:decide (1≤f.kind∧f.kind≤12)=false:=by simpa using hk
   rw [hd]
   have hs:ok=false:=by rw [hok,hn _ hk];rfl
   subst hs
   refine callK_flw (need_flw h false 4 Qj) (fun w1 e1 h0=>absurd h0 Qj) (fun w1 e1 h0=>?_)
   exact flwR_pan (e00.trans e1) rfl h0
end
section
variable {w0:World} {cb md ms:Nat} {deps strs:List (ByteArray×Value)} {at_ fld:Int} {fs:List FieldD}
theorem examine_flw (h:Chk w0 cb md ms deps strs at_ fld fs) (i:Nat) (hi:fld=i) (hlt:i < fs.length) (v:Value) (f:FieldD) (hf:FieldVal w0 v f) :
 Calls Pg 161 #[.pointer (some ⟨cb,0,none⟩),v] w0 (flwR w0 at_ fld (examineC (fs.take i) deps strs f)):=by
 obtain ⟨tv,cv,rfl,hT,hC,ht1,hc1⟩:=hf.op
 refine n60s ?_;unfold n60
 refine Qf ?_
 generalize hW:World.alloc w0 _=W
 have e0:Ext w0 W:=by rw [← hW];exact ee
 have o3:W.heap[w0.heap.size]?=some (.cells (fieldCells f tv cv).toArray 123 (0,0)):=by rw [← hW];exact Qb
 clear hW
 refine zcr (Name_ret _ f.name) fun w1 e1=>?_
 have e01:=e0.trans e1
 unfold examineC
 refine callK_flw (need_flw (h.ext e01) _ 1 Qj) (fun w2 e2 h0=>?_) (fun w2 e2 h0=>?_)
 · rw [h0,orC_zero]
   have e02:=e01.trans e2
   have o32:=(e1.trans e2).obj o3
   refine drawK_intro ?_
   simp (disch:=try exact DI) only [↓PR,QR,simprocAttr,↓n60c8,(cells_of_heap o32).1]
   have eD:Ext w0 w2.drew:=e02.wdrew
   refine callK_ret (before_ret (h.ext eD) i hi hlt) ?_
   rintro bv w3 ⟨hB,e3⟩
   refine ⟨e3,?_⟩
   have hb1:=SliceOf.oneCell hB
   refine Qf ?_
   refine zcr (Field_ret w3 _ ⟨ByteArray.empty,fs.take i⟩ f.name ⟨bv,rfl,hB⟩) fun w4 e4=>?_
   refine ⟨e3.trans e4,?_⟩
   simp (disch:=try exact DI) only [↓PR,QR,simprocAttr,↓n60c7]
   have e04:=eD.trans (e3.trans e4)
   have e24:Ext w2 w4:=(Ext.refl w2).wdrew.trans (e3.trans e4)
   refine callK_flw (need_flw (h.ext e04) _ 2 Qj) (fun w5 e5 h0=>?_) (fun w5 e5 h0=>?_)
   · rw [h0,orC_zero]
     have e05:=e04.trans e5
     have o35:=(e24.trans e5).obj o32
     clear e24 e04 e3 e4 hB eD e02 e01 e1 e2 o32
     refine drawK_intro ?_
     simp (disch:=try exact DI) only [↓PR,QR,simprocAttr,↓n60c6,(cells_of_heap o35).1]
     have eD:Ext w5 w5.drew:=(Ext.refl _).wdrew
     have fin5:∀ (w':World) (m p6 c:Nat) (L:List (Int×Value×Nat)) (u0 u1:Value),Ext w5.drew w'→MapB w' m kindEnc L c→KindsIn L→w'.heap[p6]?=some (.cells #[u0,u1] 255 (0,0))→w5.heap.size≤p6 →
      n60c5 (.pointer (some ⟨p6,0,none⟩)) (.map (some m)) (.int .i64 f.kind) (KM w5.drew m kindEnc L c) (fun t5 t6 w=>callK Pg 135 #[.pointer (some ⟨cb,0,none⟩),t5,.int .i64 4] (panK (flwR w0 at_ fld (orC (needC (decide (1≤f.kind∧f.kind≤12)) 4) (orC (needC (decide (clearK f=bareF f)) 5) (checkC (fs.take i) deps strs f))))) w fun _ w=>n60c3 (.pointer (some ⟨cb,0,none⟩)) (.pointer (some ⟨w0.heap.size,0,none⟩)) t6 (flwR w0 at_ fld (orC (needC (decide (1≤f.kind∧f.kind≤12)) 4) (orC (needC (decide (clearK f=bareF f)) 5) (checkC (fs.take i) deps strs f)))) w)
       (flwR w0 at_ fld (orC (needC (decide (1≤f.kind∧f.kind≤12)) 4) (orC (needC (decide (clearK f=bareF f)) 5) (checkC (fs.take i) deps strs f)))) w':=by
      intro w' m p6 c L u0 u1 e' hM hL o6 hp6
      haveI:ClassNe (KM w5.drew m kindEnc L c):=⟨⟨w',e',hM⟩⟩
      unfold n60c5
      rw [qV_lookupKM Tryz.underlying257 (KeyOK.int Tryz.underlying117) ty255 ⟨w',e',hM⟩]
      obtain ⟨a,b,hab,ha,hb⟩:∃ a b,(Sw.look L f.kind).getD (.agg #[.nilFunc,.nilFunc]) = .agg #[a,b]∧a.oneCell'=true∧b.oneCell'=true:=by
       obtain ⟨hn,k1,k2,k3,k4,k5,k6,k7,k8,k9,k10,k11,k12⟩:=hL
       by_cases hk:1≤f.kind∧f.kind≤12
       · have this:f.kind=1∨f.kind=2∨f.kind=3∨f.kind=4∨f.kind=5∨f.kind=6∨f.kind=7∨f.kind=8∨f.kind=9∨f.kind=10∨f.kind=11∨f.kind=12:=Qx
         rcases this with h | h | h | h | h | h | h | h | h | h | h | h<;>simp only [h,k1,k2,k3,k4,k5,k6,k7,k8,k9,k10,k11,k12,Option.getD_some]<;>exact ⟨_,_,rfl,rfl,rfl⟩
       · rw [hn _ hk];exact ⟨_,_,rfl,rfl,rfl⟩
      rw [hab]
      refine QJ (cells_of_heap o6).1 (cells_of_heap o6).2 ?_
      have e6:Ext w5.drew ((w'.setCell ⟨p6,0,none⟩ a).setCell ⟨p6,1,none⟩ b):=(e'.setCell (show w5.drew.heap.size≤(⟨p6,0,none⟩:Addr).block from hp6) _).setCell (show w5.drew.heap.size≤(⟨p6,1,none⟩:Addr).block from hp6) _
      refine ⟨⟨e6,(hM.setCell _ _).setCell _ _⟩,?_⟩
      have e06:=(e05.trans eD).trans e6
      have o6':=heap_set (o:=1) (heap_set (o:=0) o6 a) b
      exact exa_mid e06 (h.ext e06) i hi hlt _ p6 f tv cv (TermsOf.ext hT e06) (CasesOf.ext hC e06) ((eD.trans e6).obj o35) L hL a b _ hab rfl (by simpa using o6')
     refine ⟨?_,?_⟩
     · refine callK_ret (kinds_ret _) ?_
       rintro _ w6 ⟨m,L,c,rfl,hm,hM,hL,e6⟩
       refine narrowK_KM e6 hM ?_
       have h9:=fin5 (w6.alloc (.cells #[.nilFunc,.nilFunc] 255)) m w6.heap.size c L _ _ (e6.alloc _) (hM.ext ((Ext.refl _).alloc _)) hL (heap_new _ _ _) (by have:=e6.size;simpa using this)
       unfold n60c5 at h9
       unfold n60c4
       simp only [drew_wdrew]
       haveI:ClassNe (KM w5.drew m kindEnc L c):=⟨⟨w6,e6,hM⟩⟩
       rw [qV_lookupKM Tryz.underlying257 (KeyOK.int Tryz.underlying117) ty255 ⟨w6,e6,hM⟩] at h9 ⊢
       refine Qf ?_
       simp only [↓Sw.GENQ] at h9
       exact ⟨⟨e6.alloc _,hM.ext ((Ext.refl _).alloc _)⟩,h9⟩
     · refine ⟨(Ext.refl _).alloc _,?_⟩
       refine callK_ret (kinds_ret _) ?_
       rintro _ w6 ⟨m,L,c,rfl,hm,hM,hL,e6⟩
       refine narrowK_KM (((Ext.refl _).alloc _).trans e6) hM ?_
       exact fin5 w6 m w5.heap.size c L _ _ (((Ext.refl _).alloc _).trans e6) hM hL (e6.obj (heap_new w5.drew _ _)) (Nat.le_refl _)
   · rw [orC_ne h0]
     exact flwR_pan (e04.trans e5) rfl h0
 · rw [orC_ne h0]
   exact flwR_pan (e01.trans e2) rfl h0
end
def refsF (f:FieldD):List ByteArray:=if f.kind=7∨f.kind=8∨f.kind=12 then [f.of] else if f.kind=9 then f.cases.map (·.of) else []
def allRefs (l:List FieldD):List ByteArray:=l.flatMap refsF
abbrev strEnc (s:ByteArray):List Value:=[.string s]
theorem append_str {w:World} {QP:List PanicEntry→World→Prop} {k:Value→World→Prop} {base:Nat} {v:Value} {l:List ByteArray} (s:ByteArray) {b:Nat} (hown:OwnE w base 9 1 strEnc v l) (hc:w.cell? ⟨b,0,none⟩=some (.string s)) (hbase:base≤w.heap.size) (hl:l.length≤1048576)
 (hk:∀ v' w',OwnE w' base 9 1 strEnc v' (l++[s])→w.grownBy w' v.ownBlock→k v' w') :
 opV Pg (Builtin.append_ #[94,94] 94 #[v,.slice (some ⟨b,0,none⟩) 1 1]) QP w k:=by
 have hby:=by9
 refine op_appendE (l':=[s]) Tryz.underlying94 ty9 rfl Qj (fun _=>rfl) (fun x _ u hu=>by simp at hu;subst hu;rfl) hown (fun j x hx=>?_) hbase ?_ (by simp;omega) hk
 · cases j with
   | zero =>
    simp at hx;subst hx
    intro j v hv
    cases j with
    | zero=>simp at hv;subst hv;simpa using hc
    | succ j=>simp at hv
   | succ j=>simp at hx
 · simp only [List.length_cons,List.length_nil]
   exact Nat.le_trans (Nat.mul_le_mul (Nat.add_le_add_right hl 1) hby) Qj
def StrsAt (w:World) (pb:Nat) (sv:Value) (l:List ByteArray):Prop:=w.cell? ⟨pb,0,none⟩=some sv∧SliceOf w 1 EStr sv l∧∀ A m c,sv = .slice (some A) m c→pb < A.block
theorem StrsAt.ext {w w':World} {pb:Nat} {sv:Value} {l:List ByteArray} (h:StrsAt w pb sv l) (e:Ext w w'):StrsAt w' pb sv l:=⟨e.cell h.1,h.2.1.ext keptStr e,h.2.2⟩
theorem append_cell {w0 w:World} {QP:List PanicEntry→World→Prop} {ku:World→Prop} {pb lo p:Nat} {sv:Value} {l:List ByteArray} (s:ByteArray) {T T':TypeId} (hp:p=w.heap.size) (e:Ext w0 w) (h0:w0.heap.size≤pb) (hlo:pb < lo) (o3:w.heap[pb]?=some (.cells #[sv] T (0,0))) (hO:OwnE w lo 9 1 strEnc sv l) (hs:lo≤w.heap.size) (hl:l.length≤1048576)
 (hk:∀ w' sv',Ext w0 w'→w'.heap[pb]?=some (.cells #[sv'] T (0,0))→OwnE w' lo 9 1 strEnc sv' (l++[s])→lo≤w'.heap.size→ku w') :
 opV Pg (Builtin.append_ #[94,94] 94 #[sv,.slice (some ⟨p,0,none⟩) 1 1]) QP (w.alloc (.cells #[.string s] T')) (fun t w=>opU Pg (Instr.storeAt 94 (.pointer (some ⟨pb,0,none⟩)) t) QP w ku):=by
 subst hp
 have l3:pb < w.heap.size:=(Qk o3).1
 have o3':=((Ext.refl w).alloc (.cells #[.string s] T')).obj o3
 refine append_str s (hO.ext ((Ext.refl w).alloc _)) (by rw [cell_new];rfl) (Nat.le_trans hs (by simp)) hl ?_
 intro v' w' hO' hg
 have hne:some pb≠sv.ownBlock:=by
  intro h
  have:=hO.lt pb h.symm
  omega
 have o3w:w'.heap[pb]?=some (.cells #[sv] T (0,0)):=by rw [hg.block pb (by simp;omega) hne];exact o3'
 have eg:Ext w0 w':=(e.alloc _).grown hg (fun k hk=>by have:=hO.lt k hk;omega)
 have hv:=(hO'.slice (E:=EStr) (fun _=>rfl) (fun _ _=>rfl)).oneCell
 rw [op_store1 ty94 hv ((cells_of_heap o3w).1 0) ((cells_of_heap o3w).2 0)]
 refine hk _ v' (eg.setCell h0 _) ?_ ((hO'.range.only (Only.setCell w' pb 0 v') (.inr (.inl hlo))).1) ?_
 · have:=heap_set (o:=0) o3w v'
   simpa using this
 · have:=hg.size
   simp at this ⊢
   omega
theorem Refers_ret (w0:World) (v:Value) (m:MsgD) (hm:MsgVal w0 v m) (hb:(allRefs m.fields).length≤1048576) :
 Ret Pg 162 #[v] w0 fun r w'=>∃ pb sv,r = .func (.func 198) #[] #[.pointer (some ⟨pb,0,none⟩)]∧StrsAt w' pb sv (allRefs m.fields)∧w0.heap.size≤pb∧Ext w0 w':=by
 obtain ⟨fv,rfl,hF⟩:=hm
 obtain ⟨A,c,rfl,hlc,hcm,hlm,hel⟩:=SliceOf.open hF
 refine n53s (R:=retR _) ?_;unfold n53
 refine Qf ?_
 generalize hW:World.alloc (World.alloc w0 _) _=W
 have e0:Ext w0 W:=by rw [← hW];exact ee
 have hsz:W.heap.size=w0.heap.size+1+1:=by rw [← hW];simp only [World.size_alloc]
 have o3:W.heap[w0.heap.size+1]?=some (.cells #[.slice none 0 0] 94 (0,0)):=by rw [← hW];exact Qb
 clear hW
 refine loop1_intro (fun a0 w=>∃ (k:Nat) , a0 = .int .i64 (k:Int)∧k≤m.fields.length∧Ext w0 w∧(∃ sv,w.heap[w0.heap.size+1]?=some (.cells #[sv] 94 (0,0))∧OwnE w W.heap.size 9 1 strEnc sv (allRefs (m.fields.take k))∧W.heap.size≤w.heap.size)) (fun a0 _=>m.fields.length - (intOf a0).toNat) ⟨0,rfl,Nat.zero_le _,ee,⟨_,o3,OwnE.nil _ _ _ _ _,Nat.le_refl _⟩⟩ ?_
 rintro _ w ⟨k,rfl,hk,e,hI⟩
 have se:=e.size
 rcases drop_cases hk with ⟨x,hx,hd,hlt,hdec⟩ | ⟨hk,hd,hdec⟩
 · obtain ⟨sv,o3,hO,hsW⟩:=hI
   obtain ⟨b,o,cs,rfl,hl,hA,hE⟩:=hel k x hx
   obtain ⟨tv,cv,rfl,hT,hC,ht1,hc1⟩:=hE.op
   have hpre:(allRefs (m.fields.take (k+1)))=allRefs (m.fields.take k)++refsF x:=by unfold allRefs;rw [take_snoc hx,List.flatMap_append];simp
   have hle:(allRefs (m.fields.take (k+1))).length≤1048576:=by
    refine Nat.le_trans ?_ hb
    have:m.fields=m.fields.take (k+1)++m.fields.drop (k+1):=(List.take_append_drop _ _).symm
    conv=>rhs;rw [this]
    unfold allRefs
    rw [List.flatMap_append,List.length_append]
    omega
   rw [hpre,List.length_append] at hle
   have hsv:=(hO.slice (E:=EStr) (fun _=>rfl) (fun _ _=>rfl)).oneCell
   simp (disch:=try exact DI) only [↓PR,QR,simprocAttr,↓n53c1,↓n53c2,↓n53c3,↓n53c4,↓n53c5,↓n53c6,↓n53c7,hdec,hA.c15]
   generalize hW1:World.alloc w _=w1
   have e1:Ext w w1:=by rw [← hW1];exact ee
   have o5:w1.heap[w.heap.size]?=some (.cells (fieldCells x tv cv).toArray 123 (0,0)):=by rw [← hW1];exact Qb
   clear hW1
   have s1:=e1.size
   have e01:=e.trans e1
   have o31:=e1.obj o3
   have hO1:=hO.ext e1
   have l5:w.heap.size < w1.heap.size:=(Qk o5).1
   have l3:w0.heap.size+1 < w1.heap.size:=(Qk o31).1
   by_cases hr:x.kind=7∨x.kind=8∨x.kind=12
   · have hrf:refsF x=[x.of]:=by unfold refsF;rw [if_pos hr]
     rw [hrf] at hpre hle
     have key:∀ b,b=true→n53c4 (.pointer (some ⟨w0.heap.size+1,0,none⟩)) (.pointer (some ⟨w.heap.size,0,none⟩)) (.int .i64 (k:Int)) (.int .i64 x.kind) (.bool b) (fun a0' w'=>(∃ k:Nat,a0'=Value.int IntKind.i64 (k:Int)∧k≤m.fields.length∧Ext w0 w'∧∃ sv,w'.heap[w0.heap.size+1]?=some (.cells #[sv] 94 (0,0))∧OwnE w' W.heap.size 9 1 strEnc sv (allRefs (m.fields.take k))∧W.heap.size≤w'.heap.size)∧m.fields.length - (intOf a0').toNat < m.fields.length - (intOf (Value.int IntKind.i64 (k:Int))).toNat)
      (retR fun r w'=>∃ pb sv,r = .func (.func 198) #[] #[.pointer (some ⟨pb,0,none⟩)]∧StrsAt w' pb sv (allRefs m.fields)∧w0.heap.size≤pb∧Ext w0 w') w1:=by
      rintro b rfl
      simp (disch:=try exact DI) only [↓PR,QR,simprocAttr,↓n53c1,↓n53c2,↓n53c3,↓n53c4,↓n53c5,↓n53c6,↓n53c7,(cells_of_heap o31).1,(cells_of_heap o5).1]
      refine append_cell x.of rfl e01 Qx Qx o31 hO1 Qx (by simp at hle;omega) ?_
      intro w2 sv2 e2 o32 hO2 hs2
      rw [← hpre] at hO2
      refine Qf ?_
      exact ⟨⟨k+1,rfl,by omega,ee,⟨sv2,o32,hO2,hs2⟩⟩,meas_lt (kd := .i64) hlt⟩
     simp only [World.size_alloc]
     rcases hr with h | h | h
     · rw [h] at key ⊢
       refine Qf ?_
       exact key true rfl
     · rw [h] at key ⊢
       simp (disch:=try exact DI) only [↓PR,QR,simprocAttr,↓n53c5]
       exact key true rfl
     · rw [h] at key ⊢
       simp (disch:=try exact DI) only [↓PR,QR,simprocAttr,↓n53c5]
       exact key true rfl
   · have h7:(x.kind == 7)=false:=by simp;omega
     have h8:(x.kind == 8)=false:=by simp;omega
     have h12:(x.kind == 12)=false:=by simp;omega
     simp only [World.size_alloc]
     by_cases h9:x.kind=9
     · have h9':(x.kind == 9)=true:=by simp [h9]
       have hrf:refsF x=x.cases.map (·.of):=by unfold refsF;rw [if_neg hr,if_pos h9]
       rw [hrf] at hpre hle
       obtain ⟨A',c',rfl,hlc',hcm',hlm',hel'⟩:=SliceOf.open hC
       simp (disch:=try exact DI) only [↓PR,QR,simprocAttr,↓n53c1,↓n53c2,↓n53c3,↓n53c4,↓n53c5,↓n53c6,↓n53c7,h7,h8,h12,h9',(cells_of_heap o5).1]
       refine loop1_intro (fun a0 wa=>∃ (ka:Nat) , a0 = .int .i64 (ka:Int)∧ka≤x.cases.length∧Ext w0 wa∧(∃ sv,wa.heap[w0.heap.size+1]?=some (.cells #[sv] 94 (0,0))∧OwnE wa W.heap.size 9 1 strEnc sv (allRefs (m.fields.take k)++(x.cases.take ka).map (·.of))∧W.heap.size≤wa.heap.size)) (fun a0 _=>x.cases.length - (intOf a0).toNat) ⟨0,rfl,Nat.zero_le _,ee,⟨sv,o31,by simpa using hO1,by omega⟩⟩ ?_
       rintro _ wa ⟨ka,rfl,hka,ea,hIa⟩
       have sea:=ea.size
       rcases drop_cases hka with ⟨xa,hxa,hda,hlta,hdeca⟩ | ⟨hka,hda,hdeca⟩
       · obtain ⟨sva,oa,hOa,hsa⟩:=hIa
         obtain ⟨b',o',cs',rfl,_,hA',rfl⟩:=hel' ka xa hxa
         have la:w0.heap.size+1 < wa.heap.size:=(Qk oa).1
         have oa':=((Ext.refl wa).alloc (.cells #[.int .i64 xa.low,.int .i64 xa.high,.string xa.of] 213)).obj oa
         have hla:(x.cases.take ka).length≤x.cases.length:=by rw [List.length_take];omega
         simp (disch:=try exact DI) only [↓PR,QR,simprocAttr,↓n53c1,↓n53c2,↓n53c3,↓n53c4,↓n53c5,↓n53c6,↓n53c7,hdeca,hA'.c3,(cells_of_heap oa').1,(cells_of_heap oa).1]
         refine append_cell xa.of (by simp only [World.size_alloc]) (ea.alloc _) Qx Qx oa' (hOa.ext ((Ext.refl wa).alloc _)) (by simp;omega) (by simp at hle hla ⊢;omega) ?_
         intro w2 sv2 e2 o32 hO2 hs2
         refine Qf ?_
         have hO3:OwnE w2 W.heap.size 9 1 strEnc sv2 (allRefs (m.fields.take k)++(x.cases.take (ka+1)).map (·.of)):=by
          rw [take_snoc hxa,List.map_append,← List.append_assoc];exact hO2
         exact ⟨⟨ka+1,rfl,by omega,ee,⟨sv2,o32,hO3,hs2⟩⟩,meas_lt (kd := .i64) hlta⟩
       · subst hka
         obtain ⟨sva,oa,hOa,hsa⟩:=hIa
         rw [List.take_length,← hpre] at hOa
         simp (disch:=try exact DI) only [↓PR,QR,simprocAttr,↓n53c1,↓n53c2,↓n53c3,↓n53c4,↓n53c5,↓n53c6,↓n53c7,hdeca]
         exact ⟨⟨k+1,rfl,by omega,ee,⟨sva,oa,hOa,hsa⟩⟩,meas_lt (kd := .i64) hlt⟩
     · have h9':(x.kind == 9)=false:=by simp;omega
       have hrf:refsF x=[]:=by unfold refsF;rw [if_neg hr,if_neg h9]
       rw [hrf,List.append_nil] at hpre
       rw [← hpre] at hO1
       simp (disch:=try exact DI) only [↓PR,QR,simprocAttr,↓n53c1,↓n53c2,↓n53c3,↓n53c4,↓n53c5,↓n53c6,↓n53c7,h7,h8,h12,h9',(cells_of_heap o5).1]
       exact ⟨⟨k+1,rfl,by omega,ee,⟨sv,o31,hO1,by omega⟩⟩,meas_lt (kd := .i64) hlt⟩
 · subst hk
   obtain ⟨sv,o3,hO,hsW⟩:=hI
   rw [List.take_length] at hO
   simp (disch:=try exact DI) only [↓PR,QR,simprocAttr,↓n53c1,↓n53c2,↓n53c3,↓n53c4,↓n53c5,↓n53c6,↓n53c7,hdec]
   have hS:=hO.slice (E:=EStr) (fun _=>rfl) (fun _ _=>rfl)
   exact ⟨_,sv,rfl,⟨(cells_of_heap o3).1 0,hS,fun A m c e=>by subst e;have:=hO.lt A.block rfl;omega⟩,by omega,e⟩
theorem Index_string_ret (w0:World) (v:Value) (l:List ByteArray) (s:ByteArray) (hs:SliceOf w0 1 EStr v l) :
 Ret Pg 167 #[v,.string s] w0 fun r w'=>r = .int .i64 (idx (fun y=>decide (s=y)) l)∧Ext w0 w':=by
 obtain ⟨A,c,rfl,hlc,hcm,hlm,hel⟩:=SliceOf.open hs
 refine n135s (R:=retR _) ?_;unfold n135
 refine Qf ?_
 refine loop1_intro (fun a0 w=>∃ (k:Nat) , a0 = .int .i64 (k:Int)∧k≤l.length∧Ext w0 w∧∀ (j:Nat) y,j < k→l[j]?=some y→decide (s=y)=false) (fun a0 _=>l.length - (intOf a0).toNat) ⟨0,rfl,Nat.zero_le _,ee,fun j y h=>by omega⟩ ?_
 rintro _ w ⟨k,rfl,hk,e,hI⟩
 have se:=e.size
 rcases drop_cases hk with ⟨x,hx,hd,hlt,hdec⟩ | ⟨hk,hd,hdec⟩
 · obtain ⟨b,o,cs,rfl,hl,hA,rfl⟩:=hel k x hx
   simp (disch:=try exact DI) only [↓PR,QR,simprocAttr,hdec,hA.c1,↓n135c1]
   cases hp:decide (s=x) with
   | true =>
    refine Qf ?_
    exact ⟨by rw [idx_here hx hp hI],e⟩
   | false =>
    refine Qf ?_
    exact ⟨⟨k+1,rfl,by omega,ee,before_succ hI hx hp⟩,meas_lt (kd := .i64) hlt⟩
 · subst hk
   simp (disch:=try exact DI) only [↓PR,QR,simprocAttr,hdec,↓n135c1]
   exact ⟨by rw [idx_none fun j y hy=>hI j y (Qv hy).1 hy],e⟩
theorem Contains_string_ret (w0:World) (v:Value) (l:List ByteArray) (s:ByteArray) (hs:SliceOf w0 1 EStr v l) :
 Ret Pg 142 #[v,.string s] w0 fun r w'=>r = .bool (l.any fun y=>decide (s=y))∧Ext w0 w':=by
 refine n123s (R:=retR _) ?_;unfold n123
 refine callK_ret (Index_string_ret _ _ l s hs) ?_
 rintro r w' ⟨rfl,e⟩
 refine Qg ?_
 exact ⟨by rw [idx_neg],e⟩
def dedupA:List ByteArray→List ByteArray→List ByteArray
 | _,[]=>[]
 | seen,s::l=>if seen.any (fun y=>decide (s=y)) then dedupA (seen++[s]) l else s::dedupA (seen++[s]) l
def strX (l:List ByteArray) (k:Nat):Value:=match l[k]? with
 | some s => .string s
 | none=>undef
theorem Refers_seq (pb:Nat) (sv:Value) (l:List ByteArray):SeqIt Pg 198 #[.pointer (some ⟨pb,0,none⟩)] (dedupA [] l).length (strX (dedupA [] l)) (fun w=>StrsAt w pb sv l):=by
 intro yv J Jx Jp w hFP hJe hJx hstep h0
 obtain ⟨hc,hT,_⟩:=hFP 0 w h0
 obtain ⟨A,c,rfl,hlc,hcm,hlm,hel⟩:=SliceOf.open hT
 refine n54s (t0:=yv) (t1 := .pointer (some ⟨pb,0,none⟩)) ?_
 unfold n54
 refine Qp hc ?_
 refine loop1_intro (fun i w=>∃ k j:Nat,i = .int .i64 k∧k≤l.length∧J j w∧j≤(dedupA [] l).length∧(dedupA [] l).drop j=dedupA (l.take k) (l.drop k)) (fun i _=>l.length - (intOf i).toNat) ⟨0,0,rfl,by omega,h0,by omega,rfl⟩ ?_
 rintro i w' ⟨k,j,rfl,hk,hJ,hj,hD⟩
 rcases drop_cases hk with ⟨x,hx,hd,hlt,hdec⟩ | ⟨hk,hd,hdec⟩
 · obtain ⟨hc',hT',_⟩:=hFP j w' hJ
   obtain ⟨A',c',hv,_,hcm',_,hel'⟩:=SliceOf.open hT'
   injection hv with hv _ hv'
   subst hv hv'
   obtain ⟨b,o,cs,rfl,hl,hA,rfl⟩:=hel' k x hx
   have er:=Ext.refl w'
   rw [hd] at hD
   simp only [dedupA] at hD
   simp (disch:=try exact DI) only [↓PR,QR,simprocAttr,↓n54c1,↓n54c2,hdec,hA.c1,hc']
   rw [op_sliceTo Tryz.underlying94 ty9 b o l.length c .i64 k Qx]
   have hlen:(l.take k).length=k:=by rw [List.length_take];omega
   have hpre:SliceOf w' 1 EStr (.slice (some ⟨b,o,none⟩) k c) (l.take k):=by
    refine ⟨_,c,by rw [hlen],by rw [hlen];omega,hcm,fun _=>⟨b,o,rfl,fun i y hy=>?_⟩⟩
    rw [List.getElem?_take] at hy
    split at hy
    · obtain ⟨b',o',cs,hA',h1,h2,h3⟩:=hel' i y hy
      injection hA' with hA'
      injection hA' with h5 h6
      subst h5 h6
      exact ⟨cs,h1,h2,h3⟩
    · cases hy
   refine zcr (Contains_string_ret w' _ _ x hpre) fun w2 e2=>?_
   have hJ2:=hJe j w' w2 hJ e2
   have htk:l.take (k+1)=l.take k++[x]:=take_snoc hx
   cases hany:(l.take k).any (fun y=>decide (x=y)) with
   | true =>
    rw [hany,if_pos rfl,← htk] at hD
    simp (disch:=try exact DI) only [↓PR,QR,simprocAttr,↓n54c1,↓n54c2]
    exact ⟨⟨k+1,j,rfl,by omega,hJ2,hj,hD⟩,meas_lt (kd := .i64) hlt⟩
   | false =>
    rw [hany,if_neg (by simp),← htk] at hD
    have hjl:j < (dedupA [] l).length:=by
     have:=congrArg List.length hD
     simp at this
     omega
    have hxj:(dedupA [] l)[j]?=some x:=by
     have:=congrArg (fun l=>l[0]?) hD
     simpa using this
    have hD2:(dedupA [] l).drop (j+1)=dedupA (l.take (k+1)) (l.drop (k+1)):=by
     rw [← List.tail_drop,hD];rfl
    have hs:=hstep j hjl w2 hJ2
    rw [show strX (dedupA [] l) j = .string x by unfold strX;rw [hxj]] at hs
    simp (disch:=try exact DI) only [↓PR,QR,simprocAttr,↓n54c1,↓n54c2]
    refine callV_mono hs (fun ch w h=>h) ?_
    rintro v w3 (⟨rfl,h2⟩ | ⟨rfl,h2⟩)
    · simp (disch:=try exact DI) only [↓PR,QR,simprocAttr,↓n54c1,↓n54c2]
      exact ⟨⟨k+1,j+1,rfl,by omega,h2,hjl,hD2⟩,meas_lt (kd := .i64) hlt⟩
    · simp (disch:=try exact DI) only [↓PR,QR,simprocAttr,↓n54c1,↓n54c2]
      exact .inr h2
 · subst hk
   simp (disch:=try exact DI) only [↓PR,QR,simprocAttr,↓n54c1,↓n54c2,hdec]
   rw [hd] at hD
   have hjl:j=(dedupA [] l).length:=by
    have:=congrArg List.length hD
    simp [dedupA] at this
    omega
   rw [← hjl]
   exact .inl hJ
theorem mem_dedup:∀ (l seen:List ByteArray) (s:ByteArray),s∈dedupA seen l↔s∈l∧s ∉ seen
 | [],seen,s=>by simp [dedupA]
 | a::l,seen,s=>by
  simp only [dedupA]
  by_cases h:(seen.any fun y=>decide (a=y))=true
  · rw [if_pos h,mem_dedup l]
    have ha:a∈seen:=by obtain ⟨y,h1,h2⟩:=List.any_eq_true.1 h;simp at h2;subst h2;exact h1
    simp only [List.mem_append,List.mem_singleton,List.mem_cons,not_or]
    constructor
    · rintro ⟨h1,h2,h3⟩;exact ⟨.inr h1,h2⟩
    · rintro ⟨h1 | h1,h2⟩
      · subst h1;exact absurd ha h2
      · exact ⟨h1,h2,⟨fun (e:s=a)=>h2 (e ▸ ha),by simp⟩⟩
  · rw [if_neg h]
    have ha:a ∉ seen:=fun h2=>h (List.any_eq_true.2 ⟨a,h2,by simp⟩)
    simp only [List.mem_cons,mem_dedup l,List.mem_append,List.mem_singleton,not_or]
    by_cases e:s=a
    · subst e;simp [ha]
    · simp [e]
abbrev OwnS (w:World) (base:Nat) (v:Value) (l:List ByteArray):Prop:=OwnE w base 9 1 strEnc v l
def n21c1 (t0 t3 t4 t6 t11 t62:Value) (C8:World→Prop) (next7:KV) (R:RT) (w:World):Prop :=
 qV Pg C8 (Instr.loadAt 43 t11) fun t72 =>
 qV Pg C8 (Instr.loadAt 74 t4) fun t73 =>
 qV Pg C8 (Instr.loadAt 74 t6) fun t74 =>
 qV Pg C8 (Instr.fieldAt 60 t3 2) fun t75 =>
 qV Pg C8 (Instr.loadAt 58 t75) fun t76 =>
 qV Pg C8 (Instr.sliceAt 58 t76 none (some t62) none) fun t78 =>
 C0 77 #[t0,t72,t73,t74,t78] R w fun t79 w =>
 C8 w∧(
 B0 .add 3 true t62 (.int .i64 1) R w fun t80 w =>
 next7 t80 w)
def n21c2 (t0 t87 t94 t100:Value) (next9:KV) (R:RT) (w:World):Prop :=
 pickK t94 (.bool true) t100 fun t101 =>
 C0 33 #[t0,t101,(.int .i64 10)] R w fun t102 w =>
 B0 .add 3 true t87 (.int .i64 1) R w fun t103 w =>
 next9 t103 w
def n21c3 (t0 t13 t87 t94:Value) (next9:KV) (R:RT) (w:World):Prop :=
 joinK (fun (t100:Value) (w:World) =>
 n21c2 t0 t87 t94 t100 next9 R w) fun K10 =>
 guardP t94 false (
 L0 123 t13 R w fun t98 w =>
 C0 68 #[t98] R w fun t99 w =>
 B0 .eql 124 true t99 (.int .i64 0) R w fun t100 w =>
 K10 t100 w) (
 K10 undef w)
def n21c4 (t0 t3 t85 t87:Value) (next9:KV) (R:RT) (w:World):Prop :=
 X0 72 t85 t87 R w fun t89 w =>
 L0 123 t89 R w fun t90 w =>
 opV Pg (Instr.alloc 123 true (.tuple #[])) (panK R) w fun t13 w =>
 opU Pg (Instr.storeAt 123 t13 t90) (panK R) w fun w =>
 F0 60 t3 2 R w fun t91 w =>
 L0 58 t91 R w fun t92 w =>
 opV Pg (Instr.makeFunc (.func 79) #[] #[t13]) (panK R) w fun t93 w =>
 C0 78 #[t92,t93] R w fun t94 w =>
 n21c3 t0 t13 t87 t94 next9 R w
def n21c5 (t0 t3 t6:Value) (R:RT) (w:World):Prop :=
 opN Pg (nilN t0) (panK R) w fun t82 w =>
 F0 81 t82 4 R w fun t83 w =>
 opU Pg (Instr.storeAt 3 t83 (.int .i64 (-1))) (panK R) w fun w =>
 F0 74 t6 1 R w fun t84 w =>
 L0 72 t84 R w fun t85 w =>
 opV Pg (Builtin.len_ #[72] 3 #[t85]) (panK R) w fun t86 w =>
 loop1 (fun t87 w next9 =>
 B0 .lss 3 false t87 t86 R w fun t88 w =>
 condP t88 (
 n21c4 t0 t3 t85 t87 next9 R w) (
 R (.returned (.tuple #[])) w)) (.int .i64 0) w
def n21c6 (t0 t3 t4 t6 t60 t62:Value) (next7:KV) (R:RT) (w:World):Prop :=
 X0 58 t60 t62 R w fun t65 w =>
 L0 43 t65 R w fun t66 w =>
 opV Pg (Instr.alloc 43 true (.tuple #[])) (panK R) w fun t11 w =>
 opU Pg (Instr.storeAt 43 t11 t66) (panK R) w fun w =>
 opN Pg (nilN t0) (panK R) w fun t69 w =>
 F0 81 t69 4 R w fun t70 w =>
 opU Pg (Instr.storeAt 3 t70 t62) (panK R) w fun w =>
 drawK w fun C8 w =>
 n21c1 t0 t3 t4 t6 t11 t62 C8 next7 R w
def n21c7 (t0 t3 t4 t6:Value) (R:RT) (w:World):Prop :=
 F0 60 t3 2 R w fun t59 w =>
 L0 58 t59 R w fun t60 w =>
 opV Pg (Builtin.len_ #[58] 3 #[t60]) (panK R) w fun t61 w =>
 loop1 (fun t62 w next7 =>
 B0 .lss 3 false t62 t61 R w fun t63 w =>
 condP t63 (
 n21c6 t0 t3 t4 t6 t60 t62 next7 R w) (
 n21c5 t0 t3 t6 R w)) (.int .i64 0) w
def n21c8 (t0 t3 t4 t6 t48:Value) (C6:World→Prop) (R:RT) (w:World):Prop :=
 qV Pg C6 (Instr.extract t48 0) fun t49 =>
 qV Pg C6 (Instr.extract t48 1) fun t50 =>
 opN Pg (nilN t0) (panK R) w fun t54 w =>
 F0 81 t54 3 R w fun t55 w =>
 L0 3 t55 R w fun t56 w =>
 B0 .eql 3 false t49 t56 R w fun t57 w =>
 C0 33 #[t0,t57,(.int .i64 4)] R w fun t58 w =>
 n21c7 t0 t3 t4 t6 R w
def n21c9 (t0 t3 t4 t6:Value) (C6:World→Prop) (R:RT) (w:World):Prop :=
 qN Pg C6 (nilN t0) fun t43 =>
 qV Pg C6 (Instr.fieldAt 81 t43 0) fun t44 =>
 qV Pg C6 (Instr.loadAt 24 t44) fun t45 =>
 qV Pg C6 (Instr.fieldAt 60 t3 0) fun t46 =>
 qV Pg C6 (Instr.loadAt 9 t46) fun t47 =>
 C0 20 #[t45,t47] R w fun t48 w =>
 C6 w∧(
 n21c8 t0 t3 t4 t6 t48 C6 R w)
def n21c10 (t0 t3 t4 t5 t6 t7:Value) (R:RT) (w:World):Prop :=
 joinK (fun (t38:Value) (w:World) =>
 pickK t5 t38 (.bool false) fun t39 =>
 C0 33 #[t0,t39,(.int .i64 3)] R w fun t40 w =>
 drawK w fun C6 w =>
 n21c9 t0 t3 t4 t6 C6 R w) fun K5 =>
 guardP t5 true (
 K5 t7 w) (
 K5 undef w)
def n21c11 (t32:Value) (C3:World→Prop) (K4:KW) (R:RT) (w:World):Prop :=
 qV Pg C3 (Instr.extract t32 0) fun t33 =>
 qV Pg C3 (Instr.extract t32 1) fun t34 =>
 opV Pg (Instr.alloc 74 true (.tuple #[])) (panK R) w fun t6 w =>
 C3 w∧(
 opU Pg (Instr.storeAt 74 t6 t33) (panK R) w fun w =>
 C3 w∧(
 K4 t6 t34 w))
def n21c12 (t6 t32:Value) (C3:World→Prop) (K4:KW) (R:RT) (w:World):Prop :=
 C3 w∧(
 qV Pg C3 (Instr.extract t32 0) fun t33 =>
 qV Pg C3 (Instr.extract t32 1) fun t34 =>
 opU Pg (Instr.storeAt 74 t6 t33) (panK R) w fun w =>
 C3 w∧(
 K4 t6 t34 w))
def n21c13 (t0 t3 t4 t5:Value) (C3:World→Prop) (R:RT) (w:World):Prop :=
 qN Pg C3 (nilN t0) fun t27 =>
 qV Pg C3 (Instr.fieldAt 81 t27 2) fun t28 =>
 qV Pg C3 (Instr.loadAt 27 t28) fun t29 =>
 qV Pg C3 (Instr.fieldAt 60 t3 1) fun t30 =>
 qV Pg C3 (Instr.loadAt 9 t30) fun t31 =>
 joinK (fun (t6:Value) (t7:Value) (w:World) =>
 n21c10 t0 t3 t4 t5 t6 t7 R w) fun K4 =>
 (
 C0 76 #[t29,t31] R w fun t32 w =>
 C3 w∧(
 n21c11 t32 C3 K4 R w))∧(
 opV Pg (Instr.alloc 74 true (.tuple #[])) (panK R) w fun t6 w =>
 C3 w∧(
 C0 76 #[t29,t31] R w fun t32 w =>
 n21c12 t6 t32 C3 K4 R w))
def n21c14 (t22:Value) (C1:World→Prop) (K2:KW) (R:RT) (w:World):Prop :=
 qV Pg C1 (Instr.extract t22 0) fun t23 =>
 qV Pg C1 (Instr.extract t22 1) fun t24 =>
 opV Pg (Instr.alloc 74 true (.tuple #[])) (panK R) w fun t4 w =>
 C1 w∧(
 opU Pg (Instr.storeAt 74 t4 t23) (panK R) w fun w =>
 C1 w∧(
 K2 t4 t24 w))
def n21c15 (t4 t22:Value) (C1:World→Prop) (K2:KW) (R:RT) (w:World):Prop :=
 C1 w∧(
 qV Pg C1 (Instr.extract t22 0) fun t23 =>
 qV Pg C1 (Instr.extract t22 1) fun t24 =>
 opU Pg (Instr.storeAt 74 t4 t23) (panK R) w fun w =>
 C1 w∧(
 K2 t4 t24 w))
def n21c16 (t0 t3:Value) (C1:World→Prop) (R:RT) (w:World):Prop :=
 qN Pg C1 (nilN t0) fun t17 =>
 qV Pg C1 (Instr.fieldAt 81 t17 1) fun t18 =>
 qV Pg C1 (Instr.loadAt 27 t18) fun t19 =>
 qV Pg C1 (Instr.fieldAt 60 t3 0) fun t20 =>
 qV Pg C1 (Instr.loadAt 9 t20) fun t21 =>
 joinK (fun (t4:Value) (t5:Value) (w:World) =>
 drawK w fun C3 w =>
 n21c13 t0 t3 t4 t5 C3 R w) fun K2 =>
 (
 C0 76 #[t19,t21] R w fun t22 w =>
 C1 w∧(
 n21c14 t22 C1 K2 R w))∧(
 opV Pg (Instr.alloc 74 true (.tuple #[])) (panK R) w fun t4 w =>
 C1 w∧(
 C0 76 #[t19,t21] R w fun t22 w =>
 n21c15 t4 t22 C1 K2 R w))
def n21 (t0 t1:Value) (R:RT) (w:World):Prop :=
 opV Pg (Instr.box 60 t1) (panK R) w fun t3 w =>
 drawK w fun C1 w =>
 n21c16 t0 t3 C1 R w
theorem n21s {t0 t1:Value} {R:RT} {w:World} (h:n21 t0 t1 R w):Calls Pg 36 #[t0,t1] w R:=by
 refine yD Tryz.func36 ?_
 refine zs<|zr<|yv h fun _ w h=>zn<|zk<|zs<|yh [4,5,15,16,17,18,19,20,21,22,23,24] h fun C hC h=>yw 0 hC ?_
 refine yn 1 hC h fun _ h=>?_
 refine ye 2 hC h fun _ h=>?_
 refine ye 3 hC h fun _ h=>?_
 refine ye 4 hC h fun _ h=>?_
 refine ye 5 hC h fun _ h=>?_
 refine joinK_elim h (fun K2 hK h=>?_)
 refine sim_dmeet [4,5,15,22,23,24] (fun ρ w=>K2 (ρ 4) (ρ 5) w) (fun T hT=>?_) (fun σ w h=>?_)
 · obtain ⟨h0,h1⟩:=h
   refine sim_dloud2 6 10 rfl rfl Qq (fun _ _=>rfl) (fun _ _=>rfl) ?_ ?_
   · have h:=h0
     refine yc h c76 fun _ w h=>zn ?_
     obtain ⟨hC,h⟩:=h
     refine ⟨_,fun _ h=>h,hC,?_⟩
     refine yw 7 hC ?_
     refine ye 8 hC h fun _ h=>?_
     refine ye 9 hC h fun _ h=>?_
     refine yo 10 ?_
     refine yv h fun _ w h=>zn ?_
     obtain ⟨hC,h⟩:=h
     refine ⟨hC,?_⟩
     refine yo 11 ?_
     refine yu h fun w h=>zn ?_
     obtain ⟨hC,h⟩:=h
     refine ⟨hC,?_⟩
     refine yw 12 hC ?_
     refine yz ?_
     exact zt hT h
   have h:=h1
   refine yv h fun _ w h=>zn ?_
   obtain ⟨hC,h⟩:=h
   refine ⟨_,fun _ h=>h,hC,?_⟩
   refine yo 6 ?_
   refine yc h c76 fun _ w h=>zn ?_
   obtain ⟨hC,h⟩:=h
   refine ⟨hC,?_⟩
   refine yw 7 hC ?_
   refine ye 8 hC h fun _ h=>?_
   refine ye 9 hC h fun _ h=>?_
   refine yo 11 ?_
   refine yu h fun w h=>zn ?_
   obtain ⟨hC,h⟩:=h
   refine ⟨hC,?_⟩
   refine yw 12 hC ?_
   refine yz ?_
   exact zt hT h
 subst hK
 refine zk<|zs<|yh [6,7,25,26,27,28,29,30,31,32,33,34] h fun C hC h=>yw 0 hC ?_
 refine yn 1 hC h fun _ h=>?_
 refine ye 2 hC h fun _ h=>?_
 refine ye 3 hC h fun _ h=>?_
 refine ye 4 hC h fun _ h=>?_
 refine ye 5 hC h fun _ h=>?_
 refine joinK_elim h (fun K4 hK h=>?_)
 refine sim_dmeet [6,7,25,32,33,34] (fun ρ w=>K4 (ρ 6) (ρ 7) w) (fun T hT=>?_) (fun σ w h=>?_)
 · obtain ⟨h0,h1⟩:=h
   refine sim_dloud2 6 10 rfl rfl Qq (fun _ _=>rfl) (fun _ _=>rfl) ?_ ?_
   · have h:=h0
     refine yc h c76 fun _ w h=>zn ?_
     obtain ⟨hC,h⟩:=h
     refine ⟨_,fun _ h=>h,hC,?_⟩
     refine yw 7 hC ?_
     refine ye 8 hC h fun _ h=>?_
     refine ye 9 hC h fun _ h=>?_
     refine yo 10 ?_
     refine yv h fun _ w h=>zn ?_
     obtain ⟨hC,h⟩:=h
     refine ⟨hC,?_⟩
     refine yo 11 ?_
     refine yu h fun w h=>zn ?_
     obtain ⟨hC,h⟩:=h
     refine ⟨hC,?_⟩
     refine yw 12 hC ?_
     refine yz ?_
     exact zt hT h
   have h:=h1
   refine yv h fun _ w h=>zn ?_
   obtain ⟨hC,h⟩:=h
   refine ⟨_,fun _ h=>h,hC,?_⟩
   refine yo 6 ?_
   refine yc h c76 fun _ w h=>zn ?_
   obtain ⟨hC,h⟩:=h
   refine ⟨hC,?_⟩
   refine yw 7 hC ?_
   refine ye 8 hC h fun _ h=>?_
   refine ye 9 hC h fun _ h=>?_
   refine yo 11 ?_
   refine yu h fun w h=>zn ?_
   obtain ⟨hC,h⟩:=h
   refine ⟨hC,?_⟩
   refine yw 12 hC ?_
   refine yz ?_
   exact zt hT h
 subst hK
 refine zk<|zs<|sim_regionG<|yG 3<|zm<|zm<|zm<|zn<|yg1 1 2 true [38] 38 h (fun _ T hT h=>?_) fun σ w h=>?_
 · refine zm<|zn ?_
   exact zt hT h
 refine yG 2<|yp h fun _ h=>yc h c33 fun _ w h=>zn<|sim_end<|zk<|zs<|yh [8,9,41,42,43,44,45,46,47,48,49,50] h fun C hC h=>yw 0 hC ?_
 refine yn 1 hC h fun _ h=>?_
 refine ye 2 hC h fun _ h=>?_
 refine ye 3 hC h fun _ h=>?_
 refine ye 4 hC h fun _ h=>?_
 refine ye 5 hC h fun _ h=>?_
 refine yo 6 ?_
 refine yc h c20 fun _ w h=>zn ?_
 obtain ⟨hC,h⟩:=h
 refine ⟨hC,?_⟩
 refine yw 7 hC ?_
 refine ye 8 hC h fun _ h=>?_
 refine ye 9 hC h fun _ h=>?_
 refine yw 10 hC ?_
 refine yw 11 hC ?_
 refine yz<|zk<|zs<|zr<|zm<|zm<|zm<|yN h fun _ w h=>yv h fun _ w h=>yv h fun _ w h=>yb h fun _ w h=>yc h c33 fun _ w h=>zn<|zk<|zs ?_
 refine zs<|zr<|yv h fun _ w h=>yv h fun _ w h=>yx h fun _ w h=>zm<|zn<|zk<|sim_block<|yl1 [10,11,62,63,64,65,66,67,68,69,70,71,72,73,74,75,76,77,78,79,80] 62 h fun σ w next h=>zs<|zr<|yb h fun _ w h=>zn<|zk ?_
 refine zs<|yC h (fun h=>?_) fun h=>?_
 · refine sim_skip<|zk<|zs<|sim_block<|zs<|zr<|zm<|yv h fun _ w h=>yv h fun _ w h=>yv h fun _ w h=>zm<|yu h fun w h=>zn<|zk<|zs ?_
   refine zr<|zm<|zm<|yN h fun _ w h=>yv h fun _ w h=>yu h fun w h=>zn<|zk<|yh [71,72,73,74,75,76,77,78,79] h fun C hC h=>yw 0 hC ?_
   refine ye 1 hC h fun _ h=>?_
   refine ye 2 hC h fun _ h=>?_
   refine ye 3 hC h fun _ h=>?_
   refine ye 4 hC h fun _ h=>?_
   refine ye 5 hC h fun _ h=>?_
   refine yw 6 hC ?_
   refine ye 7 hC h fun _ h=>?_
   refine yo 8 ?_
   refine yc h c77 fun _ w h=>zn ?_
   obtain ⟨hC,h⟩:=h
   refine ⟨hC,?_⟩
   exact yz<|sim_block_normal<|zk<|zr<|yb h fun _ w h=>zm<|zn<|zk<|⟨rfl,h⟩
 refine sim_exit<|sim_then_exit<|sim_then_exit<|sim_block_hit<|zk<|zs<|zr<|zm<|yN h fun _ w h=>yv h fun _ w h=>yu h fun w h=>zn<|zk<|zs<|zr ?_
 refine yv h fun _ w h=>yv h fun _ w h=>yx h fun _ w h=>zm<|zn<|zk<|sim_block<|yl1 [13,14,87,88,89,90,91,92,93,94,95,96,97,98,99,100,101,102,103] 87 h fun σ w next h=>zs<|zr<|yb h fun _ w h=>zn<|zk<|zs<|yC h (fun h=>?_) fun h=>?_
 · refine sim_skip<|zk<|zs<|sim_block<|zs<|zr<|yv h fun _ w h=>yv h fun _ w h=>yv h fun _ w h=>yu h fun w h=>zn<|zk<|zs<|zr<|yv h fun _ w h=>?_
   refine yv h fun _ w h=>yF h fun _ w h=>yc h c78 fun _ w h=>zm<|zn<|zk<|sim_regionG<|yG 3<|zm<|zm<|zm<|zn<|yg1 3 2 false [98,99,100] 100 h (fun _ T hT h=>?_) fun σ w h=>?_
   · refine yv h fun _ w h=>yc h c68 fun _ w h=>yb h fun _ w h=>zn ?_
     exact zt hT h
   exact yG 2<|yp h fun _ h=>yc h c33 fun _ w h=>zn<|sim_end<|sim_block_normal<|zk<|zr<|yb h fun _ w h=>zm<|zn<|zk<|⟨rfl,h⟩
 exact sim_exit<|sim_then_exit<|sim_then_exit<|sim_block_hit<|body_normal<|body_ret0 rfl h
def lastP {β:Type} (l:List (ByteArray×β)) (s:ByteArray):Option β:=(l.reverse.find? (fun p=>decide (p.1=s))).map (·.2)
theorem lastP_mem {β:Type} {ps:List (ByteArray×β)} {s:ByteArray} {v:β} (h:lastP ps s=some v):(s,v)∈ps:=by
 unfold lastP at h
 obtain ⟨q,hq,rfl⟩:=Option.map_eq_some_iff.1 h
 have h1:=List.find?_some hq
 have h2:=List.mem_of_find?_eq_some hq
 simp only [decide_eq_true_eq] at h1
 subst h1
 exact List.mem_reverse.1 h2
def vI (l:List (ByteArray×Int)):List (ByteArray×Value):=l.map fun p=>(p.1,.int .i64 p.2)
def vB (l:List (ByteArray×Bool)):List (ByteArray×Value):=l.map fun p=>(p.1,.bool p.2)
theorem lastOf_map {β:Type} (g:β→Value) (l:List (ByteArray×β)) (s:ByteArray):lastOf (l.map fun p=>(p.1,g p.2)) s=(lastP l s).map g:=by
 unfold lastOf lastP
 rw [← List.map_reverse,List.find?_map]
 simp only [Option.map_map]
 rfl
theorem lastOf_vI (l:List (ByteArray×Int)) (s:ByteArray):lastOf (vI l) s=(lastP l s).map fun n => .int .i64 n:=lastOf_map _ l s
theorem lastOf_vB (l:List (ByteArray×Bool)) (s:ByteArray):lastOf (vB l) s=(lastP l s).map Value.bool:=lastOf_map _ l s
structure CkO (a0 w:World) (cb md ms:Nat) (deps:List (ByteArray×Int)) (strs:List (ByteArray×Bool)) (at_ fld:Int) (fs:List FieldD):Prop where
 ext:Ext a0 w
 obj:∃ dn mv ds mn fv,w.heap[cb]?=some (.cells #[.string dn,mv,.string ds,.map (some md),.map (some ms),.int .i64 at_,.int .i64 fld,.string mn,fv] 201 (0,0))∧FieldsOf a0 fv fs
 mdeps:MapOf w md (vI deps)
 mstrs:MapOf w ms (vB strs)
 lcb:a0.heap.size≤cb
 lmd:a0.heap.size≤md
 lms:a0.heap.size≤ms
 ne:md≠ms
section
variable {a0 w w':World} {cb md ms:Nat} {deps:List (ByteArray×Int)} {strs:List (ByteArray×Bool)} {at_ fld:Int} {fs:List FieldD}
theorem CkO.chk (h:CkO a0 w cb md ms deps strs at_ fld fs):Chk w cb md ms (vI deps) (vB strs) at_ fld fs:=by
 obtain ⟨dn,mv,ds,mn,fv,h1,h2⟩:=h.obj
 refine ⟨⟨dn,mv,ds,mn,fv,h1,h2.ext h.ext⟩,h.mdeps,h.mstrs,fun k v hv=>?_,fun k v hv=>?_⟩
 · rw [lastOf_vI] at hv;obtain ⟨n,_,rfl⟩:=Option.map_eq_some_iff.1 hv;exact ⟨n,rfl⟩
 · rw [lastOf_vB] at hv;obtain ⟨n,_,rfl⟩:=Option.map_eq_some_iff.1 hv;exact ⟨n,rfl⟩
theorem CkO.nd (h:CkO a0 w cb md ms deps strs at_ fld fs):cb≠md∧cb≠ms∧cb < w.heap.size∧md < w.heap.size∧ms < w.heap.size:=by
 obtain ⟨dn,mv,ds,mn,fv,h1,h2⟩:=h.obj
 refine ⟨?_,?_,(Qk h1).1,h.mdeps.lt,h.mstrs.lt⟩
 · rintro rfl;have:=h.mdeps.obj;rw [h1] at this;cases this
 · rintro rfl;have:=h.mstrs.obj;rw [h1] at this;cases this
theorem CkO.go (h:CkO a0 w cb md ms deps strs at_ fld fs) (e:Ext w w'):CkO a0 w' cb md ms deps strs at_ fld fs:=by
 obtain ⟨dn,mv,ds,mn,fv,h1,h2⟩:=h.obj
 exact ⟨h.ext.trans e,⟨dn,mv,ds,mn,fv,e.obj h1,h2⟩,h.mdeps.ext e,h.mstrs.ext e,h.lcb,h.lmd,h.lms,h.ne⟩
theorem CkO.other (h:CkO a0 w cb md ms deps strs at_ fld fs) {b o:Nat} (hb:a0.heap.size≤b) (hn:b≠cb) (v:Value):CkO a0 (w.setCell ⟨b,o,none⟩ v) cb md ms deps strs at_ fld fs:=by
 obtain ⟨dn,mv,ds,mn,fv,h1,h2⟩:=h.obj
 refine ⟨h.ext.setCell hb v,⟨dn,mv,ds,mn,fv,?_,h2⟩,h.mdeps.setCell _ _,h.mstrs.setCell _ _,h.lcb,h.lmd,h.lms,h.ne⟩
 rw [Only.setCell w b o v cb (fun e=>hn e.symm)];exact h1
theorem CkO.setFld (h:CkO a0 w cb md ms deps strs at_ fld fs) (n:Int):CkO a0 (w.setCell ⟨cb,6,none⟩ (.int .i64 n)) cb md ms deps strs at_ n fs:=by
 obtain ⟨dn,mv,ds,mn,fv,h1,h2⟩:=h.obj
 exact ⟨h.ext.setCell h.lcb _,⟨dn,mv,ds,mn,fv,heap_set h1 _,h2⟩,h.mdeps.setCell _ _,h.mstrs.setCell _ _,h.lcb,h.lmd,h.lms,h.ne⟩
theorem CkO.setAt (h:CkO a0 w cb md ms deps strs at_ fld fs) (n:Int):CkO a0 (w.setCell ⟨cb,5,none⟩ (.int .i64 n)) cb md ms deps strs n fld fs:=by
 obtain ⟨dn,mv,ds,mn,fv,h1,h2⟩:=h.obj
 exact ⟨h.ext.setCell h.lcb _,⟨dn,mv,ds,mn,fv,heap_set h1 _,h2⟩,h.mdeps.setCell _ _,h.mstrs.setCell _ _,h.lcb,h.lmd,h.lms,h.ne⟩
theorem CkO.setMsg (h:CkO a0 w cb md ms deps strs at_ fld fs) (s:ByteArray) (fv':Value) (fs':List FieldD) (hf:FieldsOf a0 fv' fs'):CkO a0 ((w.setCell ⟨cb,7,none⟩ (.string s)).setCell ⟨cb,8,none⟩ fv') cb md ms deps strs at_ fld fs':=by
 obtain ⟨dn,mv,ds,mn,fv,h1,h2⟩:=h.obj
 exact ⟨(h.ext.setCell h.lcb _).setCell h.lcb _,⟨dn,mv,ds,s,fv',heap_set (heap_set h1 _) _,hf⟩,(h.mdeps.setCell _ _).setCell _ _,(h.mstrs.setCell _ _).setCell _ _,h.lcb,h.lmd,h.lms,h.ne⟩
theorem CkO.putOther (h:CkO a0 w cb md ms deps strs at_ fld fs) {B:Nat} (o:Obj) (hB:a0.heap.size≤B) (h1:B≠cb) (h2:B≠md) (h3:B≠ms):CkO a0 (w.putObj B o) cb md ms deps strs at_ fld fs:=by
 obtain ⟨dn,mv,ds,mn,fv,h4,h5⟩:=h.obj
 exact ⟨h.ext.putObj hB o,⟨dn,mv,ds,mn,fv,(World.putObj_heap_other (fun e=>h1 e.symm)).trans h4,h5⟩,MapB.putOther h.mdeps (fun e=>h2 e.symm) o,MapB.putOther h.mstrs (fun e=>h3 e.symm) o,h.lcb,h.lmd,h.lms,h.ne⟩
theorem CkO.unmark (h:CkO a0 w cb md ms deps strs at_ fld fs) {B:Nat} (hm:MarkAt B w) (hB:a0.heap.size≤B):CkO a0 (w.putObj B (.deferred none)) cb md ms deps strs at_ fld fs:=by
 obtain ⟨dn,mv,ds,mn,fv,h4,h5⟩:=h.obj
 refine h.putOther _ hB ?_ ?_ ?_
 · rintro rfl;unfold MarkAt at hm;rw [h4] at hm;cases hm
 · rintro rfl;unfold MarkAt at hm;have:=h.mdeps.obj;rw [hm] at this;cases this
 · rintro rfl;unfold MarkAt at hm;have:=h.mstrs.obj;rw [hm] at this;cases this
theorem CkO.lasts {B:Nat} (hB:a0.heap.size≤B):Lasts B (fun w=>CkO a0 w cb md ms deps strs at_ fld fs):=by
 refine ⟨fun w w' h e=>h.go e,fun w l r r' hl h hr=>?_⟩
 obtain ⟨dn,mv,ds,mn,fv,h4,h5⟩:=h.obj
 refine h.putOther _ Qx ?_ ?_ ?_
 · rintro rfl;rw [h4] at hr;cases hr
 · rintro rfl;have:=h.mdeps.obj;rw [hr] at this;cases this
 · rintro rfl;have:=h.mstrs.obj;rw [hr] at this;cases this
theorem StrsAt.lasts (B pb:Nat) (sv:Value) (l:List ByteArray):Lasts B (fun w=>StrsAt w pb sv l) :=
 Lasts.and (Lasts.cell B) (Lasts.and ⟨fun _ _ h e=>h.ext keptStr e,fun _ _ _ _ _ h hl=>SliceOf.putLoop (fun _ _ h=>h) hl h⟩ (Lasts.const _ _))
theorem StrsAt.set {w:World} {pb:Nat} {sv:Value} {l:List ByteArray} (h:StrsAt w pb sv l) {b o:Nat} (hb:b < pb) (u:Value):StrsAt (w.setCell ⟨b,o,none⟩ u) pb sv l :=
 ⟨by rw [cell_set_other Qx];exact h.1,SliceOf.setOther h.2.1 u (fun A m c e=>by have:=h.2.2 A m c e;omega) (fun _ _ h=>h),h.2.2⟩
end
def refsM (m:MsgD):List ByteArray:=dedupA [] (allRefs m.fields)
def fieldsP (deps:List (ByteArray×Int)) (strs:List (ByteArray×Bool)) (bef:List FieldD):List FieldD→Int×Int
 | []=>(-1,0)
 | f::l=>if examineC bef (vI deps) (vB strs) f=0 then fieldsP deps strs (bef++[f]) l else (bef.length,examineC bef (vI deps) (vB strs) f)
def maxI (a b:Int):Int:=if b > a then b else a
def depthM (deps:List (ByteArray×Int)) (m:MsgD):Int:=(refsM m).foldl (fun d s=>maxI d ((lastP deps s).getD 0)) 0
def strictM (strs:List (ByteArray×Bool)) (m:MsgD):Bool:=(m.fields.all fun f=>!f.loose)&&(refsM m).all fun s=>(lastP strs s).getD false
def tailP (deps:List (ByteArray×Int)) (m:MsgD) (r:Int×Int):Int×Int:=if r.2=0 then (if depthM deps m < 16 then (-1,0) else (-1,10)) else r
def nextP (deps:List (ByteArray×Int)) (strs:List (ByteArray×Bool)) (m:MsgD):Int×Int :=
 if nameB m.name then (if (lastP deps m.name).isSome then (-1,2) else (if 1≤m.fields.length∧m.fields.length≤40 then tailP deps m (fieldsP deps strs [] m.fields) else (-1,3))) else (-1,1)
def nxtR (a0:World) (at_:Int) (r:Int×Int) (K:World→Prop):Ending→World→Prop:=fun e w'=>Ext a0 w'∧(r.2=0∧e = .returned (.tuple #[])∧K w'∨r.2≠0∧e = .panicked [flawEntry at_ r.1 r.2])
theorem nxtR_ret {a0 w':World} {at_:Int} {r:Int×Int} {K:World→Prop} (e:Ext a0 w') (h:r.2=0) (hK:K w'):nxtR a0 at_ r K (.returned (.tuple #[])) w':=⟨e,.inl ⟨h,rfl,hK⟩⟩
theorem nxtR_pan {a0 w':World} {at_ a b:Int} {r:Int×Int} {K:World→Prop} (e:Ext a0 w') (h:r=(a,b)) (h0:b≠0):nxtR a0 at_ r K (.panicked [flawEntry at_ a b]) w':=by subst h;exact ⟨e,.inr ⟨h0,rfl⟩⟩
theorem qV_loadG {P:Program} {C:World→Prop} [ClassNe C] {T:TypeId} {a:Addr} {v:Value} {k:Value→Prop} (h:∀ w',C w'→Loads P w' T a v):qV P C (Instr.loadAt T (.pointer (some a))) k=k v :=
 qV_eqC fun w' e=>run_of_op fun QP k=>op_load (h w' e)
section
variable {a0 w:World} {cb md ms:Nat} {deps:List (ByteArray×Int)} {strs:List (ByteArray×Bool)} {at_ fld:Int} {fs:List FieldD}
theorem nxt_end (h:CkO a0 w cb md ms deps strs at_ (-1) fs) (p2 p3 p6 p9 B:Nat) (m:MsgD) (fv:Value) (st:Bool) (dp:Int) (hd0:0≤dp) (hd1:dp≤1000)
 (o2:w.heap[p2]?=some (.cells #[.pointer (some ⟨cb,0,none⟩)] 167 (0,0))) (o3:w.heap[p3]?=some (.cells (msgCells m fv).toArray 74 (0,0))) (o6:w.heap[p6]?=some (.cells #[.bool st] 4 (0,0))) (o9:w.heap[p9]?=some (.cells #[.int .i64 dp] 3 (0,0)))
 (hmk:MarkAt B w) (hB:a0.heap.size≤B) (r:Int×Int) (hr:r=if dp < 16 then (-1,0) else (-1,10)) (K:World→Prop)
 (hK:∀ w',CkO a0 w' cb md ms (deps++[(m.name,dp+1)]) (strs++[(m.name,st)]) at_ (-1) fs→K w') :
 drawK w fun C12 w=>n62c8 (.pointer (some ⟨p2,0,none⟩)) (.pointer (some ⟨p3,0,none⟩)) (.pointer (some ⟨p6,0,none⟩)) (.pointer (some ⟨p9,0,none⟩)) C12 [Sw.mark B] (nxtR a0 at_ r K) w:=by
 obtain ⟨n1,n2,l1,l2,l3⟩:=h.nd
 have hne:=h.ne
 obtain ⟨dn,mv,ds,mn,fv',h1,h2⟩:=h.obj
 have m2:p2≠md:=by rintro rfl;have:=h.mdeps.obj;rw [o2] at this;cases this
 have m3:p3≠md:=by rintro rfl;have:=h.mdeps.obj;rw [o3] at this;cases this
 have m6:p6≠md:=by rintro rfl;have:=h.mdeps.obj;rw [o6] at this;cases this
 have m9:p9≠md:=by rintro rfl;have:=h.mdeps.obj;rw [o9] at this;cases this
 have q2:p2≠ms:=by rintro rfl;have:=h.mstrs.obj;rw [o2] at this;cases this
 have q3:p3≠ms:=by rintro rfl;have:=h.mstrs.obj;rw [o3] at this;cases this
 have q6:p6≠ms:=by rintro rfl;have:=h.mstrs.obj;rw [o6] at this;cases this
 have q9:p9≠ms:=by rintro rfl;have:=h.mstrs.obj;rw [o9] at this;cases this
 refine drawK_introB (w1:=w) md ms (fun _ _ _ _=>rfl) ?_
 unfold n62c8
 refine QY (cells_of_heap h1).1 (cells_of_heap o2).1 (cells_of_heap o3).1 (cells_of_heap o6).1 (cells_of_heap o9).1 ?_
 have eD:Ext w w.drew:=(Ext.refl w).drew
 have hmd:MapOf w.drew md (vI deps):=h.mdeps.ext eD
 rw [op_mapEntryS Tryz.underlying198 Tryz.underlying9 ty3 hmd m.name]
 refine ⟨fun b hb b1 b2=>(World.putObj_heap_other b1),?_⟩
 unfold n62c7
 refine Qf ?_
 rw [op_entryStore (MapB.ent hmd m.name _) (hasK_ent _ _),ent_put,putObj_putObj]
 have hw1:w.drew.putObj md (mapObj (fun s:ByteArray=>Value.string s) (putL (bld (vI deps)).1 (bld (vI deps)).2 m.name (.int .i64 (IntKind.i64.wrap (dp+1)))) (putC (bld (vI deps)).1 (bld (vI deps)).2 m.name))=putW w.drew md (vI deps) m.name (.int .i64 (IntKind.i64.wrap (dp+1))):=by
  unfold putW;rw [bld_snoc]
 rw [hw1]
 have hms:MapOf (putW w.drew md (vI deps) m.name (.int .i64 (IntKind.i64.wrap (dp+1)))) ms (vB strs):=MapB.putOther (h.mstrs.ext eD) (fun e=>hne e.symm) _
 refine ⟨fun b hb b1 b2=>(World.putObj_heap_other b1),?_⟩
 rw [op_mapEntryS Tryz.underlying199 Tryz.underlying9 ty4 hms m.name]
 refine ⟨fun b hb b1 b2=>(World.putObj_heap_other b2).trans (World.putObj_heap_other b1),?_⟩
 unfold n62c6
 refine Qf ?_
 rw [op_entryStore (MapB.ent hms m.name _) (hasK_ent _ _),ent_put,putObj_putObj]
 have hw2:(putW w.drew md (vI deps) m.name (.int .i64 (IntKind.i64.wrap (dp+1)))).putObj ms (mapObj (fun s:ByteArray=>Value.string s) (putL (bld (vB strs)).1 (bld (vB strs)).2 m.name (.bool st)) (putC (bld (vB strs)).1 (bld (vB strs)).2 m.name))=putW (putW w.drew md (vI deps) m.name (.int .i64 (IntKind.i64.wrap (dp+1)))) ms (vB strs) m.name (.bool st):=by
  unfold putW;rw [bld_snoc,bld_snoc]
 rw [hw2]
 have hwr:IntKind.i64.wrap (dp+1)=dp+1:=wrap_ok Qx Qx
 rw [hwr]
 have hC2:CkO a0 (putW (putW w.drew md (vI deps) m.name (.int .i64 (dp+1))) ms (vB strs) m.name (.bool st)) cb md ms (deps++[(m.name,dp+1)]) (strs++[(m.name,st)]) at_ (-1) fs:=by
  refine ⟨(h.ext.drew.putObj h.lmd _).putObj h.lms _,⟨dn,mv,ds,mn,fv',((World.putObj_heap_other n2).trans (World.putObj_heap_other n1)).trans h1,h2⟩,?_,?_,h.lcb,h.lmd,h.lms,hne⟩
  · have:=MapB.putOther (hmd.put m.name (.int .i64 (dp+1))) hne (mapObjS (bld (vB strs++[(m.name,.bool st)])).1 (bld (vB strs++[(m.name,.bool st)])).2)
    unfold vI at this ⊢
    rw [List.map_append]
    exact this
  · rw [hwr] at hms
    have:=hms.put m.name (.bool st)
    unfold vB at this ⊢
    rw [List.map_append]
    exact this
 have hk2:MarkAt B (putW (putW w.drew md (vI deps) m.name (.int .i64 (dp+1))) ms (vB strs) m.name (.bool st)):=by
  have b1:B≠md:=by rintro rfl;have:=h.mdeps.obj;unfold MarkAt at hmk;rw [hmk] at this;cases this
  have b2:B≠ms:=by rintro rfl;have:=h.mstrs.obj;unfold MarkAt at hmk;rw [hmk] at this;cases this
  exact ((World.putObj_heap_other b2).trans (World.putObj_heap_other b1)).trans hmk
 have o2':(putW (putW w.drew md (vI deps) m.name (.int .i64 (dp+1))) ms (vB strs) m.name (.bool st)).heap[p2]?=some (.cells #[.pointer (some ⟨cb,0,none⟩)] 167 (0,0)):=((World.putObj_heap_other q2).trans (World.putObj_heap_other m2)).trans o2
 have o9':(putW (putW w.drew md (vI deps) m.name (.int .i64 (dp+1))) ms (vB strs) m.name (.bool st)).heap[p9]?=some (.cells #[.int .i64 dp] 3 (0,0)):=((World.putObj_heap_other q9).trans (World.putObj_heap_other m9)).trans o9
 generalize putW (putW w.drew md (vI deps) m.name (.int .i64 (dp+1))) ms (vB strs) m.name (.bool st)=W at hC2 hk2 o2' o9' ⊢
 refine turnK_intro ?_
 unfold n62c5
 refine QJ (cells_of_heap o2').1 (cells_of_heap o9').1 ?_
 refine callK_flw (need_flw hC2.chk _ 10 Qj) (fun w' e h0=>?_) (fun w' e h0=>?_)
 · refine outX_mark (hk2.ext e) ?_
   rw [outX_nil]
   have hC3:=(hC2.go e).unmark (hk2.ext e) hB
   refine nxtR_ret hC3.ext ?_ (hK _ hC3)
   rw [hr]
   by_cases hdp:dp < 16
   · rw [if_pos hdp]
   · rw [decide_eq_false hdp] at h0;exact absurd h0 Qj
 · refine outQ_mark (hk2.ext e) ?_
   rw [outQ_nil]
   have hC3:=(hC2.go e).unmark (hk2.ext e) hB
   by_cases hdp:dp < 16
   · rw [decide_eq_true hdp] at h0;exact absurd rfl h0
   · rw [decide_eq_false hdp]
     rw [if_neg hdp] at hr
     exact nxtR_pan hC3.ext hr Qj
theorem maxI_le {a b c:Int} (h1:a≤c) (h2:b≤c):maxI a b≤c:=by unfold maxI;split<;>assumption
theorem le_maxI (a b:Int):a≤maxI a b:=by unfold maxI;split<;>omega
theorem foldl_maxI (g:ByteArray→Int):∀ (l:List ByteArray) (d:Int),0≤d→(∀ s∈l,0≤g s∧g s≤16)→d≤16→0≤l.foldl (fun d s=>maxI d (g s)) d∧l.foldl (fun d s=>maxI d (g s)) d≤16
 | [],d,h0,_,h1=>⟨h0,h1⟩
 | s::l,d,h0,h,h1=>foldl_maxI g l _ (Int.le_trans h0 (le_maxI _ _)) (fun u hu=>h u (List.mem_cons_of_mem _ hu)) (maxI_le h1 (h s (List.mem_cons_self ..)).2)
def Low (deps:List (ByteArray×Int)):Prop:=∀ p∈deps,0≤p.2∧p.2≤16
theorem Low.get {deps:List (ByteArray×Int)} (h:Low deps) (s:ByteArray):0≤(lastP deps s).getD 0∧(lastP deps s).getD 0≤16:=by
 cases hl:lastP deps s with
 | none=>exact ⟨by decide,by decide⟩
 | some n=>exact h _ (lastP_mem hl)
theorem nxt_range (hlow:Low deps) (h:CkO a0 w cb md ms deps strs at_ fld fs) (p2 p3 p6:Nat) (m:MsgD) (fv:Value) (st:Bool) (hst:st=m.fields.all fun f=>!f.loose) (hF:FieldsOf a0 fv m.fields) (hb:(allRefs m.fields).length≤1048576) (hp2:a0.heap.size≤p2) (hp3:a0.heap.size≤p3) (hp6:a0.heap.size≤p6) (h26:p2 < p6) (h36:p3 < p6)
 (o2:w.heap[p2]?=some (.cells #[.pointer (some ⟨cb,0,none⟩)] 167 (0,0))) (o3:w.heap[p3]?=some (.cells (msgCells m fv).toArray 74 (0,0))) (o6:w.heap[p6]?=some (.cells #[.bool st] 4 (0,0)))
 (r:Int×Int) (hr:r=if depthM deps m < 16 then (-1,0) else (-1,10)) (K:World→Prop)
 (hK:∀ w',CkO a0 w' cb md ms (deps++[(m.name,depthM deps m+1)]) (strs++[(m.name,strictM strs m)]) at_ (-1) fs→K w') :
 n62c10 (.pointer (some ⟨p2,0,none⟩)) (.pointer (some ⟨p3,0,none⟩)) (.pointer (some ⟨p6,0,none⟩)) [] (nxtR a0 at_ r K) w:=by
 obtain ⟨n1,n2,l1,l2,l3⟩:=h.nd
 obtain ⟨dn,mv,ds,mn,fv',h1,h2⟩:=h.obj
 have c2:p2≠cb:=by rintro rfl;rw [o2] at h1;cases h1
 have c3:p3≠cb:=by rintro rfl;rw [o3] at h1;cases h1
 have c6:p6≠cb:=by rintro rfl;rw [o6] at h1;cases h1
 have lp6:p6 < w.heap.size:=(Qk o6).1
 have lp3:p3 < w.heap.size:=(Qk o3).1
 unfold n62c10
 refine QX (cells_of_heap h1).1 (cells_of_heap h1).2 (cells_of_heap o2).1 (cells_of_heap o3).1 ?_
 have hC1:=h.setFld (-1)
 have o2':(w.setCell ⟨cb,6,none⟩ (.int .i64 (-1))).heap[p2]?=some (.cells #[.pointer (some ⟨cb,0,none⟩)] 167 (0,0)):=by rw [Only.setCell w cb 6 _ p2 c2];exact o2
 have o3':(w.setCell ⟨cb,6,none⟩ (.int .i64 (-1))).heap[p3]?=some (.cells (msgCells m fv).toArray 74 (0,0)):=by rw [Only.setCell w cb 6 _ p3 c3];exact o3
 have o6':(w.setCell ⟨cb,6,none⟩ (.int .i64 (-1))).heap[p6]?=some (.cells #[.bool st] 4 (0,0)):=by rw [Only.setCell w cb 6 _ p6 c6];exact o6
 simp only [World.size_setCell]
 have eW:=hC1.go ((Ext.refl (w.setCell ⟨cb,6,none⟩ (.int .i64 (-1)))).alloc (Obj.cells #[.int .i64 0] 3))
 have x2:=((Ext.refl (w.setCell ⟨cb,6,none⟩ (.int .i64 (-1)))).alloc (Obj.cells #[.int .i64 0] 3)).obj o2'
 have x3:=((Ext.refl (w.setCell ⟨cb,6,none⟩ (.int .i64 (-1)))).alloc (Obj.cells #[.int .i64 0] 3)).obj o3'
 have x6:=((Ext.refl (w.setCell ⟨cb,6,none⟩ (.int .i64 (-1)))).alloc (Obj.cells #[.int .i64 0] 3)).obj o6'
 have x9:=heap_new (w.setCell ⟨cb,6,none⟩ (.int .i64 (-1))) #[.int .i64 0] 3
 rw [World.size_setCell] at x9
 generalize hW:World.alloc (w.setCell ⟨cb,6,none⟩ (.int .i64 (-1))) _=W at eW x2 x3 x6 x9
 have hsz:W.heap.size=w.heap.size+1:=by rw [← hW];simp only [World.size_alloc,World.size_setCell]
 clear hW hC1 o2 o3 o6 o2' o3' o6' h
 have lW:a0.heap.size≤W.heap.size:=eW.ext.size
 refine callK_ret (Refers_ret W _ m ⟨fv,rfl,hF.ext eW.ext⟩ hb) ?_
 rintro _ w7 ⟨pb,sv,rfl,hS,hpb,e7⟩
 have s7:=e7.size
 unfold n62c9
 let rs:=refsM m
 let I:Nat→World→Prop:=fun k w'=>CkO a0 w' cb md ms deps strs at_ (-1) fs∧StrsAt w' pb sv (allRefs m.fields)∧w'.heap[p2]?=some (.cells #[.pointer (some ⟨cb,0,none⟩)] 167 (0,0))∧w'.heap[p3]?=some (.cells (msgCells m fv).toArray 74 (0,0)) ∧
  w'.heap[p6]?=some (.cells #[.bool (st&&(rs.take k).all fun s=>(lastP strs s).getD false)] 4 (0,0))∧w'.heap[w.heap.size]?=some (.cells #[.int .i64 ((rs.take k).foldl (fun d s=>maxI d ((lastP deps s).getD 0)) 0)] 3 (0,0))
 have hLI:∀ k,Lasts w7.heap.size (I k):=fun k=>Lasts.and (CkO.lasts Qx) (Lasts.and (StrsAt.lasts _ _ _ _) (Lasts.and (Lasts.has _ (by simp)) (Lasts.and (Lasts.has _ (by simp)) (Lasts.and (Lasts.has _ (by simp)) (Lasts.has _ (by simp))))))
 refine ⟨_,_,rs.length,strX rs,fun w=>StrsAt w pb sv (allRefs m.fields),I,fun _ _=>False,fun _ _=>False,rfl,c198,Refers_seq pb sv _,⟨eW.go e7,hS,e7.obj x2,e7.obj x3,?_,e7.obj x9⟩,fun k w h=>h.2.1,hLI,fun _=>Lasts.const _ _,?_,?_,?_,?_⟩
 · have:=e7.obj x6
   rw [this];simp
 · intro rec j w3 hj hI3 hrec hready
   refine ⟨hready,fun w4 hbz=>?_⟩
   have hrec4:=hrec.busied hbz
   have hI4:=(hLI j).busied hbz (Nat.le_succ _) hI3
   clear hI3 hrec hready hbz
   obtain ⟨hC4,hS4,y2,y3,y6,y9⟩:=hI4
   obtain ⟨s,hx⟩:=getElem?_lt hj
   have hrs:rs[j]?=some s:=hx
   rw [show strX rs j = .string s by unfold strX;rw [hrs]]
   obtain ⟨dn,mv,ds,mn,fv',h1,h2⟩:=hC4.obj
   have l9:w.heap.size < w4.heap.size:=(Qk y9).1
   have hstep:rs.take (j+1)=rs.take j++[s]:=take_snoc hrs
   refine drawK_intro ?_
   unfold n62c4
   refine QQ (cells_of_heap y9).1 (cells_of_heap y2).1 (cells_of_heap h1).1 ?_
   rw [qV_lookup1E Tryz.underlying198 Tryz.underlying9 ty3 (hC4.mdeps.ext ((Ext.refl w4).wdrew)) s]
   have hg:(lastOf (vI deps) s).getD (.int .i64 0) = .int .i64 ((lastP deps s).getD 0):=by rw [lastOf_vI];cases lastP deps s<;>rfl
   rw [hg]
   refine QJ (cells_of_heap y9).1 (cells_of_heap y9).2 ?_
   refine turnK_intro ?_
   have e4:Ext w4 w4.drew:=(Ext.refl w4).wdrew
   have hC5:=(hC4.go e4).other (b:=w.heap.size) (o:=0) Qx Qx (.int .i64 (if (lastP deps s).getD 0 > (rs.take j).foldl (fun d s=>maxI d ((lastP deps s).getD 0)) 0 then (lastP deps s).getD 0 else (rs.take j).foldl (fun d s=>maxI d ((lastP deps s).getD 0)) 0))
   have hS5:StrsAt (w4.drew.setCell ⟨w.heap.size,0,none⟩ (.int .i64 (if (lastP deps s).getD 0 > (rs.take j).foldl (fun d s=>maxI d ((lastP deps s).getD 0)) 0 then (lastP deps s).getD 0 else (rs.take j).foldl (fun d s=>maxI d ((lastP deps s).getD 0)) 0))) pb sv (allRefs m.fields):=(hS4.ext e4).set Qx _
   have hrec5:RecAt rec w7.heap.size (w4.drew.setCell ⟨w.heap.size,0,none⟩ (.int .i64 (if (lastP deps s).getD 0 > (rs.take j).foldl (fun d s=>maxI d ((lastP deps s).getD 0)) 0 then (lastP deps s).getD 0 else (rs.take j).foldl (fun d s=>maxI d ((lastP deps s).getD 0)) 0))):=hrec4.drew.setCell _ _
   have z2:=(Only.setCell w4.drew w.heap.size 0 (.int .i64 (if (lastP deps s).getD 0 > (rs.take j).foldl (fun d s=>maxI d ((lastP deps s).getD 0)) 0 then (lastP deps s).getD 0 else (rs.take j).foldl (fun d s=>maxI d ((lastP deps s).getD 0)) 0)) p2 Qx).trans y2
   have z3:=(Only.setCell w4.drew w.heap.size 0 (.int .i64 (if (lastP deps s).getD 0 > (rs.take j).foldl (fun d s=>maxI d ((lastP deps s).getD 0)) 0 then (lastP deps s).getD 0 else (rs.take j).foldl (fun d s=>maxI d ((lastP deps s).getD 0)) 0)) p3 Qx).trans y3
   have z6:=(Only.setCell w4.drew w.heap.size 0 (.int .i64 (if (lastP deps s).getD 0 > (rs.take j).foldl (fun d s=>maxI d ((lastP deps s).getD 0)) 0 then (lastP deps s).getD 0 else (rs.take j).foldl (fun d s=>maxI d ((lastP deps s).getD 0)) 0)) p6 Qx).trans y6
   have z9:=heap_set (w:=w4.drew) (o:=0) y9 (.int .i64 (if (lastP deps s).getD 0 > (rs.take j).foldl (fun d s=>maxI d ((lastP deps s).getD 0)) 0 then (lastP deps s).getD 0 else (rs.take j).foldl (fun d s=>maxI d ((lastP deps s).getD 0)) 0))
   rw [show (#[Value.int .i64 ((rs.take j).foldl (fun d s=>maxI d ((lastP deps s).getD 0)) 0)]:Array Value).setIfInBounds 0 (.int .i64 (if (lastP deps s).getD 0 > (rs.take j).foldl (fun d s=>maxI d ((lastP deps s).getD 0)) 0 then (lastP deps s).getD 0 else (rs.take j).foldl (fun d s=>maxI d ((lastP deps s).getD 0)) 0)) = #[.int .i64 ((rs.take (j+1)).foldl (fun d s=>maxI d ((lastP deps s).getD 0)) 0)] from by rw [hstep,List.foldl_append];rfl] at z9
   generalize w4.drew.setCell ⟨w.heap.size,0,none⟩ _=w5 at hC5 hS5 hrec5 z2 z3 z6 z9 ⊢
   clear hC4 hS4 hrec4 y2 y3 y6 y9 h1 hg
   obtain ⟨dn,mv,ds,mn,fv',h1,h2⟩:=hC5.obj
   have hall:(st&&(rs.take (j+1)).all fun s=>(lastP strs s).getD false)=((st&&(rs.take j).all fun s=>(lastP strs s).getD false)&&(lastP strs s).getD false):=by
    rw [hstep,List.all_append,Bool.and_assoc];simp
   have fin:∀ b,b=(st&&(rs.take (j+1)).all fun s=>(lastP strs s).getD false)→RecAt rec w7.heap.size (w5.setCell ⟨p6,0,none⟩ (.bool b))∧I (j+1) (w5.setCell ⟨p6,0,none⟩ (.bool b)):=by
    rintro b rfl
    refine ⟨hrec5.setCell _ _,hC5.other hp6 c6 _,hS5.set Qx _,(Only.setCell w5 p6 0 _ p2 Qx).trans z2,(Only.setCell w5 p6 0 _ p3 Qx).trans z3,?_,(Only.setCell w5 p6 0 _ w.heap.size Qx).trans z9⟩
    have:=heap_set (o:=0) z6 (.bool (st&&(rs.take (j+1)).all fun s=>(lastP strs s).getD false))
    simpa using this
   rw [hall] at fin
   generalize (st&&(rs.take j).all fun s=>(lastP strs s).getD false)=sj at z6 fin
   unfold n62c3
   have hg:(lastOf (vB strs) s).getD (.bool false) = .bool ((lastP strs s).getD false):=by rw [lastOf_vB];cases lastP strs s<;>rfl
   cases sj with
   | false =>
    simp (disch:=try exact DI) only [↓PR,QR,simprocAttr,(cells_of_heap z6).1,(cells_of_heap z6).2,↓n62c1,↓n62c2,↓n62c3,↓n62c4,↓n62c5,↓n62c6,↓n62c7,↓n62c8,↓n62c9,↓n62c10,↓n62c11,↓n62c12,↓n62c13,↓n62c14,↓n62c15,↓n62c16,↓n62c17,↓n62c18]
    exact fin false rfl
   | true =>
    refine QX (cells_of_heap z6).1 (cells_of_heap z6).2 (cells_of_heap z2).1 (cells_of_heap h1).1 ?_
    rw [op_lookup1O Tryz.underlying199 Tryz.underlying9 ty4 hC5.mstrs s,hg]
    generalize (lastP strs s).getD false=b at fin
    simp (disch:=try exact DI) only [↓PR,QR,simprocAttr,(cells_of_heap z6).1,(cells_of_heap z6).2,n62c1]
    exact fin b (by cases b<;>rfl)
 · rintro w3 hI3 hmk
   obtain ⟨hC3,hS3,y2,y3,y6,y9⟩:=hI3
   rw [List.take_length] at y6 y9
   have hfold:=foldl_maxI (fun s=>(lastP deps s).getD 0) rs 0 Qj (fun s _=>hlow.get s) Qj
   refine nxt_end hC3 p2 p3 p6 w.heap.size w7.heap.size m fv _ _ hfold.1 (by have:=hfold.2;omega) y2 y3 y6 y9 hmk Qx r hr K ?_
   rw [hst]
   exact hK
 · rintro c w3 h
   exact h.elim
 · rintro ch w3 h
   exact h.elim
end
section
variable {a0 w:World} {cb md ms:Nat} {deps:List (ByteArray×Int)} {strs:List (ByteArray×Bool)} {at_ fld:Int} {m:MsgD}
theorem orC_both {a b:Int} (h:orC a b=0):a=0∧b=0:=by
 unfold orC at h
 split at h
 · rename_i ha
   exact ⟨ha,h⟩
 · rename_i ha
   exact absurd h ha
theorem fieldsP_at (deps:List (ByteArray×Int)) (strs:List (ByteArray×Bool)):∀ (l bef:List FieldD),(fieldsP deps strs bef l).2≠0→0≤(fieldsP deps strs bef l).1
 | [],_,h=>absurd rfl h
 | f::l,bef,h=>by
  rw [fieldsP] at h ⊢
  split
  · rename_i hc
    rw [if_pos hc] at h
    exact fieldsP_at deps strs l _ h
  · exact Int.natCast_nonneg _
theorem refs_fine (deps:List (ByteArray×Int)) (strs:List (ByteArray×Bool)):∀ (l bef:List FieldD),(fieldsP deps strs bef l).2=0→(allRefs l).length≤40*l.length
 | [],_,_=>Nat.zero_le _
 | f::l,bef,h=>by
  rw [fieldsP] at h
  split at h
  · rename_i hc
    have ih:=refs_fine deps strs l _ h
    have hf:(refsF f).length≤40:=by
     unfold refsF
     split
     · simp
     · split
       · rename_i hk
         obtain ⟨_,h1⟩:=orC_both hc
         obtain ⟨_,h1⟩:=orC_both h1
         obtain ⟨_,h1⟩:=orC_both h1
         obtain ⟨_,h1⟩:=orC_both h1
         rw [show checkC bef (vI deps) (vB strs) f=casesC bef (vI deps) f by unfold checkC;rw [hk];rfl] at h1
         obtain ⟨_,h1⟩:=orC_both h1
         obtain ⟨h1,_⟩:=orC_both h1
         have h2:=needC_zero Qj h1
         simp only [Bool.and_eq_true,decide_eq_true_eq] at h2
         rw [List.length_map]
         omega
       · simp
    unfold allRefs at ih ⊢
    rw [List.flatMap_cons,List.length_append,List.length_cons]
    omega
  · rename_i hc
    exact absurd h hc
theorem nxt_loop (hlow:Low deps) (h:CkO a0 w cb md ms deps strs at_ fld m.fields) (p2 p3:Nat) (fv:Value) (hF:FieldsOf a0 fv m.fields) (h40:m.fields.length≤40) (hp2:a0.heap.size≤p2) (hp3:a0.heap.size≤p3)
 (o2:w.heap[p2]?=some (.cells #[.pointer (some ⟨cb,0,none⟩)] 167 (0,0))) (o3:w.heap[p3]?=some (.cells (msgCells m fv).toArray 74 (0,0)))
 (r:Int×Int) (hr:r=tailP deps m (fieldsP deps strs [] m.fields)) (K:World→Prop)
 (hK:∀ w',CkO a0 w' cb md ms (deps++[(m.name,depthM deps m+1)]) (strs++[(m.name,strictM strs m)]) at_ (-1) m.fields→K w') :
 n62c13 (.pointer (some ⟨p2,0,none⟩)) (.pointer (some ⟨p3,0,none⟩)) [] (nxtR a0 at_ r K) w:=by
 obtain ⟨n1,n2,l1,l2,l3⟩:=h.nd
 have lp2:p2 < w.heap.size:=(Qk o2).1
 have lp3:p3 < w.heap.size:=(Qk o3).1
 have lw:=h.ext.size
 obtain ⟨A,c,rfl,hlc,hcm,hlm,hel⟩:=SliceOf.open hF
 unfold n62c13
 refine Qp (cells_of_heap o3).1 ?_
 refine loop1_intro (fun i w'=>∃ (k:Nat) (fld':Int),i = .int .i64 k∧k≤m.fields.length∧CkO a0 w' cb md ms deps strs at_ fld' m.fields∧w'.heap[p2]?=some (.cells #[.pointer (some ⟨cb,0,none⟩)] 167 (0,0))∧w'.heap[p3]?=some (.cells (msgCells m (.slice A m.fields.length c)).toArray 74 (0,0)) ∧
  w'.heap[w.heap.size]?=some (.cells #[.bool ((m.fields.take k).all fun f=>!f.loose)] 4 (0,0))∧r=tailP deps m (fieldsP deps strs (m.fields.take k) (m.fields.drop k))) (fun i _=>m.fields.length - (intOf i).toNat) ⟨0,fld,rfl,by omega,h.go ((Ext.refl _).alloc _),((Ext.refl _).alloc _).obj o2,((Ext.refl _).alloc _).obj o3,heap_new w #[.bool true] 4,hr⟩ ?_
 rintro i w' ⟨k,fld',rfl,hk,hC,y2,y3,y6,hrk⟩
 have l6:w.heap.size < w'.heap.size:=(Qk y6).1
 have lw':=hC.ext.size
 obtain ⟨dn,mv,ds,mn,fv',h1,h2⟩:=hC.obj
 have c2:p2≠cb:=by rintro rfl;rw [y2] at h1;cases h1
 have c3:p3≠cb:=by rintro rfl;rw [y3] at h1;cases h1
 rcases drop_cases hk with ⟨x,hx,hd,hlt,hdec⟩ | ⟨hk,hd,hdec⟩
 · obtain ⟨b,o,cs,rfl,hl,hA,hE⟩:=hel k x hx
   obtain ⟨tv,cv,rfl,hT,hCa,ht1,hc1⟩:=hE.op
   have hA':=hA.ext hC.ext
   rw [hd] at hrk
   simp only [fieldsP] at hrk
   unfold n62c12
   refine Qp hdec ?_
   unfold n62c11
   try unfold X0
   try unfold L0
   rw [op_indexN Tryz.underlying72 ty123 _ _ _ _ _ k hlt,op_load (hA'.loads ty123 rfl)]
   refine QQ (cells_of_heap y2).1 (cells_of_heap h1).1 (cells_of_heap h1).2 ?_
   have hCw:=(hC.setFld (k:Int)).go ((Ext.refl _).alloc (Obj.cells (fieldCells x tv cv).toArray 123))
   have z2:=((Ext.refl _).alloc (Obj.cells (fieldCells x tv cv).toArray 123)).obj ((Only.setCell w' cb 6 (.int .i64 (k:Int)) p2 c2).trans y2)
   have z3:=((Ext.refl _).alloc (Obj.cells (fieldCells x tv cv).toArray 123)).obj ((Only.setCell w' cb 6 (.int .i64 (k:Int)) p3 c3).trans y3)
   have z6:=((Ext.refl _).alloc (Obj.cells (fieldCells x tv cv).toArray 123)).obj ((Only.setCell w' cb 6 (.int .i64 (k:Int)) w.heap.size Qx).trans y6)
   have z8:=heap_new (w'.setCell ⟨cb,6,none⟩ (.int .i64 (k:Int))) (fieldCells x tv cv).toArray 123
   rw [World.size_setCell] at z8
   generalize (World.alloc (w'.setCell ⟨cb,6,none⟩ (.int .i64 (k:Int))) (Obj.cells (fieldCells x tv cv).toArray 123))=W at hCw z2 z3 z6 z8 ⊢
   have hkt:(m.fields.take k).length=k:=by rw [List.length_take];omega
   refine callK_flw (examine_flw hCw.chk k rfl hlt _ x ⟨tv,cv,rfl,TermsOf.ext hT hCw.ext,CasesOf.ext hCa hCw.ext⟩) (fun w5 e5 h0=>?_) (fun w5 e5 h0=>?_)
   · rw [if_pos h0] at hrk
     have q6:=e5.obj z6
     have q8:=e5.obj z8
     have hC5:=hCw.go e5
     have l5:w'.heap.size < w5.heap.size:=(Qk q8).1
     have htk:=take_snoc hx
     rw [← htk] at hrk
     have hall:((m.fields.take (k+1)).all fun f=>!f.loose)=(((m.fields.take k).all fun f=>!f.loose)&&!x.loose):=by rw [htk,List.all_append];simp
     have fin:∀ b' w6,Ext w5 w6→b'=((m.fields.take (k+1)).all fun f=>!f.loose)→(∃ (k':Nat) (fld':Int),Value.int .i64 ((k+1:Nat):Int) = .int .i64 k'∧k'≤m.fields.length∧CkO a0 (w6.setCell ⟨w.heap.size,0,none⟩ (.bool b')) cb md ms deps strs at_ fld' m.fields∧w6.heap[p2]?=some (.cells #[.pointer (some ⟨cb,0,none⟩)] 167 (0,0))∧w6.heap[p3]?=some (.cells (msgCells m (.slice (some ⟨b,o,none⟩) m.fields.length c)).toArray 74 (0,0)) ∧
      (w6.setCell ⟨w.heap.size,0,none⟩ (.bool b')).heap[w.heap.size]?=some (.cells #[.bool ((m.fields.take k').all fun f=>!f.loose)] 4 (0,0))∧r=tailP deps m (fieldsP deps strs (m.fields.take k') (m.fields.drop k')))∧m.fields.length - (intOf (Value.int .i64 ((k+1:Nat):Int))).toNat < m.fields.length - (intOf (Value.int IntKind.i64 k)).toNat:=by
      rintro b' w6 e6 rfl
      refine ⟨⟨k+1,k,rfl,by omega,(hC5.go e6).other Qx Qx _,e6.obj (e5.obj z2),e6.obj (e5.obj z3),?_,hrk⟩,meas_lt (kd := .i64) hlt⟩
      have:=heap_set (o:=0) (e6.obj q6) (.bool ((m.fields.take (k+1)).all fun f=>!f.loose))
      simpa using this
     unfold n62c2
     rw [hall] at fin
     generalize ((m.fields.take k).all fun f=>!f.loose)=sj at q6 fin
     cases sj with
     | true =>
      generalize hxl:x.loose=xl at fin
      simp (disch:=try exact DI) only [↓PR,QR,simprocAttr,(cells_of_heap q6).1,(cells_of_heap q6).2,(cells_of_heap q8).1,n62c1,hxl]
      simp only [Bool.true_and] at fin
      exact fin _ w5 (Ext.refl _) rfl
     | false =>
      simp (disch:=try exact DI) only [↓PR,QR,simprocAttr,(cells_of_heap q6).1,(cells_of_heap q6).2,(cells_of_heap q8).1,n62c1]
      simp only [Bool.false_and] at fin
      exact fin _ w5 (Ext.refl _) rfl
   · rw [if_neg h0] at hrk
     have hr2:r=((k:Int),examineC (m.fields.take k) (vI deps) (vB strs) x):=by
      rw [hrk,hkt];unfold tailP;rw [if_neg h0]
     show outQ _ _ _ _ _ _
     rw [outQ_nil]
     exact nxtR_pan (hCw.ext.trans e5) hr2 h0
 · subst hk
   rw [hd] at hrk
   rw [List.take_length] at y6
   unfold n62c12
   refine Qp hdec ?_
   have hfl:(fieldsP deps strs [] m.fields).2=0:=by
    by_cases h0:(fieldsP deps strs [] m.fields).2=0
    · exact h0
    · exfalso
      have h1:=fieldsP_at deps strs m.fields [] h0
      have h2:tailP deps m (fieldsP deps strs (List.take m.fields.length m.fields) [])=fieldsP deps strs [] m.fields:=by
       rw [← hrk,hr]
       unfold tailP
       rw [if_neg h0]
      have h3:(tailP deps m (fieldsP deps strs (List.take m.fields.length m.fields) [])).1 = -1:=by
       unfold tailP fieldsP
       simp only [if_true]
       split<;>rfl
      rw [h2] at h3
      omega
   have hb:(allRefs m.fields).length≤1048576:=by
    have:=refs_fine deps strs m.fields [] hfl
    omega
   refine nxt_range hlow hC p2 p3 w.heap.size m _ _ rfl hF hb hp2 hp3 lw lp2 lp3 y2 y3 y6 r ?_ K hK
   rw [hrk]
   rfl
theorem next_flw {w0:World} {fs0:List FieldD} (hlow:Low deps) (h:CkO a0 w0 cb md ms deps strs at_ fld fs0) (v:Value) (hm:MsgVal a0 v m) (K:World→Prop)
 (hK:∀ w',CkO a0 w' cb md ms (deps++[(m.name,depthM deps m+1)]) (strs++[(m.name,strictM strs m)]) at_ (-1) m.fields→K w') :
 Calls Pg 136 #[.pointer (some ⟨cb,0,none⟩),v] w0 (nxtR a0 at_ (nextP deps strs m) K):=by
 obtain ⟨fv,rfl,hF⟩:=hm
 obtain ⟨n1,n2,l1,l2,l3⟩:=h.nd
 have lw:=h.ext.size
 have hf1:=SliceOf.oneCell hF
 refine n62s ?_;unfold n62
 refine Qf ?_
 have hC:=h.go (((Ext.refl w0).alloc (Obj.cells #[.pointer (some ⟨cb,0,none⟩)] 167)).alloc (Obj.cells (msgCells m fv).toArray 74))
 have z3:=heap_new (w0.alloc (Obj.cells #[.pointer (some ⟨cb,0,none⟩)] 167)) (msgCells m fv).toArray 74
 have z2:=((Ext.refl (w0.alloc (Obj.cells #[.pointer (some ⟨cb,0,none⟩)] 167))).alloc (Obj.cells (msgCells m fv).toArray 74)).obj (heap_new w0 _ _)
 simp only [World.size_alloc] at z3 ⊢
 generalize (World.alloc (World.alloc w0 _) _)=W at hC z2 z3 ⊢
 clear h
 obtain ⟨dn,mv,ds,mn,fv',h1,h2⟩:=hC.obj
 refine drawK_introB (w1:=W) cb cb (fun _ _ _ _=>rfl) ?_
 unfold n62c18
 refine Qp (cells_of_heap z2).1 ?_
 have L3:∀ w',KB W cb cb w'→Loads Pg w' 74 ⟨w0.heap.size+1,0,none⟩ (.agg (msgCells m fv).toArray):=fun w' hw'=>Loads.many ty74 rfl (fun j u hu=>by
  rw [Addr.add_lit]
  exact KB.cell (b:=w0.heap.size+1) hw' Qx Qx (by rw [(cells_of_heap z3).1];simpa using hu))
 rw [qV_loadG L3]
 refine QJ (cells_of_heap h1).1 (cells_of_heap h1).2 ?_
 have eD:Ext W W.drew:=(Ext.refl W).wdrew
 have hC1:=(hC.go eD).setMsg m.name fv m.fields hF
 have y2:=(Only.setCell (W.drew.setCell ⟨cb,7,none⟩ (.string m.name)) cb 8 fv w0.heap.size Qx).trans ((Only.setCell W.drew cb 7 (.string m.name) w0.heap.size Qx).trans (eD.obj z2))
 have y3:=(Only.setCell (W.drew.setCell ⟨cb,7,none⟩ (.string m.name)) cb 8 fv (w0.heap.size+1) Qx).trans ((Only.setCell W.drew cb 7 (.string m.name) (w0.heap.size+1) Qx).trans (eD.obj z3))
 refine ⟨fun b hb b1 _=>(Only.setCell _ cb 8 fv b b1).trans (Only.setCell W.drew cb 7 (.string m.name) b b1),?_⟩
 show n62c17 _ _ _ _ _ _ ((W.drew.setCell ⟨cb,7,none⟩ (.string m.name)).setCell ⟨cb,8,none⟩ fv)
 generalize ((W.drew.setCell ⟨cb,7,none⟩ (.string m.name)).setCell ⟨cb,8,none⟩ fv)=W1 at hC1 y2 y3 ⊢
 clear hC z2 z3 h1
 obtain ⟨dn,mv,ds,mn,fv',h1,h2'⟩:=hC1.obj
 unfold n62c17
 refine QJ (cells_of_heap h1).1 (cells_of_heap h1).2 ?_
 have hC2:=hC1.setFld (-1)
 have x2:=(Only.setCell W1 cb 6 (.int .i64 (-1)) w0.heap.size Qx).trans y2
 have x3:=(Only.setCell W1 cb 6 (.int .i64 (-1)) (w0.heap.size+1) Qx).trans y3
 generalize (W1.setCell ⟨cb,6,none⟩ (.int .i64 (-1)))=W2 at hC2 x2 x3 ⊢
 clear hC1 y2 y3 h1
 refine turnK_intro ?_
 refine drawK_intro ?_
 unfold n62c16
 refine QJ (cells_of_heap x2).1 (cells_of_heap x3).1 ?_
 refine zcr (Name_ret _ m.name) fun w3 e3=>?_
 have e3':Ext W2 w3:=(Ext.refl W2).wdrew.trans e3
 refine ⟨e3,?_⟩
 generalize hr:nextP deps strs m=r
 unfold nextP at hr
 refine callK_flw (need_flw (hC2.go e3').chk _ 1 Qj) (fun w4 e4 h0=>?_) (fun w4 e4 h0=>?_)
 · have e4':=e3'.trans e4
   have hn:nameB m.name=true:=needC_zero Qj h0
   rw [if_pos hn] at hr
   refine ⟨e3.trans e4,?_⟩
   have hC4:=hC2.go e4'
   have x2':=e4'.obj x2
   have x3':=e4'.obj x3
   obtain ⟨dn,mv,ds,mn,fv',h1,h2'⟩:=hC4.obj
   refine drawK_intro ?_
   unfold n62c15
   refine QQ (cells_of_heap x2').1 (cells_of_heap x3').1 (cells_of_heap h1).1 ?_
   have eD4:Ext w4 w4.drew:=(Ext.refl w4).wdrew
   rw [qV_lookupE Tryz.underlying198 Tryz.underlying9 ty3 (hC4.mdeps.ext eD4) m.name]
   have hsome:(lastOf (vI deps) m.name).isSome=(lastP deps m.name).isSome:=by rw [lastOf_vI,Option.isSome_map]
   rw [hsome]
   refine Qp (cells_of_heap x2').1 ?_
   refine callK_flw (need_flw (hC4.go eD4).chk _ 2 Qj) (fun w5 e5 h0=>?_) (fun w5 e5 h0=>?_)
   · have hs:(lastP deps m.name).isSome=false:=by have:=needC_zero Qj h0;simpa using this
     rw [hs,if_neg (by simp)] at hr
     have hC5:=hC4.go (eD4.trans e5)
     have x2'':=(eD4.trans e5).obj x2'
     have x3'':=(eD4.trans e5).obj x3'
     have fin:∀ b,b=decide (1≤m.fields.length∧m.fields.length≤40)→callK Pg 135 #[.pointer (some ⟨cb,0,none⟩),.bool b,.int .i64 3] (outQ Pg [] [] (nxtR a0 at_ r K)) w5 (fun _ w=>n62c13 (.pointer (some ⟨w0.heap.size,0,none⟩)) (.pointer (some ⟨w0.heap.size+1,0,none⟩)) [] (nxtR a0 at_ r K) w):=by
      rintro b rfl
      refine callK_flw (need_flw hC5.chk _ 3 Qj) (fun w6 e6 h0=>?_) (fun w6 e6 h0=>?_)
      · have hl:=needC_zero Qj h0
        simp only [decide_eq_true_eq] at hl
        rw [if_pos hl] at hr
        exact nxt_loop hlow (hC5.go e6) w0.heap.size (w0.heap.size+1) fv hF hl.2 Qx Qx (e6.obj x2'') (e6.obj x3'') r hr.symm K hK
      · by_cases hl:1≤m.fields.length∧m.fields.length≤40
        · rw [decide_eq_true hl] at h0;exact absurd rfl h0
        · rw [if_neg hl] at hr
          rw [decide_eq_false hl]
          show outQ _ _ _ _ _ _
          rw [outQ_nil]
          exact nxtR_pan (hC5.ext.trans e6) hr.symm Qj
     obtain ⟨A,c,rfl,hlc,hcm,hlm,hel⟩:=SliceOf.open hF
     unfold n62c14
     by_cases h1l:1≤m.fields.length
     · have d1:decide ((m.fields.length:Int)≥1)=true:=by simp;omega
       by_cases h2l:m.fields.length≤40
       · have d2:decide ((m.fields.length:Int)≤40)=true:=by simp;omega
         refine QX (cells_of_heap x2'').1 (cells_of_heap x3'').1 d1 d2 ?_
         exact fin _ (by simp [h1l,h2l])
       · have d2:decide ((m.fields.length:Int)≤40)=false:=by simp;omega
         refine QX (cells_of_heap x2'').1 (cells_of_heap x3'').1 d1 d2 ?_
         exact fin _ (by simp [h2l])
     · have d1:decide ((m.fields.length:Int)≥1)=false:=by simp;omega
       refine QQ (cells_of_heap x2'').1 (cells_of_heap x3'').1 d1 ?_
       exact fin _ (by simp [h1l])
   · have hs:(lastP deps m.name).isSome=true:=by
      cases hq:(lastP deps m.name).isSome with
      | true=>rfl
      | false=>rw [hq] at h0;exact absurd rfl h0
     rw [hs,if_pos rfl] at hr
     rw [hs]
     show outQ _ _ _ _ _ _
     rw [outQ_nil]
     exact nxtR_pan (hC4.ext.trans (eD4.trans e5)) hr.symm Qj
 · have hn:nameB m.name=false:=by
    cases hq:nameB m.name with
    | false=>rfl
    | true=>rw [hq] at h0;exact absurd rfl h0
   rw [hn,if_neg (by simp)] at hr
   rw [hn]
   show outQ _ _ _ _ _ _
   rw [outQ_nil]
   exact nxtR_pan (hC2.ext.trans (e3'.trans e4)) hr.symm Qj
end
theorem op_boxA {P:Program} {QP:List PanicEntry→World→Prop} {w:World} {k:Value→World→Prop} (T:TypeId) (cs:Array Value):opV P (Instr.box T (.agg cs)) QP w k=k (.pointer (some ⟨w.heap.size,0,none⟩)) (w.alloc (.cells cs T)):=op_box T (.agg cs)
theorem open1 {α:Type} {w:World} {n:Nat} {E:World→List Value→α→Prop} {v:Value} {l:List α} (h:SliceOf w n E v l) {i:Nat} {x:α} (hi:l[i]?=some x) :
 ∃ b o c,v = .slice (some ⟨b,o,none⟩) l.length c∧l.length≤c∧c≤9223372036854775807∧l.length≤9223372036854775807∧i < l.length∧∀ k x,l[k]?=some x→∃ cs,cs.length=n∧ElemAt w b (o+k*n) cs∧E w cs x:=by
 obtain ⟨A,c,h1,h2,h3,h4⟩:=h
 obtain ⟨b,o,rfl,h5⟩:=h4 (by rintro rfl;cases hi)
 exact ⟨b,o,c,h1,h2,h3,by omega,(Qv hi).1,h5⟩
open Go.Shelf
def sh_lays156_ren:Go.Shelf.Ren:=⟨fun | 156=>59 | 165=>98 | 166=>99 | 169=>100 | 240=>130 | 241=>131 | 276=>157 | 277=>158 | n=>n,fun | 31=>94 | 9=>9 | 3=>3 | 4=>4 | 0=>0 | 20=>20 | 72=>159 | 76=>163 | 70=>157 | 37=>40 | 75=>162 | 127=>195 | 164=>220 | 5=>5 | 80=>165 | n=>n,fun | n=>n⟩
theorem sh_lays156:Go.Proofs.Lays.n156 Pg sh_lays156_ren:={
 mixed:=Qq
 f156:=Tryz.func59.trans (congrArg some Qq)
 f165:=Tryz.func98.trans (congrArg some Qq)
 f166:=Tryz.func99.trans (congrArg some Qq)
 f169:=Tryz.func100.trans (congrArg some Qq)
 f240:=Tryz.func130.trans (congrArg some Qq)
 f241:=Tryz.func131.trans (congrArg some Qq)
 f276:=Tryz.func157.trans (congrArg some Qq)
 f277:=Tryz.func158.trans (congrArg some Qq)
 t0:=Tryz.underlying0
 a0:=Tryz.isAgg0
 z0:=Tryz.sizeOf0
 v0:=Tryz.zeroValue0
 t3:=Tryz.underlying3
 a3:=Tryz.isAgg3
 z3:=Tryz.sizeOf3
 v3:=Tryz.zeroValue3
 t4:=Tryz.underlying4
 a4:=Tryz.isAgg4
 z4:=Tryz.sizeOf4
 v4:=Tryz.zeroValue4
 t9:=Tryz.underlying9
 a9:=Tryz.isAgg9
 z9:=Tryz.sizeOf9
 v9:=Tryz.zeroValue9
 t20:=Tryz.underlying20
 a20:=Tryz.isAgg20
 z20:=Tryz.sizeOf20
 v20:=Tryz.zeroValue20
 t31:=Tryz.underlying94
 a31:=Tryz.isAgg94
 z31:=Tryz.sizeOf94
 v31:=Tryz.zeroValue94
 t37:=Tryz.underlying40
 a37:=Tryz.isAgg40
 z37:=Tryz.sizeOf40
 v37:=Tryz.zeroValue40
 t70:=Tryz.underlying157
 a70:=Tryz.isAgg157
 z70:=Tryz.sizeOf157
 v70:=Tryz.zeroValue157
 t72:=Tryz.underlying159
 a72:=Tryz.isAgg159
 z72:=Tryz.sizeOf159
 v72:=Tryz.zeroValue159
 t75:=Tryz.underlying162
 a75:=Tryz.isAgg162
 z75:=Tryz.sizeOf162
 v75:=Tryz.zeroValue162
 t76:=Tryz.underlying163
 a76:=Tryz.isAgg163
 z76:=Tryz.sizeOf163
 v76:=Tryz.zeroValue163
 t127:=Tryz.underlying195
 a127:=Tryz.isAgg195
 z127:=Tryz.sizeOf195
 v127:=Tryz.zeroValue195
 t164:=Tryz.underlying220
 a164:=Tryz.isAgg220
 z164:=Tryz.sizeOf220
 v164:=Tryz.zeroValue220 }
theorem sh_Builder_Extra_156:Builder.Extra Pg sh_lays156_ren:={
 sizeBuilder:=Qq
 liesBuilder:=Qq
 t5:=Tryz.underlying5
 a5:=Tryz.isAgg5
 z5:=Tryz.sizeOf5
 v5:=Tryz.zeroValue5
 infoByte:=Qq
 cellsByte:=Qq
 sizeByte:=Qq
 neB5:=by decide }
open Go.RowKit in
theorem sh_strings_Join (bk o c:Nat) (xs:List ByteArray) (sep:ByteArray) (w:World) (hcells:∀ (j:Nat) x,xs[j]?=some x→w.cell? ⟨bk,o+j,none⟩=some (.string x)) (hbk:bk < w.heap.size) (hN:xs.length≤140737488355328) (hcap:xs.length≤c) (hlen:(Lib.join (xs.map (·.data.toList)) sep.data.toList).length≤140737488355328) :
 Calls Pg 59 #[.slice (some ⟨bk,o,none⟩) xs.length c,.string sep] w fun e w'=>e = .returned (.string ⟨(Lib.join (xs.map (·.data.toList)) sep.data.toList).toArray⟩)∧Below w.heap.size w w':=Any.strings_Join sh_lays156 sh_Builder_Extra_156 bk o c xs sep w hcells hbk hN hcap hlen
def sh_lays104_ren:Go.Shelf.Ren:=⟨fun | 104=>49 | 211=>86 | 207=>124 | n=>n,fun | 9=>9 | 4=>4 | 24=>65 | 3=>3 | n=>n,fun | n=>n⟩
theorem sh_lays104:Go.Proofs.Lays.n104 Pg sh_lays104_ren:={
 mixed:=Qq
 f104:=Tryz.func49.trans (congrArg some Qq)
 f207:=Tryz.func124.trans (congrArg some Qq)
 f211:=Tryz.func86.trans (congrArg some Qq)
 t3:=Tryz.underlying3
 a3:=Tryz.isAgg3
 z3:=Tryz.sizeOf3
 v3:=Tryz.zeroValue3
 t4:=Tryz.underlying4
 a4:=Tryz.isAgg4
 z4:=Tryz.sizeOf4
 v4:=Tryz.zeroValue4
 t9:=Tryz.underlying9
 a9:=Tryz.isAgg9
 z9:=Tryz.sizeOf9
 v9:=Tryz.zeroValue9
 t24:=Tryz.underlying65
 a24:=Tryz.isAgg65
 z24:=Tryz.sizeOf65
 v24:=Tryz.zeroValue65 }
open Go.RowKit in
theorem sh_strings_CutSuffix (s p:ByteArray) (w:World) (hs:s.size≤9223372036854775807) :
 Calls Pg 49 #[.string s,.string p] w fun e w'=>e = .returned (.tuple #[.string ⟨(Lib.trimSuffix s.data.toList p.data.toList).toArray⟩,.bool (Lib.hasSuffix s.data.toList p.data.toList)])∧w'=w:=Any.strings_CutSuffix sh_lays104 s p w hs
def sh_lays221_ren:Go.Shelf.Ren:=⟨fun | 221=>85 | 268=>121 | 138=>122 | 143=>123 | 195=>148 | 197=>149 | 218=>150 | 219=>151 | 260=>178 | 217=>179 | 225=>180 | 224=>181 | 267=>182 | 266=>203 | 314=>204 | n=>n,fun | 9=>9 | 3=>3 | 31=>94 | 4=>4 | 0=>0 | 105=>215 | 21=>21 | 5=>5 | 46=>197 | 119=>269 | 139=>272 | 138=>271 | 146=>274 | 51=>273 | n=>n,fun | 1=>0 | 3=>1 | 4=>2 | n=>n⟩
theorem sh_lays221:Go.Proofs.Lays.n221 Pg sh_lays221_ren:={
 mixed:=Qq
 f138:=Tryz.func122.trans (congrArg some Qq)
 f143:=Tryz.func123.trans (congrArg some Qq)
 f195:=Tryz.func148.trans (congrArg some Qq)
 f197:=Tryz.func149.trans (congrArg some Qq)
 f217:=Tryz.func179.trans (congrArg some Qq)
 f218:=Tryz.func150.trans (congrArg some Qq)
 f219:=Tryz.func151.trans (congrArg some Qq)
 f221:=Tryz.func85.trans (congrArg some Qq)
 f224:=Tryz.func181.trans (congrArg some Qq)
 f225:=Tryz.func180.trans (congrArg some Qq)
 f260:=Tryz.func178.trans (congrArg some Qq)
 f266:=Tryz.func203.trans (congrArg some Qq)
 f267:=Tryz.func182.trans (congrArg some Qq)
 f268:=Tryz.func121.trans (congrArg some Qq)
 f314:=Tryz.func204.trans (congrArg some Qq)
 t0:=Tryz.underlying0
 a0:=Tryz.isAgg0
 z0:=Tryz.sizeOf0
 v0:=Tryz.zeroValue0
 t3:=Tryz.underlying3
 a3:=Tryz.isAgg3
 z3:=Tryz.sizeOf3
 v3:=Tryz.zeroValue3
 t4:=Tryz.underlying4
 a4:=Tryz.isAgg4
 z4:=Tryz.sizeOf4
 v4:=Tryz.zeroValue4
 t5:=Tryz.underlying5
 a5:=Tryz.isAgg5
 z5:=Tryz.sizeOf5
 v5:=Tryz.zeroValue5
 t9:=Tryz.underlying9
 a9:=Tryz.isAgg9
 z9:=Tryz.sizeOf9
 v9:=Tryz.zeroValue9
 t21:=Tryz.underlying21
 a21:=Tryz.isAgg21
 z21:=Tryz.sizeOf21
 v21:=Tryz.zeroValue21
 t31:=Tryz.underlying94
 a31:=Tryz.isAgg94
 z31:=Tryz.sizeOf94
 v31:=Tryz.zeroValue94
 t46:=Tryz.underlying197
 a46:=Tryz.isAgg197
 z46:=Tryz.sizeOf197
 v46:=Tryz.zeroValue197
 t51:=Tryz.underlying273
 a51:=Tryz.isAgg273
 z51:=Tryz.sizeOf273
 v51:=Tryz.zeroValue273
 t105:=Tryz.underlying215
 a105:=Tryz.isAgg215
 z105:=Tryz.sizeOf215
 v105:=Tryz.zeroValue215
 t119:=Tryz.underlying269
 a119:=Tryz.isAgg269
 z119:=Tryz.sizeOf269
 t138:=Tryz.underlying271
 a138:=Tryz.isAgg271
 z138:=Tryz.sizeOf271
 v138:=Tryz.zeroValue271
 t139:=Tryz.underlying272
 a139:=Tryz.isAgg272
 z139:=Tryz.sizeOf272
 v139:=Tryz.zeroValue272
 t146:=Tryz.underlying274
 a146:=Tryz.isAgg274
 z146:=Tryz.sizeOf274
 v146:=Tryz.zeroValue274
 g1:=Qq
 g3:=Qq
 g4:=by kernel_rfl }
open Go.RowKit Go.Lib in
theorem sh_strings_genSplit (s sep:ByteArray) (sv:Nat) (n:Int) (N:Nat) (m:Int) (w:World) (hs:s.size < 4294967281) (hm:w.cell? ⟨0,0,none⟩=some (.int .i64 m)) (h1:1≤sep.size) (hsv:sv≤sep.size) (hn0:n≠0) (hn63:n≤9223372036854775807) (hN:(N:Int)=min (if n < 0 then (Lib.countB s sep:Int)+1 else n) ((s.size:Int)+1)) :
 Calls Pg 85 #[.string s,.string sep,.int .i64 sv,.int .i64 n] w fun e w' =>
  e = .returned (.slice (some ⟨w.heap.size,0,none⟩) (Lib.splitB sep sv (N - 1) s).length N)∧w'=w.alloc (.cells (Lib.cellsOf (Lib.splitB sep sv (N - 1) s) N) 9):=Any.strings_genSplit sh_lays221 Qq s sep sv n N m w hs hm h1 hsv hn0 hn63 hN
def sh_lays146_ren:Go.Shelf.Ren:=⟨fun | 146=>50 | 221=>85 | 268=>121 | 138=>122 | 143=>123 | 195=>148 | 197=>149 | 218=>150 | 219=>151 | 260=>178 | 217=>179 | 225=>180 | 224=>181 | 267=>182 | 266=>203 | 314=>204 | n=>n,fun | 9=>9 | 31=>94 | 3=>3 | 4=>4 | 0=>0 | 105=>215 | 21=>21 | 5=>5 | 46=>197 | 119=>269 | 139=>272 | 138=>271 | 146=>274 | 51=>273 | n=>n,fun | 1=>0 | 3=>1 | 4=>2 | n=>n⟩
theorem sh_lays146:Go.Proofs.Lays.n146 Pg sh_lays146_ren:={
 mixed:=Qq
 f138:=Tryz.func122.trans (congrArg some Qq)
 f143:=Tryz.func123.trans (congrArg some Qq)
 f146:=Tryz.func50.trans (congrArg some Qq)
 f195:=Tryz.func148.trans (congrArg some Qq)
 f197:=Tryz.func149.trans (congrArg some Qq)
 f217:=Tryz.func179.trans (congrArg some Qq)
 f218:=Tryz.func150.trans (congrArg some Qq)
 f219:=Tryz.func151.trans (congrArg some Qq)
 f221:=Tryz.func85.trans (congrArg some Qq)
 f224:=Tryz.func181.trans (congrArg some Qq)
 f225:=Tryz.func180.trans (congrArg some Qq)
 f260:=Tryz.func178.trans (congrArg some Qq)
 f266:=Tryz.func203.trans (congrArg some Qq)
 f267:=Tryz.func182.trans (congrArg some Qq)
 f268:=Tryz.func121.trans (congrArg some Qq)
 f314:=Tryz.func204.trans (congrArg some Qq)
 t0:=Tryz.underlying0
 a0:=Tryz.isAgg0
 z0:=Tryz.sizeOf0
 v0:=Tryz.zeroValue0
 t3:=Tryz.underlying3
 a3:=Tryz.isAgg3
 z3:=Tryz.sizeOf3
 v3:=Tryz.zeroValue3
 t4:=Tryz.underlying4
 a4:=Tryz.isAgg4
 z4:=Tryz.sizeOf4
 v4:=Tryz.zeroValue4
 t5:=Tryz.underlying5
 a5:=Tryz.isAgg5
 z5:=Tryz.sizeOf5
 v5:=Tryz.zeroValue5
 t9:=Tryz.underlying9
 a9:=Tryz.isAgg9
 z9:=Tryz.sizeOf9
 v9:=Tryz.zeroValue9
 t21:=Tryz.underlying21
 a21:=Tryz.isAgg21
 z21:=Tryz.sizeOf21
 v21:=Tryz.zeroValue21
 t31:=Tryz.underlying94
 a31:=Tryz.isAgg94
 z31:=Tryz.sizeOf94
 v31:=Tryz.zeroValue94
 t46:=Tryz.underlying197
 a46:=Tryz.isAgg197
 z46:=Tryz.sizeOf197
 v46:=Tryz.zeroValue197
 t51:=Tryz.underlying273
 a51:=Tryz.isAgg273
 z51:=Tryz.sizeOf273
 v51:=Tryz.zeroValue273
 t105:=Tryz.underlying215
 a105:=Tryz.isAgg215
 z105:=Tryz.sizeOf215
 v105:=Tryz.zeroValue215
 t119:=Tryz.underlying269
 a119:=Tryz.isAgg269
 z119:=Tryz.sizeOf269
 t138:=Tryz.underlying271
 a138:=Tryz.isAgg271
 z138:=Tryz.sizeOf271
 v138:=Tryz.zeroValue271
 t139:=Tryz.underlying272
 a139:=Tryz.isAgg272
 z139:=Tryz.sizeOf272
 v139:=Tryz.zeroValue272
 t146:=Tryz.underlying274
 a146:=Tryz.isAgg274
 z146:=Tryz.sizeOf274
 v146:=Tryz.zeroValue274
 g1:=Qq
 g3:=Qq
 g4:=by kernel_rfl }
open Go.RowKit Go.Lib in
theorem sh_strings_Split (s sep:ByteArray) (m:Int) (w:World) (hs:s.size < 4294967281) (hm:w.cell? ⟨0,0,none⟩=some (.int .i64 m)) (h1:1≤sep.size) :
 Calls Pg 50 #[.string s,.string sep] w fun e w' =>
  e = .returned (.slice (some ⟨w.heap.size,0,none⟩) (Lib.countB s sep+1) (Lib.countB s sep+1))∧w'=w.alloc (.cells ((Lib.splitB sep 0 (Lib.countB s sep) s).map Value.string).toArray 9):=Any.strings_Split sh_lays146 Qq s sep m w hs hm h1
def joinW (sep:ByteArray) (xs:List ByteArray):ByteArray:=⟨(Go.Lib.join (xs.map (·.data.toList)) sep.data.toList).toArray⟩
def TabOK (w:World):Prop:=Go.Lib.TabIs Pg w "internal/strconv.uint64pow10" .u64 Go.Lib.pow10Tab
theorem gPow:(Pg.globalNamed "internal/strconv.uint64pow10").isSome=true:=Qq
theorem TabOK.lt {w:World} (h:TabOK w) {g:Nat} (hg:Pg.globalNamed "internal/strconv.uint64pow10" = some g):g < w.heap.size:=by
 unfold TabOK Go.Lib.TabIs World.var? at h
 rw [hg] at h
 simp only [Option.bind_some] at h
 rcases Nat.lt_or_ge g w.heap.size with h' | h'
 · exact h'
 · rw [Array.getElem?_eq_none h'] at h;cases h
theorem TabOK.same {w w':World} (h:TabOK w) (hb:∀ g,Pg.globalNamed "internal/strconv.uint64pow10" = some g→w'.heap[g]?=w.heap[g]?):TabOK w':=by
 obtain ⟨g,hg⟩:=Option.isSome_iff_exists.1 gPow
 have:=hb g hg
 unfold TabOK Go.Lib.TabIs World.var? at h ⊢
 rw [hg] at h ⊢
 simp only [Option.bind_some] at h ⊢
 rw [this]
 exact h
theorem TabOK.ext {w w':World} (h:TabOK w) (e:Ext w w'):TabOK w':=h.same fun g hg=>e.block g (h.lt hg)
theorem Join_ret {w:World} {base:Nat} {v:Value} {l:List ByteArray} (h:OwnS w base v l) (sep:ByteArray) (hl:0 < l.length) (hn:l.length≤100000) (hz:(joinW sep l).size≤1000000000):Ret Pg 59 #[v,.string sep] w fun r w'=>r = .string (joinW sep l)∧Ext w w':=by
 obtain ⟨g,cap,rfl,_,hg,_,_,hE⟩:=h.row (fun _=>rfl) hl
 obtain ⟨A,c,hv,hlc,_⟩:=SliceOf.open (h.slice (E:=EStr) (fun _=>rfl) (fun _ _=>rfl))
 injection hv with _ _ hv
 subst hv
 have hzz:(Go.Lib.join (l.map (·.data.toList)) sep.data.toList).length≤140737488355328:=by
  unfold joinW ByteArray.size at hz
  simp only [List.size_toArray] at hz
  omega
 refine Calls.mono (sh_strings_Join g 0 cap l sep w (fun j x hx=>?_) hg Qx hlc hzz) ?_
 · have:=hE j x hx 0 _ rfl
   rw [Nat.zero_add]
   simpa using this
 · rintro e w' ⟨rfl,hb⟩
   exact ⟨_,rfl,rfl,Ext.of_below hb⟩
structure EnvOK (w:World):Prop where
 tab:TabOK w
 len:∃ m,w.cell? ⟨0,0,none⟩=some (.int .i64 m)
 syn:∃ ev,w.cell? ⟨3,0,none⟩=some ev∧(ev = .nilIface∨∃ te pe,ev = .iface te pe)
 rng:∃ ev,w.cell? ⟨4,0,none⟩=some ev∧(ev = .nilIface∨∃ te pe,ev = .iface te pe)
theorem EnvOK.ext {w w':World} (h:EnvOK w) (e:Ext w w'):EnvOK w':=⟨h.tab.ext e,h.len.imp fun _ h=>e.cell h,h.syn.imp fun _ h=>⟨e.cell h.1,h.2⟩,h.rng.imp fun _ h=>⟨e.cell h.1,h.2⟩⟩
theorem strs_of {w:World} {b n c:Nat} {l:List ByteArray} (hn:n=l.length) (h1:l.length≤c) (h2:c≤9223372036854775807) (hc:∀ k x,l[k]?=some x→w.cell? ⟨b,k,none⟩=some (.string x)):SliceOf w 1 EStr (.slice (some ⟨b,0,none⟩) n c) l:=by
 subst hn
 refine ⟨_,_,rfl,h1,h2,fun _=>⟨_,_,rfl,fun k x hx=>⟨[.string x],rfl,fun j v hv=>?_,rfl⟩⟩⟩
 cases j with
 | zero=>injection hv with hv;subst hv;simpa using hc k x hx
 | succ j=>cases hv
theorem Split_ret {w:World} (hE:EnvOK w) (s:ByteArray) (c:UInt8) (hs:s.size≤100000):Ret Pg 50 #[.string s,.string ⟨#[c]⟩] w fun r w'=>Ext w w'∧∃ n,r = .slice (some ⟨w.heap.size,0,none⟩) n n∧SliceOf w' 1 EStr r (Go.Lib.splitB ⟨#[c]⟩ 0 (Go.Lib.countB s ⟨#[c]⟩) s):=by
 obtain ⟨m,hm⟩:=hE.len
 have hl:=Go.Lib.splitB_all ⟨#[c]⟩ (Nat.le_refl _) 0 _ s rfl
 have hle:=Go.Lib.countB_le ⟨#[c]⟩ (Nat.le_refl _) s.size s (Nat.le_refl _)
 refine Calls.mono (sh_strings_Split s ⟨#[c]⟩ m w Qx hm (Nat.le_refl _)) ?_
 rintro e w' ⟨rfl,rfl⟩
 refine ⟨_,rfl,(Ext.refl w).alloc _,_,rfl,?_⟩
 refine strs_of hl.symm Qx Qx fun k x hx=>?_
 generalize Go.Lib.splitB ⟨#[c]⟩ 0 (Go.Lib.countB s ⟨#[c]⟩) s=L at hx ⊢
 rw [cell_new,List.getElem?_toArray,List.getElem?_map,hx]
 rfl
theorem toList_mk (l:List UInt8):(ByteArray.mk l.toArray).data.toList=l:=rfl
def cutL (c:UInt8):List UInt8→List (List UInt8)
 | []=>[[]]
 | b::l=>if b=c then []::cutL c l else match cutL c l with
  | []=>[[b]]
  | x::r=>(b::x)::r
theorem cutL_ne (c:UInt8):∀ l,cutL c l≠[]
 | []=>by simp [cutL]
 | b::l=>by
  unfold cutL
  split
  · simp
  · cases cutL c l<;>simp
theorem cutL_same (c:UInt8) (l:List UInt8):cutL c (c::l)=[]::cutL c l:=by rw [cutL,if_pos rfl]
theorem cutL_other {c b:UInt8} (h:b≠c) {l x:List UInt8} {r:List (List UInt8)} (hl:cutL c l=x::r):cutL c (b::l)=(b::x)::r:=by rw [cutL,if_neg h,hl]
theorem index_ne {b c:UInt8} (l:List UInt8) (h:b≠c):Go.Lib.index (b::l) [c]=if Go.Lib.index l [c] == -1 then -1 else Go.Lib.index l [c]+1:=by
 have hp:([c]:List UInt8).isPrefixOf (b::l)=false:=by simp [List.isPrefixOf,Ne.symm h]
 rw [Go.Lib.index,hp];simp
theorem index_eq (c:UInt8) (l:List UInt8):Go.Lib.index (c::l) [c]=0:=by
 rw [Go.Lib.index];simp [List.isPrefixOf]
theorem splitK_cut (c:UInt8):∀ s:List UInt8,Go.Lib.splitK [c] 0 (Go.Lib.count s [c]) s=cutL c s
 | []=>by rw [Go.Lib.count_one];rfl
 | b::l=>by
  have ih:=splitK_cut c l
  by_cases h:b=c
  · subst h
    rw [Go.Lib.count_cons_eq,Nat.add_comm,Go.Lib.splitK,index_eq,if_neg Qj,cutL_same,← ih]
    rfl
  · rw [Go.Lib.count_cons_ne b c l h]
    cases hk:Go.Lib.count l [c] with
    | zero =>
     rw [hk] at ih
     exact (cutL_other h ih.symm).symm
    | succ k =>
     rw [hk] at ih
     have hge:=Go.Lib.index_ge l [c]
     have hm:Go.Lib.index l [c] ≠ -1:=fun e=>by rw [Go.Lib.count_miss e] at hk;cases hk
     obtain ⟨i,hi⟩:∃ i:Nat,Go.Lib.index l [c]=i:=⟨(Go.Lib.index l [c]).toNat,by omega⟩
     have n1:¬ (((i:Int) == -1)=true):=fun e=>by have:=beq_iff_eq.1 e;omega
     have n2:¬ ((((i:Int)+1) == -1)=true):=fun e=>by have:=beq_iff_eq.1 e;omega
     have t2:((i:Int)+1).toNat=i+1:=Qx
     rw [Go.Lib.splitK,hi,if_neg n1] at ih
     rw [Go.Lib.splitK,index_ne l h,hi,if_neg n1,if_neg n2,t2]
     refine Eq.trans ?_ (cutL_other h ih.symm).symm
     simp only [Int.toNat_natCast,List.length_singleton,Nat.add_zero,List.take_succ_cons]
     rfl
def mkB (l:List UInt8):ByteArray:=⟨l.toArray⟩
def cutW (c:UInt8) (s:ByteArray):List ByteArray:=(cutL c s.data.toList).map mkB
theorem split_cut (c:UInt8) (s:ByteArray):Go.Lib.splitB ⟨#[c]⟩ 0 (Go.Lib.countB s ⟨#[c]⟩) s=cutW c s:=by
 have h:=Go.Lib.splitB_data ⟨#[c]⟩ 0 (Go.Lib.countB s ⟨#[c]⟩) s
 have hs:Go.Lib.splitK [c] 0 (Go.Lib.countB s ⟨#[c]⟩) s.data.toList=cutL c s.data.toList:=splitK_cut c s.data.toList
 have h:(Go.Lib.splitB ⟨#[c]⟩ 0 (Go.Lib.countB s ⟨#[c]⟩) s).map (·.data.toList)=cutL c s.data.toList:=h.trans hs
 unfold cutW
 rw [← h,List.map_map]
 have:(mkB ∘ fun x:ByteArray=>x.data.toList)=id:=by funext x;rfl
 rw [this,List.map_id]
def hexD (n:Nat):UInt8:=UInt8.ofNat (if n < 10 then 48+n else 87+n)
def hexL (l:List UInt8):List UInt8:=l.flatMap fun c=>[hexD (c.toNat / 16),hexD (c.toNat % 16)]
def endW:ByteArray:=⟨#[101,110,100]⟩
def kwW (k:Int):List UInt8:=if k=1 then [99,111,112,121] else if k=2 then [97,100,100] else if k=3 then [118,97,108,117,101] else if k=4 then [98,121,116,101,115] else if k=6 then [110,101,115,116,101,100] else if k=7 then [102,105,116] else [116,97,98,108,101]
def digitsL (l:List UInt8):List UInt8:=if l=[] then [45] else hexL l
def rowL (x:RowD):List UInt8:=Go.Lib.itoa x.low++45::(Go.Lib.itoa x.high++58::Go.Lib.itoa x.to)
def tailW (r:FrD):List (List UInt8):=if r.kind=1 then [r.fr.data.toList] else if r.kind=2 then [r.fr.data.toList,Go.Lib.itoa r.add] else if r.kind=3 then [Go.Lib.itoa r.value] else if r.kind=4 then [digitsL r.bytes] else if r.kind=6 then [r.fr.data.toList] else if r.kind=7 then [] else r.fr.data.toList::r.table.map rowL
def wordsF (r:FrD):List (List UInt8):=r.to.data.toList::kwW r.kind::tailW r
def lineL (r:FrD):List UInt8:=Go.Lib.join (wordsF r) [32]
def printF (r:FrD):Bool:=match usesK r.kind with
 | none=>false
 | some u=>cleanB r u&&(nameB r.to&&(decide (r.to≠endW)&&(!u.fr||nameB r.fr)))
def rangeI (n:Int):Bool:=decide (-9223372036854775808≤n)&&decide (n≤9223372036854775807)
def inRow (x:RowD):Bool:=rangeI x.low&&(rangeI x.high&&rangeI x.to)
def inF (r:FrD):Bool:=rangeI r.add&&(rangeI r.value&&r.table.all inRow)
def okF (r:FrD):Bool:=printF r&&inF r
noncomputable def lineO (s:List UInt8):Option FrD:=open Classical in if h:∃ r,okF r=true∧lineL r=s then some (Classical.choose h) else none
def n20 (t0:Value) (R:RT) (w:World):Prop :=
 B0 .geq 3 true t0 (.int .i64 0) R w fun t4 w =>
 joinK (fun (t7:Value) (w:World) =>
 pickK t4 t7 (.bool false) fun t8 =>
 R (.returned t8) w) fun K1 =>
 guardP t4 true (
 B0 .lss 3 true t0 (.int .i64 34359738368) R w fun t7 w =>
 K1 t7 w) (
 K1 undef w)
theorem n20s {t0:Value} {R:RT} {w:World} (h:n20 t0 R w):Calls Pg 42 #[t0] w R:=by
 refine yD Tryz.func42 ?_
 refine zs<|zr<|zm<|zn<|zk<|zs<|sim_regionG<|yG 3<|zm<|yb h fun _ w h=>zm<|zn<|yg1 2 2 true [6,7] 7 h (fun _ T hT h=>?_) fun σ w h=>?_
 · refine zm<|yb h fun _ w h=>zn ?_
   exact zt hT h
 exact yG 2<|yp h fun _ h=>zm<|zn<|sim_end<|zk<|sim_ret<|body_ret1 rfl rfl h
def n130c1 (t0 t1 t8:Value) (next1:KV) (R:RT) (w:World):Prop :=
 X0 41 t0 t8 R w fun t14 w =>
 L0 78 t14 R w fun t15 w =>
 callV Pg t1 #[t15] (panK R) w fun t16 w =>
 condP t16 (
 R (.returned t8) w) (
 B0 .add 3 true t8 (.int .i64 1) R w fun t18 w =>
 next1 t18 w)
def n130 (t0 t1:Value) (R:RT) (w:World):Prop :=
 opV Pg (Builtin.len_ #[41] 3 #[t0]) (panK R) w fun t7 w =>
 loop1 (fun t8 w next1 =>
 B0 .lss 3 false t8 t7 R w fun t9 w =>
 condP t9 (
 n130c1 t0 t1 t8 next1 R w) (
 R (.returned (.int .i64 (-1))) w)) (.int .i64 0) w
theorem n130s {t0 t1:Value} {R:RT} {w:World} (h:n130 t0 t1 R w):Calls Pg 43 #[t0,t1] w R:=by
 refine yD Tryz.func43 ?_
 refine zs<|zr<|zm<|zn<|zk<|zs<|zs<|zr<|zm<|yx h fun _ w h=>zm<|zn<|zk<|sim_block<|yl1 [4,5,8,9,10,11,12,13,14,15,16,17,18] 8 h fun σ w next h=>?_
 refine zs<|zr<|yb h fun _ w h=>zn<|zk<|zs<|yC h (fun h=>?_) fun h=>?_
 · refine sim_skip<|zk<|zs<|sim_block<|zs<|zr<|zm<|zm<|zn<|zk<|zs<|zr<|zm<|zm<|zm ?_
   refine yv h fun _ w h=>yv h fun _ w h=>yV h fun _ w h=>zn<|zk<|yC h (fun h=>zs<|zr<|zm<|zm<|zn<|zk<|sim_ret<|sim_block_ret<|sim_then_ret<|sim_then_ret<|sim_block_ret<|sim_then_ret<|body_ret1 rfl rfl h) fun h=>sim_skip<|sim_block_normal<|zk<|zr<|yb h fun _ w h=>zm<|zn<|zk ?_
   exact ⟨rfl,h⟩
 exact sim_exit<|sim_then_exit<|sim_then_exit<|sim_block_hit<|zk<|zs<|zr<|zm<|zn<|zk<|sim_ret<|body_ret1 rfl rfl h
def n10 (t0 t1:Value) (R:RT) (w:World):Prop :=
 opV Pg (Instr.box 78 t0) (panK R) w fun t2 w =>
 L0 3 t1 R w fun t4 w =>
 F0 78 t2 0 R w fun t5 w =>
 L0 3 t5 R w fun t6 w =>
 B0 .geq 3 false t4 t6 R w fun t7 w =>
 joinK (fun (t12:Value) (w:World) =>
 pickK t7 t12 (.bool false) fun t13 =>
 R (.returned t13) w) fun K1 =>
 guardP t7 true (
 L0 3 t1 R w fun t9 w =>
 F0 78 t2 1 R w fun t10 w =>
 L0 3 t10 R w fun t11 w =>
 B0 .leq 3 false t9 t11 R w fun t12 w =>
 K1 t12 w) (
 K1 undef w)
theorem n10s {t0 t1:Value} {R:RT} {w:World} (h:n10 t0 t1 R w):Calls Pg 44 #[t0,t1] w R:=by
 refine yD Tryz.func44 ?_
 refine zs<|zr<|yv h fun _ w h=>zm<|zn<|zk<|zs<|sim_regionG<|yG 5<|yv h fun _ w h=>yv h fun _ w h=>yv h fun _ w h=>yb h fun _ w h=>zm<|zn ?_
 refine yg1 4 4 true [9,10,11,12] 12 h (fun _ T hT h=>?_) fun σ w h=>?_
 · refine yv h fun _ w h=>yv h fun _ w h=>yv h fun _ w h=>yb h fun _ w h=>zn ?_
   exact zt hT h
 exact yG 2<|yp h fun _ h=>zm<|zn<|sim_end<|zk<|sim_ret<|body_ret1 rfl rfl h
def n129c1 (t0 t1 t8:Value) (next1:KV) (R:RT) (w:World):Prop :=
 X0 22 t0 t8 R w fun t14 w =>
 L0 60 t14 R w fun t15 w =>
 callV Pg t1 #[t15] (panK R) w fun t16 w =>
 condP t16 (
 R (.returned t8) w) (
 B0 .add 3 true t8 (.int .i64 1) R w fun t18 w =>
 next1 t18 w)
def n129 (t0 t1:Value) (R:RT) (w:World):Prop :=
 opV Pg (Builtin.len_ #[22] 3 #[t0]) (panK R) w fun t7 w =>
 loop1 (fun t8 w next1 =>
 B0 .lss 3 false t8 t7 R w fun t9 w =>
 condP t9 (
 n129c1 t0 t1 t8 next1 R w) (
 R (.returned (.int .i64 (-1))) w)) (.int .i64 0) w
theorem n129s {t0 t1:Value} {R:RT} {w:World} (h:n129 t0 t1 R w):Calls Pg 46 #[t0,t1] w R:=by
 refine yD Tryz.func46 ?_
 refine zs<|zr<|zm<|zn<|zk<|zs<|zs<|zr<|zm<|yx h fun _ w h=>zm<|zn<|zk<|sim_block<|yl1 [4,5,8,9,10,11,12,13,14,15,16,17,18] 8 h fun σ w next h=>?_
 refine zs<|zr<|yb h fun _ w h=>zn<|zk<|zs<|yC h (fun h=>?_) fun h=>?_
 · refine sim_skip<|zk<|zs<|sim_block<|zs<|zr<|zm<|zm<|zn<|zk<|zs<|zr<|zm<|zm<|zm ?_
   refine yv h fun _ w h=>yv h fun _ w h=>yV h fun _ w h=>zn<|zk<|yC h (fun h=>zs<|zr<|zm<|zm<|zn<|zk<|sim_ret<|sim_block_ret<|sim_then_ret<|sim_then_ret<|sim_block_ret<|sim_then_ret<|body_ret1 rfl rfl h) fun h=>sim_skip<|sim_block_normal<|zk<|zr<|yb h fun _ w h=>zm<|zn<|zk ?_
   exact ⟨rfl,h⟩
 exact sim_exit<|sim_then_exit<|sim_then_exit<|sim_block_hit<|zk<|zs<|zr<|zm<|zn<|zk<|sim_ret<|body_ret1 rfl rfl h
def n16 (t0 t1:Value) (R:RT) (w:World):Prop :=
 opV Pg (Instr.box 60 t0) (panK R) w fun t2 w =>
 F0 60 t2 0 R w fun t4 w =>
 L0 9 t4 R w fun t5 w =>
 L0 9 t1 R w fun t6 w =>
 B0 .eql 9 false t5 t6 R w fun t7 w =>
 R (.returned t7) w
theorem n16s {t0 t1:Value} {R:RT} {w:World} (h:n16 t0 t1 R w):Calls Pg 47 #[t0,t1] w R:=by
 refine yD Tryz.func47 ?_
 refine zs<|zr<|yv h fun _ w h=>zm<|zn<|zk<|zs<|zr<|yv h fun _ w h=>yv h fun _ w h=>yv h fun _ w h=>yb h fun _ w h=>zm<|zn<|zk ?_
 exact sim_ret<|body_ret1 rfl rfl h
def n39c1 (t0 t2 t117 t119:Value) (C2:World→Prop) (R:RT) (w:World):Prop :=
 joinK (fun (t125:Value) (w:World) =>
 pickK t119 t125 (.bool false) fun t126 =>
 opU Pg (Instr.storeAt 43 t2 t117) (panK R) w fun w =>
 C2 w∧(
 qW Pg 43 t2 w fun r0 =>
 R (.returned (.tuple #[r0,t126])) w)) fun K3 =>
 guardP t119 true (
 qV Pg C2 (Instr.loadAt 43 t2) fun t121 =>
 C0 60 #[t121] R w fun t122 w =>
 C2 w∧(
 callK Pg 59 #[t122,(.string { data := #[32] })] (panK R) w fun t123 w =>
 C2 w∧(
 qV Pg C2 (binS .eql 9 false t123 t0) fun t125 =>
 K3 t125 w))) (
 K3 undef w)
def n39c2 (t0 t2:Value) (C2:World→Prop) (R:RT) (w:World):Prop :=
 qV Pg C2 (Instr.loadAt 43 t2) fun t117 =>
 qV Pg C2 (Instr.loadAt 43 t2) fun t118 =>
 C0 58 #[t118] R w fun t119 w =>
 C2 w∧(
 n39c1 t0 t2 t117 t119 C2 R w)
def n39c3 (t2 t27:Value) (C4:World→Prop) (K1:World→Prop) (R:RT) (w:World):Prop :=
 qV Pg C4 (Instr.indexAt 94 t27 (.int .i64 0)) fun t35 =>
 qV Pg C4 (Instr.loadAt 9 t35) fun t36 =>
 qV Pg C4 (Instr.fieldAt 43 t2 1) fun t37 =>
 opU Pg (Instr.storeAt 39 t37 (.int .i64 1)) (panK R) w fun w =>
 C4 w∧(
 qV Pg C4 (Instr.fieldAt 43 t2 2) fun t38 =>
 opU Pg (Instr.storeAt 9 t38 t36) (panK R) w fun w =>
 turnK w fun C5 w =>
 K1 w)
def n39c4 (t2 t50:Value) (K1:World→Prop) (R:RT) (w:World):Prop :=
 opV Pg (Instr.extract t50 0) (panK R) w fun t51 w =>
 opV Pg (Instr.extract t50 1) (panK R) w fun t52 w =>
 opV Pg (Instr.extract t50 2) (panK R) w fun t53 w =>
 F0 43 t2 3 R w fun t54 w =>
 opU Pg (Instr.storeAt 3 t54 t51) (panK R) w fun w =>
 K1 w
def n39c5 (t2 t27:Value) (K1:World→Prop) (R:RT) (w:World):Prop :=
 opV Pg (Instr.indexAt 94 t27 (.int .i64 1)) (panK R) w fun t48 w =>
 L0 9 t48 R w fun t49 w =>
 C0 87 #[t49] R w fun t50 w =>
 n39c4 t2 t50 K1 R w
def n39c6 (t2 t27:Value) (C6:World→Prop) (K1:World→Prop) (R:RT) (w:World):Prop :=
 qV Pg C6 (Instr.indexAt 94 t27 (.int .i64 0)) fun t42 =>
 qV Pg C6 (Instr.loadAt 9 t42) fun t43 =>
 qV Pg C6 (Instr.fieldAt 43 t2 1) fun t44 =>
 opU Pg (Instr.storeAt 39 t44 (.int .i64 2)) (panK R) w fun w =>
 C6 w∧(
 qV Pg C6 (Instr.fieldAt 43 t2 2) fun t45 =>
 opU Pg (Instr.storeAt 9 t45 t43) (panK R) w fun w =>
 turnK w fun C7 w =>
 n39c5 t2 t27 K1 R w)
def n39c7 (t2 t62:Value) (K1:World→Prop) (R:RT) (w:World):Prop :=
 opV Pg (Instr.extract t62 0) (panK R) w fun t63 w =>
 opV Pg (Instr.extract t62 1) (panK R) w fun t64 w =>
 opV Pg (Instr.extract t62 2) (panK R) w fun t65 w =>
 F0 43 t2 4 R w fun t66 w =>
 opU Pg (Instr.storeAt 3 t66 t63) (panK R) w fun w =>
 K1 w
def n39c8 (t2 t72:Value) (K1:World→Prop) (R:RT) (w:World):Prop :=
 F0 43 t2 1 R w fun t73 w =>
 opU Pg (Instr.storeAt 39 t73 (.int .i64 4)) (panK R) w fun w =>
 F0 43 t2 5 R w fun t74 w =>
 opU Pg (Instr.storeAt 40 t74 t72) (panK R) w fun w =>
 K1 w
def n39c9 (t2:Value) (R:RT) (w:World):Prop :=
 L0 43 t2 R w fun t99 w =>
 opU Pg (Instr.storeAt 43 t2 t99) (panK R) w fun w =>
 qW Pg 43 t2 w fun r0 =>
 R (.returned (.tuple #[r0,(.bool false)])) w
def n39c10 (t2 t8 t88:Value) (next10:KV) (R:RT) (w:World):Prop :=
 F0 43 t2 6 R w fun t100 w =>
 L0 41 t100 R w fun t101 w =>
 L0 78 t8 R w fun t102 w =>
 opV Pg (Instr.buildSlice 41 1 #[(0,t102)]) (panK R) w fun t103 w =>
 opV Pg (Builtin.append_ #[41,41] 41 #[t101,t103]) (panK R) w fun t104 w =>
 F0 43 t2 6 R w fun t105 w =>
 opU Pg (Instr.storeAt 41 t105 t104) (panK R) w fun w =>
 B0 .add 3 true t88 (.int .i64 1) R w fun t106 w =>
 next10 t106 w
def n39c11 (t2 t88 t94:Value) (next10:KV) (R:RT) (w:World):Prop :=
 opV Pg (Instr.extract t94 0) (panK R) w fun t95 w =>
 opV Pg (Instr.extract t94 1) (panK R) w fun t96 w =>
 opV Pg (Instr.alloc 78 true (.tuple #[])) (panK R) w fun t8 w =>
 opU Pg (Instr.storeAt 78 t8 t95) (panK R) w fun w =>
 opV Pg (Op.unary .not t96) (panK R) w fun t98 w =>
 condP t98 (
 n39c9 t2 R w) (
 n39c10 t2 t8 t88 next10 R w)
def n39c12 (t2 t86 t88:Value) (next10:KV) (R:RT) (w:World):Prop :=
 X0 94 t86 t88 R w fun t90 w =>
 L0 9 t90 R w fun t91 w =>
 C0 89 #[t91] R w fun t94 w =>
 n39c11 t2 t88 t94 next10 R w
def n39c13 (t2 t11:Value) (K1:World→Prop) (R:RT) (w:World):Prop :=
 opV Pg (Builtin.len_ #[94] 3 #[t11]) (panK R) w fun t84 w =>
 opV Pg (Builtin.min_ #[3,3] 3 #[(.int .i64 3),t84]) (panK R) w fun t85 w =>
 opV Pg (Instr.sliceAt 94 t11 (some t85) none none) (panK R) w fun t86 w =>
 opV Pg (Builtin.len_ #[94] 3 #[t86]) (panK R) w fun t87 w =>
 loop1 (fun t88 w next10 =>
 B0 .lss 3 false t88 t87 R w fun t89 w =>
 condP t89 (
 n39c12 t2 t86 t88 next10 R w) (
 K1 w)) (.int .i64 0) w
def n39c14 (t2 t11 t27:Value) (C8:World→Prop) (K1:World→Prop) (R:RT) (w:World):Prop :=
 qV Pg C8 (Instr.indexAt 94 t27 (.int .i64 0)) fun t78 =>
 qV Pg C8 (Instr.loadAt 9 t78) fun t79 =>
 qV Pg C8 (Instr.fieldAt 43 t2 1) fun t80 =>
 opU Pg (Instr.storeAt 39 t80 (.int .i64 5)) (panK R) w fun w =>
 C8 w∧(
 qV Pg C8 (Instr.fieldAt 43 t2 2) fun t81 =>
 opU Pg (Instr.storeAt 9 t81 t79) (panK R) w fun w =>
 turnK w fun C9 w =>
 n39c13 t2 t11 K1 R w)
def n39c15 (t2 t27:Value) (C11:World→Prop) (K1:World→Prop) (R:RT) (w:World):Prop :=
 qV Pg C11 (Instr.indexAt 94 t27 (.int .i64 0)) fun t110 =>
 qV Pg C11 (Instr.loadAt 9 t110) fun t111 =>
 qV Pg C11 (Instr.fieldAt 43 t2 1) fun t112 =>
 opU Pg (Instr.storeAt 39 t112 (.int .i64 6)) (panK R) w fun w =>
 C11 w∧(
 qV Pg C11 (Instr.fieldAt 43 t2 2) fun t113 =>
 opU Pg (Instr.storeAt 9 t113 t111) (panK R) w fun w =>
 turnK w fun C12 w =>
 K1 w)
def n39c16 (t2:Value) (R:RT) (w:World):Prop :=
 L0 43 t2 R w fun t31 w =>
 opU Pg (Instr.storeAt 43 t2 t31) (panK R) w fun w =>
 qW Pg 43 t2 w fun r0 =>
 R (.returned (.tuple #[r0,(.bool false)])) w
def n39c17 (t2 t30:Value) (K1:World→Prop) (R:RT) (w:World):Prop :=
 opV Pg (binS .eql 9 true t30 (.string { data := #[102,105,116] })) (panK R) w fun t115 w =>
 condP t115 (
 F0 43 t2 1 R w fun t116 w =>
 opU Pg (Instr.storeAt 39 t116 (.int .i64 7)) (panK R) w fun w =>
 K1 w) (
 n39c16 t2 R w)
def n39c18 (t2 t27 t30:Value) (K1:World→Prop) (R:RT) (w:World):Prop :=
 opV Pg (binS .eql 9 true t30 (.string { data := #[110,101,115,116,101,100] })) (panK R) w fun t108 w =>
 condP t108 (
 drawK w fun C11 w =>
 n39c15 t2 t27 C11 K1 R w) (
 n39c17 t2 t30 K1 R w)
def n39c19 (t2 t27:Value) (K1:World→Prop) (R:RT) (w:World):Prop :=
 opV Pg (Instr.indexAt 94 t27 (.int .i64 0)) (panK R) w fun t70 w =>
 L0 9 t70 R w fun t71 w =>
 C0 88 #[t71] R w fun t72 w =>
 n39c8 t2 t72 K1 R w
def n39c20 (t2 t11 t27 t30:Value) (K1:World→Prop) (R:RT) (w:World):Prop :=
 opV Pg (binS .eql 9 true t30 (.string { data := #[116,97,98,108,101] })) (panK R) w fun t76 w =>
 condP t76 (
 drawK w fun C8 w =>
 n39c14 t2 t11 t27 C8 K1 R w) (
 n39c18 t2 t27 t30 K1 R w)
def n39c21 (t2 t27:Value) (K1:World→Prop) (R:RT) (w:World):Prop :=
 F0 43 t2 1 R w fun t57 w =>
 opU Pg (Instr.storeAt 39 t57 (.int .i64 3)) (panK R) w fun w =>
 opV Pg (Instr.indexAt 94 t27 (.int .i64 0)) (panK R) w fun t60 w =>
 L0 9 t60 R w fun t61 w =>
 C0 87 #[t61] R w fun t62 w =>
 n39c7 t2 t62 K1 R w
def n39c22 (t2 t11 t27 t30:Value) (K1:World→Prop) (R:RT) (w:World):Prop :=
 opV Pg (binS .eql 9 true t30 (.string { data := #[98,121,116,101,115] })) (panK R) w fun t68 w =>
 condP t68 (
 n39c19 t2 t27 K1 R w) (
 n39c20 t2 t11 t27 t30 K1 R w)
def n39c23 (t2 t11 t27 t30:Value) (K1:World→Prop) (R:RT) (w:World):Prop :=
 opV Pg (binS .eql 9 true t30 (.string { data := #[118,97,108,117,101] })) (panK R) w fun t56 w =>
 condP t56 (
 n39c21 t2 t27 K1 R w) (
 n39c22 t2 t11 t27 t30 K1 R w)
def n39c24 (t2 t11 t27 t30:Value) (K1:World→Prop) (R:RT) (w:World):Prop :=
 opV Pg (binS .eql 9 true t30 (.string { data := #[97,100,100] })) (panK R) w fun t40 w =>
 condP t40 (
 drawK w fun C6 w =>
 n39c6 t2 t27 C6 K1 R w) (
 n39c23 t2 t11 t27 t30 K1 R w)
def n39c25 (t2:Value) (R:RT) (w:World):Prop :=
 L0 43 t2 R w fun t15 w =>
 opU Pg (Instr.storeAt 43 t2 t15) (panK R) w fun w =>
 qW Pg 43 t2 w fun r0 =>
 R (.returned (.tuple #[r0,(.bool false)])) w
def n39c26 (t0 t2 t11:Value) (R:RT) (w:World):Prop :=
 opV Pg (Instr.indexAt 94 t11 (.int .i64 0)) (panK R) w fun t17 w =>
 L0 9 t17 R w fun t18 w =>
 F0 43 t2 0 R w fun t19 w =>
 opU Pg (Instr.storeAt 9 t19 t18) (panK R) w fun w =>
 opV Pg (Builtin.len_ #[94] 3 #[t11]) (panK R) w fun t22 w =>
 opV Pg (Builtin.len_ #[94] 3 #[t11]) (panK R) w fun t24 w =>
 opV Pg (Instr.sliceAt 94 t11 (some (.int .i64 2)) (some t22) (some t24)) (panK R) w fun t25 w =>
 opV Pg (Instr.buildSlice 94 2 #[(0,(.string { data := #[] })),(1,(.string { data := #[] }))]) (panK R) w fun t26 w =>
 opV Pg (Builtin.append_ #[94,94] 94 #[t25,t26]) (panK R) w fun t27 w =>
 opV Pg (Instr.indexAt 94 t11 (.int .i64 1)) (panK R) w fun t29 w =>
 L0 9 t29 R w fun t30 w =>
 opV Pg (binS .eql 9 true t30 (.string { data := #[99,111,112,121] })) (panK R) w fun t33 w =>
 joinK (fun (w:World) =>
 drawK w fun C2 w =>
 n39c2 t0 t2 C2 R w) fun K1 =>
 condP t33 (
 drawK w fun C4 w =>
 n39c3 t2 t27 C4 K1 R w) (
 n39c24 t2 t11 t27 t30 K1 R w)
def n39c27 (t0 t2 t11:Value) (R:RT) (w:World):Prop :=
 opV Pg (Builtin.len_ #[94] 3 #[t11]) (panK R) w fun t13 w =>
 B0 .lss 3 true t13 (.int .i64 2) R w fun t14 w =>
 condP t14 (
 n39c25 t2 R w) (
 n39c26 t0 t2 t11 R w)
def n39 (t0:Value) (R:RT) (w:World):Prop :=
 opV Pg (Instr.alloc 43 true (.tuple #[])) (panK R) w fun t2 w =>
 callK Pg 50 #[t0,(.string { data := #[32] })] (panK R) w fun t11 w =>
 n39c27 t0 t2 t11 R w
theorem n39s {t0:Value} {R:RT} {w:World} (h:n39 t0 R w):Calls Pg 51 #[t0] w R:=by
 refine yD Tryz.func51 ?_
 refine zs<|zr<|yv h fun _ w h=>zm<|zn<|zk<|zs<|zr<|zm<|yc h c50 fun _ w h=>zm<|zn<|zk<|zs<|zs ?_
 refine zr<|zm<|yx h fun _ w h=>yb h fun _ w h=>zn<|zk<|yC h (fun h=>zs<|zr<|yv h fun _ w h=>yu h fun w h=>zm<|zn<|zk<|sim_ret<|sim_then_ret<|body_retCT rfl rfl rfl h) fun h=>sim_skip<|zk<|zs<|zr<|zm<|yv h fun _ w h=>yv h fun _ w h=>?_
 refine yv h fun _ w h=>yu h fun w h=>zn<|zk<|zs<|zr<|zm<|zm<|yx h fun _ w h=>zm<|yx h fun _ w h=>yv h fun _ w h=>yS h fun _ w h=>yx h fun _ w h=>zm ?_
 refine zn<|zk<|zs<|zs<|zr<|zm<|yv h fun _ w h=>yv h fun _ w h=>zn<|zk<|sim_block<|zs<|zr<|yb h fun _ w h=>zm ?_
 refine zn<|zk<|yJ0 [3,7,8,9,31,34,35,36,37,38,39,40,41,42,43,44,45,46,47,48,49,50,51,52,53,54,55,56,57,58,59,60,61,62,63,64,65,66,67,68,69,70,71,72,73,74,75,76,77,78,79,80,81,82,83,84,85,86,87,88,89,90,91,92,93,94,95,96,97,98,99,100,101,102,103,104,105,106,107,108,109,110,111,112,113,114,115,116] h (fun _ _ hkK1 h=>?_) fun σ w h=>?_
 · refine yC h (fun h=>?_) fun h=>?_
   · refine yh [34,35,36,37,38] h fun C hC h=>yw 0 hC ?_
     refine ye 1 hC h fun _ h=>?_
     refine ye 2 hC h fun _ h=>?_
     refine ye 3 hC h fun _ h=>?_
     refine yo 4 ?_
     refine yu h fun w h=>zn ?_
     obtain ⟨hC,h⟩:=h
     refine ⟨hC,?_⟩
     refine ye 5 hC h fun _ h=>?_
     refine yq 6 1 ?_
     refine yu h fun w h=>zn ?_
     obtain ⟨C5,hC,h⟩:=h
     refine ⟨C5,hC,?_⟩
     refine yz<|zk ?_
     exact zt hkK1 h
   refine zs<|zr<|yb h fun _ w h=>zm<|zn<|zk<|yC h (fun h=>?_) fun h=>?_
   · refine zs<|yh [41,42,43,44,45] h fun C hC h=>yw 0 hC ?_
     refine ye 1 hC h fun _ h=>?_
     refine ye 2 hC h fun _ h=>?_
     refine ye 3 hC h fun _ h=>?_
     refine yo 4 ?_
     refine yu h fun w h=>zn ?_
     obtain ⟨hC,h⟩:=h
     refine ⟨hC,?_⟩
     refine ye 5 hC h fun _ h=>?_
     refine yq 6 1 ?_
     refine yu h fun w h=>zn ?_
     obtain ⟨C7,hC,h⟩:=h
     refine ⟨C7,hC,?_⟩
     refine yz<|zk<|zr<|zm<|yv h fun _ w h=>yv h fun _ w h=>yc h c87 fun _ w h=>zm<|yv h fun _ w h=>yv h fun _ w h=>yv h fun _ w h=>yv h fun _ w h=>yu h fun w h=>zn<|zk ?_
     exact zt hkK1 h
   refine zs<|zr<|yb h fun _ w h=>zm<|zn<|zk<|yC h (fun h=>?_) fun h=>?_
   · refine zs<|zr<|yv h fun _ w h=>yu h fun w h=>zn<|zk<|zr<|zm<|yv h fun _ w h=>yv h fun _ w h=>yc h c87 fun _ w h=>zm<|yv h fun _ w h=>yv h fun _ w h=>yv h fun _ w h=>?_
     refine yv h fun _ w h=>yu h fun w h=>zn<|zk ?_
     exact zt hkK1 h
   refine zs<|zr<|yb h fun _ w h=>zm<|zn<|zk<|yC h (fun h=>?_) fun h=>?_
   · refine zr<|zm<|yv h fun _ w h=>yv h fun _ w h=>yc h c88 fun _ w h=>yv h fun _ w h=>yu h fun w h=>yv h fun _ w h=>yu h fun w h=>zn<|zk ?_
     exact zt hkK1 h
   refine zs<|zr<|yb h fun _ w h=>zm<|zn<|zk<|yC h (fun h=>?_) fun h=>?_
   · refine zs<|yh [77,78,79,80,81] h fun C hC h=>yw 0 hC ?_
     refine ye 1 hC h fun _ h=>?_
     refine ye 2 hC h fun _ h=>?_
     refine ye 3 hC h fun _ h=>?_
     refine yo 4 ?_
     refine yu h fun w h=>zn ?_
     obtain ⟨hC,h⟩:=h
     refine ⟨hC,?_⟩
     refine ye 5 hC h fun _ h=>?_
     refine yq 6 1 ?_
     refine yu h fun w h=>zn ?_
     obtain ⟨C9,hC,h⟩:=h
     refine ⟨C9,hC,?_⟩
     refine yz<|zk<|zs<|zr<|zm<|zm<|yx h fun _ w h=>yx h fun _ w h=>yv h fun _ w h=>yx h fun _ w h=>zm<|zn<|zk<|sim_block<|yl1 [3,7,8,9,88,89,90,91,92,93,94,95,96,97,98,99,100,101,102,103,104,105,106] 88 h fun σ w next h=>?_
     refine zs<|zr<|yb h fun _ w h=>zn<|zk<|zs<|yC h (fun h=>?_) fun h=>?_
     · refine sim_skip<|zk<|zs<|sim_block<|zs<|zr<|yv h fun _ w h=>yv h fun _ w h=>zm<|zn<|zk<|zs<|zr<|zm<|yc h c89 fun _ w h=>?_
       refine zm<|yv h fun _ w h=>yv h fun _ w h=>yv h fun _ w h=>yu h fun w h=>zm<|zn<|zk<|zs<|zs<|zr<|zm<|yv h fun _ w h=>zn<|zk ?_
       refine yC h (fun h=>?_) fun h=>?_
       · refine zs<|zr<|yv h fun _ w h=>yu h fun w h=>zm<|zn<|zk<|sim_ret<|sim_then_ret<|sim_block_ret<|sim_then_ret<|sim_then_ret<|sim_block_ret<|sim_then_ret<|sim_block_ret ?_
         exact sim_then_ret<|body_retCT rfl rfl rfl h
       refine sim_skip<|zk<|zr<|yv h fun _ w h=>yv h fun _ w h=>yv h fun _ w h=>yS h fun _ w h=>yx h fun _ w h=>yv h fun _ w h=>yu h fun w h=>zn<|sim_block_normal<|zk<|zr<|yb h fun _ w h=>?_
       exact zm<|zn<|zk<|⟨rfl,h⟩
     refine sim_exit<|sim_then_exit<|sim_then_exit<|sim_block_hit<|zk ?_
     exact zt hkK1 h
   refine zs<|zr<|yb h fun _ w h=>zm<|zn<|zk<|yC h (fun h=>?_) fun h=>?_
   · refine yh [109,110,111,112,113] h fun C hC h=>yw 0 hC ?_
     refine ye 1 hC h fun _ h=>?_
     refine ye 2 hC h fun _ h=>?_
     refine ye 3 hC h fun _ h=>?_
     refine yo 4 ?_
     refine yu h fun w h=>zn ?_
     obtain ⟨hC,h⟩:=h
     refine ⟨hC,?_⟩
     refine ye 5 hC h fun _ h=>?_
     refine yq 6 1 ?_
     refine yu h fun w h=>zn ?_
     obtain ⟨C12,hC,h⟩:=h
     refine ⟨C12,hC,?_⟩
     refine yz<|zk ?_
     exact zt hkK1 h
   refine zs<|zr<|yb h fun _ w h=>zm<|zn<|zk<|yC h (fun h=>?_) fun h=>?_
   · refine zr<|yv h fun _ w h=>yu h fun w h=>zn<|zk ?_
     exact zt hkK1 h
   exact zs<|zr<|yv h fun _ w h=>yu h fun w h=>zm<|zn<|zk<|sim_ret<|sim_then_ret<|sim_block_ret<|sim_then_ret<|body_retCT rfl rfl rfl h
 refine sim_block_normal<|zk<|zs<|yh [3,117,118,119,120,121,122,123,124,125,126] h fun C hC h=>ye 0 hC h fun _ h=>?_
 refine ye 1 hC h fun _ h=>?_
 refine yo 2 ?_
 refine yc h c58 fun _ w h=>zn ?_
 obtain ⟨hC,h⟩:=h
 refine ⟨hC,?_⟩
 refine yw 3 hC ?_
 refine yj1 3 [8,6,5,7,4,3,2,1,0] [121,122,123,124,125] 125 h (fun _ hT hb h=>?_) (fun _ hT hb h=>?_) fun σ w hC h=>?_
 · refine ye 4 hC h fun _ h=>?_
   refine yw 7 hC ?_
   refine yo 5 ?_
   refine yc h c60 fun _ w h=>zn ?_
   obtain ⟨hC,h⟩:=h
   refine ⟨hC,?_⟩
   refine yo 6 ?_
   refine yc h c59 fun _ w h=>zn ?_
   obtain ⟨hC,h⟩:=h
   refine ⟨hC,?_⟩
   refine ye 8 hC h fun _ h=>?_
   exact yt hT hC h
 · refine yi 4 hC ?_
   refine yi 7 hC ?_
   refine yi 5 hC ?_
   refine yi 6 hC ?_
   refine yi 8 hC ?_
   exact yt hT hC h
 refine yP 9 hC h fun _ h=>?_
 refine yo 10 ?_
 refine yu h fun w h=>zn ?_
 obtain ⟨hC,h⟩:=h
 refine ⟨hC,?_⟩
 refine yw 11 hC ?_
 exact yz<|zk<|sim_ret<|body_retCT rfl rfl rfl h
def n34 (t0:Value) (R:RT) (w:World):Prop :=
 callK Pg 90 #[t0,(.func (.func 91) #[] #[])] (panK R) w fun t4 w =>
 opV Pg (Op.unary .not t4) (panK R) w fun t5 w =>
 R (.returned t5) w
theorem n34s {t0:Value} {R:RT} {w:World} (h:n34 t0 R w):Calls Pg 52 #[t0] w R:=by
 refine yD Tryz.func52 ?_
 exact zs<|zr<|zm<|zn<|zk<|zs<|zr<|zm<|yc h c90 fun _ w h=>yv h fun _ w h=>zm<|zn<|zk<|sim_ret<|body_ret1 rfl rfl h
def n114 (t0:Value) (R:RT) (w:World):Prop :=
 opV Pg (binS .eql 58 true t0 (Value.slice none 0 0)) (panK R) w fun t4 w =>
 condP t4 (
 R (.returned (Value.slice none 0 0)) w) (
 opV Pg (Instr.buildSlice 58 0 #[]) (panK R) w fun t5 w =>
 opV Pg (Builtin.append_ #[58,58] 58 #[t5,t0]) (panK R) w fun t7 w =>
 R (.returned t7) w)
theorem n114s {t0:Value} {R:RT} {w:World} (h:n114 t0 R w):Calls Pg 55 #[t0] w R:=by
 refine yD Tryz.func55 ?_
 refine zs<|zr<|zm<|zn<|zk<|zs<|zs<|zr<|zm<|yb h fun _ w h=>zn<|zk<|yC h (fun h=>zs<|zr<|zm<|zn<|zk<|sim_ret<|sim_then_ret<|body_ret1 rfl rfl h) fun h=>sim_skip ?_
 exact zk<|zs<|zr<|yS h fun _ w h=>zm<|yx h fun _ w h=>zm<|zn<|zk<|sim_ret<|body_ret1 rfl rfl h
def n18c1 (t0 t4 t7 t12 t14:Value) (C3:World→Prop) (next1:KV) (R:RT) (w:World):Prop :=
 qV Pg C3 (Instr.lookup 106 t12 t14 false) fun t15 =>
 qV Pg C3 (Instr.field 105 t15 0) fun t16 =>
 joinK (fun (t23:Value) (w:World) =>
 pickK t16 t23 (.bool false) fun t24 =>
 condP t24 (
 R (.returned (.tuple #[])) w) (
 B0 .add 3 true t7 (.int .i64 1) R w fun t25 w =>
 next1 t25 w)) fun K4 =>
 guardP t16 true (
 qV Pg C3 (Instr.fieldAt 43 t4 2) fun t20 =>
 qV Pg C3 (Instr.loadAt 9 t20) fun t21 =>
 callV Pg t0 #[t7,t21] (panK R) w fun t22 w =>
 C3 w∧(
 qV Pg C3 (Op.unary .not t22) fun t23 =>
 K4 t23 w)) (
 K4 undef w)
def n18c2 (t0 t4 t7:Value) (C2:World→Prop) (next1:KV) (R:RT) (w:World):Prop :=
 qV Pg C2 (Instr.fieldAt 43 t4 1) fun t13 =>
 qV Pg C2 (Instr.loadAt 39 t13) fun t14 =>
 C0 57 #[] R w fun t12 w =>
 narrowK C2 w fun C3 w =>
 n18c1 t0 t4 t7 t12 t14 C3 next1 R w
def n18c3 (t0 t5 t7:Value) (next1:KV) (R:RT) (w:World):Prop :=
 X0 58 t5 t7 R w fun t10 w =>
 L0 43 t10 R w fun t11 w =>
 opV Pg (Instr.alloc 43 true (.tuple #[])) (panK R) w fun t4 w =>
 opU Pg (Instr.storeAt 43 t4 t11) (panK R) w fun w =>
 drawK w fun C2 w =>
 n18c2 t0 t4 t7 C2 next1 R w
def n18 (t0 t1:Value) (R:RT) (w:World):Prop :=
 L0 58 t1 R w fun t5 w =>
 opV Pg (Builtin.len_ #[58] 3 #[t5]) (panK R) w fun t6 w =>
 loop1 (fun t7 w next1 =>
 B0 .lss 3 false t7 t6 R w fun t8 w =>
 condP t8 (
 n18c3 t0 t5 t7 next1 R w) (
 R (.returned (.tuple #[])) w)) (.int .i64 0) w
theorem n18s {t0 t1:Value} {R:RT} {w:World} (h:n18 t0 t1 R w):Calls Pg 56 #[t0,t1] w R:=by
 refine yD Tryz.func56 ?_
 refine zs<|zr<|yv h fun _ w h=>yx h fun _ w h=>zm<|zn<|zk<|sim_block<|yl1 [3,4,7,8,9,10,11,12,13,14,15,16,17,18,19,20,21,22,23,24,25] 7 h fun σ w next h=>zs<|zr<|yb h fun _ w h=>zn<|zk<|zs ?_
 refine yC h (fun h=>?_) fun h=>?_
 · refine sim_skip<|zk<|zs<|sim_block<|zs<|zr<|zm<|yv h fun _ w h=>yv h fun _ w h=>yv h fun _ w h=>zm<|yu h fun w h=>zn<|zk<|zs ?_
   refine yh [12,13,14,15,16,17,18,19,20,21,22,23,24] h fun C hC h=>ye 1 hC h fun _ h=>?_
   refine ye 2 hC h fun _ h=>?_
   refine yr 0 ?_
   refine yc h c57 fun _ w h=>zn ?_
   obtain ⟨C3,hs,hC,h⟩:=h
   refine ⟨C3,hs,hC,?_⟩
   refine ye 3 hC h fun _ h=>?_
   refine ye 4 hC h fun _ h=>?_
   refine yw 5 hC ?_
   refine yj1 1 [11,10,9,8,7,6,5,4,3,0,2,1] [18,19,20,21,22,23] 23 h (fun _ hT hb h=>?_) (fun _ hT hb h=>?_) fun σ w hC h=>?_
   · refine yw 6 hC ?_
     refine yw 7 hC ?_
     refine ye 8 hC h fun _ h=>?_
     refine ye 9 hC h fun _ h=>?_
     refine yo 10 ?_
     refine yV h fun _ w h=>zn ?_
     obtain ⟨hC,h⟩:=h
     refine ⟨hC,?_⟩
     refine ye 11 hC h fun _ h=>?_
     exact yt hT hC h
   · refine yi 6 hC ?_
     refine yi 7 hC ?_
     refine yi 8 hC ?_
     refine yi 9 hC ?_
     refine yi 10 hC ?_
     refine yi 11 hC ?_
     exact yt hT hC h
   refine yP 12 hC h fun _ h=>?_
   exact yz<|zk<|yC h (fun h=>sim_ret<|sim_block_ret<|sim_then_ret<|sim_then_ret<|sim_block_ret<|body_ret0 rfl h) fun h=>sim_skip<|sim_block_normal<|zk<|zr<|yb h fun _ w h=>zm<|zn<|zk<|⟨rfl,h⟩
 exact sim_exit<|sim_then_exit<|sim_then_exit<|sim_block_hit<|body_normal<|body_ret0 rfl h
def n32 (R:RT) (w:World):Prop :=
 opV Pg (Instr.makeMap 106 none) (panK R) w fun t1 w =>
 opV Pg (Instr.build 105 #[(0,(.bool true))]) (panK R) w fun t2 w =>
 opU Pg (Instr.mapUpdate 106 t1 (.int .i64 1) t2) (panK R) w fun w =>
 opV Pg (Instr.build 105 #[(0,(.bool true)),(1,(.bool true))]) (panK R) w fun t3 w =>
 opU Pg (Instr.mapUpdate 106 t1 (.int .i64 2) t3) (panK R) w fun w =>
 opV Pg (Instr.build 105 #[(2,(.bool true))]) (panK R) w fun t4 w =>
 opU Pg (Instr.mapUpdate 106 t1 (.int .i64 3) t4) (panK R) w fun w =>
 opV Pg (Instr.build 105 #[(3,(.bool true))]) (panK R) w fun t5 w =>
 opU Pg (Instr.mapUpdate 106 t1 (.int .i64 4) t5) (panK R) w fun w =>
 opV Pg (Instr.build 105 #[(0,(.bool true)),(4,(.bool true))]) (panK R) w fun t6 w =>
 opU Pg (Instr.mapUpdate 106 t1 (.int .i64 5) t6) (panK R) w fun w =>
 opV Pg (Instr.build 105 #[(0,(.bool true))]) (panK R) w fun t7 w =>
 opU Pg (Instr.mapUpdate 106 t1 (.int .i64 6) t7) (panK R) w fun w =>
 opV Pg (Instr.build 105 #[]) (panK R) w fun t8 w =>
 opU Pg (Instr.mapUpdate 106 t1 (.int .i64 7) t8) (panK R) w fun w =>
 R (.returned t1) w
theorem n32s {R:RT} {w:World} (h:n32 R w):Calls Pg 57 #[] w R:=by
 refine yD Tryz.func57 ?_
 refine zs<|zr<|zm<|zn<|zk<|zs<|zr<|yv h fun _ w h=>yB h fun _ w h=>yu h fun w h=>yB h fun _ w h=>yu h fun w h=>yB h fun _ w h=>yu h fun w h=>yB h fun _ w h=>?_
 exact yu h fun w h=>yB h fun _ w h=>yu h fun w h=>yB h fun _ w h=>yu h fun w h=>yB h fun _ w h=>yu h fun w h=>zm<|zm<|zn<|zk<|sim_ret<|body_ret1 rfl rfl h
theorem class_cases (f:FieldD):(f.kind=1∨f.kind=2∨f.kind=3∨f.kind=4∨f.kind=5∨f.kind=6∨f.kind=7∨f.kind=8∨f.kind=9∨f.kind=10∨f.kind=11∨f.kind=12)∨((f.kind == 1)=false∧(f.kind == 3)=false∧(f.kind == 4)=false∧(f.kind == 5)=false∧(f.kind == 6)=false∧(f.kind == 7)=false∧(f.kind == 8)=false∧(f.kind == 12)=false∧(f.kind == 9)=false):=by
 by_cases h:1≤f.kind∧f.kind≤12
 · left;omega
 · right
   have key:∀ n:Int,(1≤n∧n≤12)→(f.kind == n)=false:=fun n hn=>by
    have:f.kind≠n:=Qx
    simpa using this
   exact ⟨key 1 Qx,key 3 Qx,key 4 Qx,key 5 Qx,key 6 Qx,key 7 Qx,key 8 Qx,key 12 Qx,key 9 Qx⟩
theorem classB_other {f:FieldD} (h1:(f.kind == 1)=false) (h3:(f.kind == 3)=false) (h4:(f.kind == 4)=false) (h5:(f.kind == 5)=false) (h6:(f.kind == 6)=false) (h7:(f.kind == 7)=false) (h8:(f.kind == 8)=false) (h12:(f.kind == 12)=false) (h9:(f.kind == 9)=false):classB f=0:=by
 have e:∀ n:Int,(f.kind == n)=false→f.kind≠n:=fun n h=>by simpa using h
 unfold classB
 rw [if_neg (by have:=e _ h1;have:=e _ h3;omega),if_neg (by have:=e _ h4;have:=e _ h5;omega),if_neg (e _ h6),if_neg (e _ h7),if_neg (by have:=e _ h8;have:=e _ h12;omega),if_neg (e _ h9)]
theorem classOf_ret (w0:World) (v:Value) (f:FieldD) (hf:FieldVal w0 v f):Ret Pg 68 #[v] w0 fun r w'=>r = .int .i64 (classB f)∧Ext w0 w':=by
 obtain ⟨tv,cv,rfl,hT,hC,_,_⟩:=hf.op
 refine n29s (R:=retR _) ?_;unfold n29
 rcases class_cases f with (h | h | h | h | h | h | h | h | h | h | h | h) | ⟨h1,h3,h4,h5,h6,h7,h8,h12,h9⟩
 case inr =>
  simp (disch:=try exact DI) only [↓PR,QR,simprocAttr,↓n29c1,↓n29c2,↓n29c3,↓n29c4,h1,h3,h4,h5,h6,h7,h8,h12,h9]
  exact ⟨by rw [classB_other h1 h3 h4 h5 h6 h7 h8 h12 h9],ee⟩
 all_goals
  simp (disch:=try exact DI) only [↓PR,QR,simprocAttr,↓n29c1,↓n29c2,↓n29c3,↓n29c4,h]
  exact ⟨by unfold classB;rw [h];rfl,ee⟩
theorem allowed_ret (w0:World) (n:Int):Ret Pg 42 #[.int .i64 n] w0 fun r w'=>r = .bool (numOk n)∧w'=w0:=by
 refine n20s (R:=retR _) ?_;unfold n20
 unfold numOk
 by_cases h1:0≤n
 · have d1:decide (n≥0)=true:=by simpa using h1
   by_cases h2:n < 34359738368
   · have d2:decide (n < 34359738368)=true:=by simpa using h2
     refine QJ d1 d2 ?_
     exact ⟨by simp [h1,h2],by trivial⟩
   · have d2:decide (n < 34359738368)=false:=by simpa using h2
     refine QJ d1 d2 ?_
     exact ⟨by simp [h2],by trivial⟩
 · have d1:decide (n≥0)=false:=by simpa using h1
   refine Qp d1 ?_
   exact ⟨by simp [h1],by trivial⟩
def useV (u:UseD):Value := .agg #[.bool u.fr,.bool u.add,.bool u.value,.bool u.bytes,.bool u.table]
def KindsM (L:List (Int×Value×Nat)):Prop:=∀ k,Sw.look L k=(usesK k).map useV
theorem mkind_step {w0 w:World} {m c:Nat} {L:List (Int×Value×Nat)} {QP:List PanicEntry→World→Prop} {ku:World→Prop} (hM:MapB w m kindEnc L c) (e:Ext w0 w) (hm:w0.heap.size≤m) (k:Int) (v:Value)
 (h:∀ w' L' c',MapB w' m kindEnc L' c'→(∀ k',Sw.look L' k'=if k'=k then some v else Sw.look L k')→Ext w0 w'→ku w'):opU Pg (Instr.mapUpdate 106 (.map (some m)) (.int .i64 k) v) QP w ku:=by
 rw [op_mapUpdate Tryz.underlying106 (KeyOK.int Tryz.underlying39) hM k v]
 exact h _ _ _ (hM.put k v) (fun k'=>look_put _ _ _ _ _) (e.putObj hm _)
theorem mkinds_ret (w0:World):Ret Pg 57 #[] w0 fun r w'=>∃ m L c,r = .map (some m)∧w0.heap.size≤m∧MapB w' m kindEnc L c∧KindsM L∧Ext w0 w':=by
 refine n32s (R:=retR _) ?_;unfold n32
 refine Qf ?_
 have hM0:MapB (w0.alloc (.map #[] 0)) w0.heap.size kindEnc [] 0:=MapB.new w0 _
 have e0:Ext w0 (w0.alloc (.map #[] 0)):=ee
 refine mkind_step hM0 e0 (Nat.le_refl _) 1 _ (fun w1 L1 c1 hM1 hl1 e1=>?_)
 refine Qf ?_
 refine mkind_step hM1 e1 (Nat.le_refl _) 2 _ (fun w2 L2 c2 hM2 hl2 e2=>?_)
 refine Qf ?_
 refine mkind_step hM2 e2 (Nat.le_refl _) 3 _ (fun w3 L3 c3 hM3 hl3 e3=>?_)
 refine Qf ?_
 refine mkind_step hM3 e3 (Nat.le_refl _) 4 _ (fun w4 L4 c4 hM4 hl4 e4=>?_)
 refine Qf ?_
 refine mkind_step hM4 e4 (Nat.le_refl _) 5 _ (fun w5 L5 c5 hM5 hl5 e5=>?_)
 refine Qf ?_
 refine mkind_step hM5 e5 (Nat.le_refl _) 6 _ (fun w6 L6 c6 hM6 hl6 e6=>?_)
 refine Qf ?_
 refine mkind_step hM6 e6 (Nat.le_refl _) 7 _ (fun w7 L7 c7 hM7 hl7 e7=>?_)
 refine Qf ?_
 refine ⟨_,L7,c7,rfl,Nat.le_refl _,hM7,fun k=>?_,e7⟩
 rw [hl7,hl6,hl5,hl4,hl3,hl2,hl1]
 unfold usesK
 by_cases k1:k=1
 · subst k1;rfl
 by_cases k2:k=2
 · subst k2;rfl
 by_cases k3:k=3
 · subst k3;rfl
 by_cases k4:k=4
 · subst k4;rfl
 by_cases k5:k=5
 · subst k5;rfl
 by_cases k6:k=6
 · subst k6;rfl
 by_cases k7:k=7
 · subst k7;rfl
 rw [if_neg k1,if_neg k2,if_neg k3,if_neg k4,if_neg k5,if_neg k6,if_neg k7,if_neg k1,if_neg k2,if_neg k3,if_neg k4,if_neg k5,if_neg k6,if_neg k7]
 rfl
def n30c1 (t39 t43 t47:Value) (R:RT) (w:World):Prop :=
 joinK (fun (t48:Value) (w:World) =>
 pickK t39 t48 (.bool false) fun t49 =>
 R (.returned t49) w) fun K13 =>
 guardP t39 true (
 pickK t43 (.bool true) t47 fun t48 =>
 K13 t48 w) (
 K13 undef w)
def n30c2 (t2 t39 t43:Value) (R:RT) (w:World):Prop :=
 joinK (fun (t47:Value) (w:World) =>
 n30c1 t39 t43 t47 R w) fun K12 =>
 guardP t43 false (
 F0 43 t2 6 R w fun t44 w =>
 L0 41 t44 R w fun t45 w =>
 opV Pg (Builtin.len_ #[41] 3 #[t45]) (panK R) w fun t46 w =>
 B0 .eql 3 true t46 (.int .i64 0) R w fun t47 w =>
 K12 t47 w) (
 K12 undef w)
def n30c3 (t2 t3 t29 t38:Value) (R:RT) (w:World):Prop :=
 pickK t29 t38 (.bool false) fun t39 =>
 joinK (fun (t43:Value) (w:World) =>
 n30c2 t2 t39 t43 R w) fun K11 =>
 guardP t39 true (
 F0 105 t3 4 R w fun t41 w =>
 L0 4 t41 R w fun t42 w =>
 K11 t42 w) (
 K11 undef w)
def n30c4 (t2 t3 t29 t33:Value) (R:RT) (w:World):Prop :=
 joinK (fun (t37:Value) (w:World) =>
 joinK (fun (t38:Value) (w:World) =>
 n30c3 t2 t3 t29 t38 R w) fun K10 =>
 guardP t29 true (
 pickK t33 (.bool true) t37 fun t38 =>
 K10 t38 w) (
 K10 undef w)) fun K9 =>
 guardP t33 false (
 F0 43 t2 5 R w fun t34 w =>
 L0 40 t34 R w fun t35 w =>
 opV Pg (Builtin.len_ #[40] 3 #[t35]) (panK R) w fun t36 w =>
 B0 .eql 3 true t36 (.int .i64 0) R w fun t37 w =>
 K9 t37 w) (
 K9 undef w)
def n30c5 (t2 t3 t20 t28:Value) (R:RT) (w:World):Prop :=
 pickK t20 t28 (.bool false) fun t29 =>
 joinK (fun (t33:Value) (w:World) =>
 n30c4 t2 t3 t29 t33 R w) fun K8 =>
 guardP t29 true (
 F0 105 t3 3 R w fun t31 w =>
 L0 4 t31 R w fun t32 w =>
 K8 t32 w) (
 K8 undef w)
def n30c6 (t2 t3 t20 t24:Value) (R:RT) (w:World):Prop :=
 joinK (fun (t27:Value) (w:World) =>
 joinK (fun (t28:Value) (w:World) =>
 n30c5 t2 t3 t20 t28 R w) fun K7 =>
 guardP t20 true (
 pickK t24 (.bool true) t27 fun t28 =>
 K7 t28 w) (
 K7 undef w)) fun K6 =>
 guardP t24 false (
 F0 43 t2 4 R w fun t25 w =>
 L0 3 t25 R w fun t26 w =>
 B0 .eql 3 true t26 (.int .i64 0) R w fun t27 w =>
 K6 t27 w) (
 K6 undef w)
def n30c7 (t2 t3 t11 t19:Value) (R:RT) (w:World):Prop :=
 pickK t11 t19 (.bool false) fun t20 =>
 joinK (fun (t24:Value) (w:World) =>
 n30c6 t2 t3 t20 t24 R w) fun K5 =>
 guardP t20 true (
 F0 105 t3 2 R w fun t22 w =>
 L0 4 t22 R w fun t23 w =>
 K5 t23 w) (
 K5 undef w)
def n30c8 (t2 t3 t11 t15:Value) (R:RT) (w:World):Prop :=
 joinK (fun (t18:Value) (w:World) =>
 joinK (fun (t19:Value) (w:World) =>
 n30c7 t2 t3 t11 t19 R w) fun K4 =>
 guardP t11 true (
 pickK t15 (.bool true) t18 fun t19 =>
 K4 t19 w) (
 K4 undef w)) fun K3 =>
 guardP t15 false (
 F0 43 t2 3 R w fun t16 w =>
 L0 3 t16 R w fun t17 w =>
 B0 .eql 3 true t17 (.int .i64 0) R w fun t18 w =>
 K3 t18 w) (
 K3 undef w)
def n30c9 (t2 t3 t6 t10:Value) (R:RT) (w:World):Prop :=
 pickK t6 (.bool true) t10 fun t11 =>
 joinK (fun (t15:Value) (w:World) =>
 n30c8 t2 t3 t11 t15 R w) fun K2 =>
 guardP t11 true (
 F0 105 t3 1 R w fun t13 w =>
 L0 4 t13 R w fun t14 w =>
 K2 t14 w) (
 K2 undef w)
def n30 (t0 t1:Value) (R:RT) (w:World):Prop :=
 opV Pg (Instr.box 43 t0) (panK R) w fun t2 w =>
 opV Pg (Instr.box 105 t1) (panK R) w fun t3 w =>
 F0 105 t3 0 R w fun t5 w =>
 L0 4 t5 R w fun t6 w =>
 joinK (fun (t10:Value) (w:World) =>
 n30c9 t2 t3 t6 t10 R w) fun K1 =>
 guardP t6 false (
 F0 43 t2 2 R w fun t8 w =>
 L0 9 t8 R w fun t9 w =>
 opV Pg (binS .eql 9 true t9 (.string { data := #[] })) (panK R) w fun t10 w =>
 K1 t10 w) (
 K1 undef w)
theorem n30s {t0 t1:Value} {R:RT} {w:World} (h:n30 t0 t1 R w):Calls Pg 97 #[t0,t1] w R:=by
 refine yD Tryz.func97 ?_
 refine zs<|zr<|yv h fun _ w h=>yv h fun _ w h=>zm<|zn<|zk<|zs<|sim_regionG<|yG 3<|yv h fun _ w h=>yv h fun _ w h=>zm<|zn<|yg1 3 2 false [8,9,10] 10 h (fun _ T hT h=>?_) fun σ w h=>?_
 · refine yv h fun _ w h=>yv h fun _ w h=>yb h fun _ w h=>zn ?_
   exact zt hT h
 refine yG 2<|yp h fun _ h=>zm<|zn<|yg1 3 7 true [13,14,15] 15 h (fun _ T hT h=>?_) fun σ w h=>?_
 · refine yv h fun _ w h=>yv h fun _ w h=>zm<|zn ?_
   exact zt hT h
 refine yg1 3 10 false [16,17,18] 18 h (fun _ T hT h=>?_) fun σ w h=>?_
 · refine yv h fun _ w h=>yv h fun _ w h=>yb h fun _ w h=>zn ?_
   exact zt hT h
 refine yg1 1 7 true [19] 19 h (fun _ T hT h=>?_) fun σ w h=>?_
 · refine yp h fun _ h=>zn ?_
   exact zt hT h
 refine yG 2<|yp h fun _ h=>zm<|zn<|yg1 3 16 true [22,23,24] 24 h (fun _ T hT h=>?_) fun σ w h=>?_
 · refine yv h fun _ w h=>yv h fun _ w h=>zm<|zn ?_
   exact zt hT h
 refine yg1 3 19 false [25,26,27] 27 h (fun _ T hT h=>?_) fun σ w h=>?_
 · refine yv h fun _ w h=>yv h fun _ w h=>yb h fun _ w h=>zn ?_
   exact zt hT h
 refine yg1 1 16 true [28] 28 h (fun _ T hT h=>?_) fun σ w h=>?_
 · refine yp h fun _ h=>zn ?_
   exact zt hT h
 refine yG 2<|yp h fun _ h=>zm<|zn<|yg1 3 25 true [31,32,33] 33 h (fun _ T hT h=>?_) fun σ w h=>?_
 · refine yv h fun _ w h=>yv h fun _ w h=>zm<|zn ?_
   exact zt hT h
 refine yg1 4 28 false [34,35,36,37] 37 h (fun _ T hT h=>?_) fun σ w h=>?_
 · refine yv h fun _ w h=>yv h fun _ w h=>yx h fun _ w h=>yb h fun _ w h=>zn ?_
   exact zt hT h
 refine yg1 1 25 true [38] 38 h (fun _ T hT h=>?_) fun σ w h=>?_
 · refine yp h fun _ h=>zn ?_
   exact zt hT h
 refine yG 2<|yp h fun _ h=>zm<|zn<|yg1 3 35 true [41,42,43] 43 h (fun _ T hT h=>?_) fun σ w h=>?_
 · refine yv h fun _ w h=>yv h fun _ w h=>zm<|zn ?_
   exact zt hT h
 refine yg1 4 38 false [44,45,46,47] 47 h (fun _ T hT h=>?_) fun σ w h=>?_
 · refine yv h fun _ w h=>yv h fun _ w h=>yx h fun _ w h=>yb h fun _ w h=>zn ?_
   exact zt hT h
 refine yg1 1 35 true [48] 48 h (fun _ T hT h=>?_) fun σ w h=>?_
 · refine yp h fun _ h=>zn ?_
   exact zt hT h
 exact yG 2<|yp h fun _ h=>zm<|zn<|sim_end<|zk<|sim_ret<|body_ret1 rfl rfl h
theorem clean_ret (w0:World) (v:Value) (r:FrD) (hr:FrVal w0 v r) (x:UseD):Ret Pg 97 #[v,useV x] w0 fun q w'=>q = .bool (cleanB r x)∧Ext w0 w':=by
 obtain ⟨bv,tv,rfl,hB,hT,o1,o2⟩:=hr.op
 obtain ⟨Ab,cb,rfl,_⟩:=SliceOf.open hB
 obtain ⟨At,ct,rfl,_⟩:=SliceOf.open hT
 obtain ⟨u1,u2,u3,u4,u5⟩:=x
 unfold useV
 refine n30s (R:=retR _) ?_;unfold n30
 rw [op_boxA]
 have c1:=heap_new w0 #[.string r.to,.int .i64 r.kind,.string r.fr,.int .i64 r.add,.int .i64 r.value,.slice Ab r.bytes.length cb,.slice At r.table.length ct] 43
 have e1:Ext w0 (w0.alloc (.cells #[.string r.to,.int .i64 r.kind,.string r.fr,.int .i64 r.add,.int .i64 r.value,.slice Ab r.bytes.length cb,.slice At r.table.length ct] 43)):=ee
 generalize (w0.alloc (.cells #[.string r.to,.int .i64 r.kind,.string r.fr,.int .i64 r.add,.int .i64 r.value,.slice Ab r.bytes.length cb,.slice At r.table.length ct] 43))=w1 at *
 rw [op_boxA]
 have c2:=heap_new w1 #[.bool u1,.bool u2,.bool u3,.bool u4,.bool u5] 105
 have e2:Ext w1 (w1.alloc (.cells #[.bool u1,.bool u2,.bool u3,.bool u4,.bool u5] 105)):=ee
 generalize (w1.alloc (.cells #[.bool u1,.bool u2,.bool u3,.bool u4,.bool u5] 105))=w2 at *
 have c1:=e2.obj c1
 have e:=e1.trans e2
 have k1:=(cells_of_heap c1).1
 have k2:=(cells_of_heap c2).1
 clear c1 c2 e1 e2 hr hB hT
 refine QJ k1 k2 ?_
 have hcl:cleanB r ⟨u1,u2,u3,u4,u5⟩=((u1||decide (r.fr=⟨#[]⟩))&&((u2||r.add == 0)&&((u3||r.value == 0)&&((u4||(r.bytes.length:Int) == 0)&&(u5||(r.table.length:Int) == 0))))):=by
  unfold cleanB
  have z:∀ n:Nat,((n:Int) == 0)=decide (n=0):=fun n=>by rw [Bool.eq_iff_iff];simp
  rw [z,z]
  rfl
 rw [hcl]
 clear hcl
 repeat' first
  | exact ⟨by simp [*],e⟩
  | (simp [*];done)
  | (refine guard_cases (fun _=>?_) (fun _=>?_)<;>simp (disch:=try exact DI) only [↓PR,QR,simprocAttr,↓n30c1,↓n30c2,↓n30c3,↓n30c4,↓n30c5,↓n30c6,↓n30c7,↓n30c8,↓n30c9, *])
  | (refine cond_cases (fun _=>?_) (fun _=>?_)<;>simp (disch:=try exact DI) only [↓PR,QR,simprocAttr,↓n30c1,↓n30c2,↓n30c3,↓n30c4,↓n30c5,↓n30c6,↓n30c7,↓n30c8,↓n30c9, *])
def n121 (t0 t1:Value) (R:RT) (w:World):Prop :=
 C0 129 #[t0,t1] R w fun t7 w =>
 B0 .geq 3 true t7 (.int .i64 0) R w fun t8 w =>
 R (.returned t8) w
theorem n121s {t0 t1:Value} {R:RT} {w:World} (h:n121 t0 t1 R w):Calls Pg 90 #[t0,t1] w R:=by
 refine yD Tryz.func90 ?_
 refine zs<|zr<|zm<|zn<|zk<|zs<|zr<|zm<|zm<|yc h c129 fun _ w h=>yb h fun _ w h=>zm<|zn<|zk<|sim_ret ?_
 exact body_ret1 rfl rfl h
def n35 (t0:Value) (R:RT) (w:World):Prop :=
 C0 35 #[t0] R w fun t4 w =>
 opV Pg (Op.unary .not t4) (panK R) w fun t5 w =>
 R (.returned t5) w
theorem n35s {t0:Value} {R:RT} {w:World} (h:n35 t0 R w):Calls Pg 91 #[t0] w R:=by
 refine yD Tryz.func91 ?_
 exact zs<|zr<|zm<|zn<|zk<|zs<|zr<|zm<|yc h c35 fun _ w h=>yv h fun _ w h=>zm<|zn<|zk<|sim_ret<|body_ret1 rfl rfl h
def n9c1 (t3 t47:Value) (R:RT) (w:World):Prop :=
 opV Pg (Op.unary .not t47) (panK R) w fun t48 w =>
 condP t48 (
 R (.returned (.tuple #[(.int .i64 0),(.bool false)])) w) (
 L0 3 t3 R w fun t49 w =>
 R (.returned (.tuple #[t49,(.bool true)])) w)
def n9c2 (t2 t3:Value) (K1:World→Prop) (R:RT) (w:World):Prop :=
 L0 3 t3 R w fun t24 w =>
 F0 43 t2 3 R w fun t25 w =>
 L0 3 t25 R w fun t26 w =>
 B0 .add 3 false t24 t26 R w fun t27 w =>
 opU Pg (Instr.storeAt 3 t3 t27) (panK R) w fun w =>
 K1 w
def n9c3 (t2 t3 t37:Value) (K1:World→Prop) (R:RT) (w:World):Prop :=
 F0 43 t2 6 R w fun t40 w =>
 L0 41 t40 R w fun t41 w =>
 X0 41 t41 t37 R w fun t43 w =>
 F0 78 t43 2 R w fun t44 w =>
 L0 3 t44 R w fun t45 w =>
 opU Pg (Instr.storeAt 3 t3 t45) (panK R) w fun w =>
 K1 w
def n9c4 (t2 t3:Value) (K1:World→Prop) (R:RT) (w:World):Prop :=
 F0 43 t2 6 R w fun t34 w =>
 L0 41 t34 R w fun t35 w =>
 opV Pg (Instr.makeFunc (.func 44) #[] #[t3]) (panK R) w fun t36 w =>
 C0 43 #[t35,t36] R w fun t37 w =>
 B0 .lss 3 true t37 (.int .i64 0) R w fun t39 w =>
 condP t39 (
 R (.returned (.tuple #[(.int .i64 0),(.bool false)])) w) (
 n9c3 t2 t3 t37 K1 R w)
def n9c5 (t2 t3:Value) (K1:World→Prop) (R:RT) (w:World):Prop :=
 F0 43 t2 4 R w fun t30 w =>
 L0 3 t30 R w fun t31 w =>
 opU Pg (Instr.storeAt 3 t3 t31) (panK R) w fun w =>
 K1 w
def n9c6 (t2 t3:Value) (K1:World→Prop) (R:RT) (w:World):Prop :=
 F0 43 t2 3 R w fun t16 w =>
 L0 3 t16 R w fun t17 w =>
 F0 43 t2 3 R w fun t18 w =>
 L0 3 t18 R w fun t19 w =>
 opV Pg (Op.unary .neg t19) (panK R) w fun t20 w =>
 opV Pg (Builtin.max_ #[3,3] 3 #[t17,t20]) (panK R) w fun t21 w =>
 C0 42 #[t21] R w fun t22 w =>
 opV Pg (Op.unary .not t22) (panK R) w fun t23 w =>
 condP t23 (
 R (.returned (.tuple #[(.int .i64 0),(.bool false)])) w) (
 n9c2 t2 t3 K1 R w)
def n9c7 (t2 t3 t11:Value) (K1:World→Prop) (R:RT) (w:World):Prop :=
 B0 .eql 39 true t11 (.int .i64 3) R w fun t29 w =>
 condP t29 (
 n9c5 t2 t3 K1 R w) (
 B0 .eql 39 true t11 (.int .i64 5) R w fun t33 w =>
 condP t33 (
 n9c4 t2 t3 K1 R w) (
 R (.returned (.tuple #[(.int .i64 0),(.bool false)])) w))
def n9c8 (t2 t3:Value) (R:RT) (w:World):Prop :=
 F0 43 t2 1 R w fun t10 w =>
 L0 39 t10 R w fun t11 w =>
 B0 .eql 39 true t11 (.int .i64 1) R w fun t13 w =>
 joinK (fun (w:World) =>
 L0 3 t3 R w fun t46 w =>
 C0 42 #[t46] R w fun t47 w =>
 n9c1 t3 t47 R w) fun K1 =>
 condP t13 (
 K1 w) (
 B0 .eql 39 true t11 (.int .i64 2) R w fun t15 w =>
 condP t15 (
 n9c6 t2 t3 K1 R w) (
 n9c7 t2 t3 t11 K1 R w))
def n9 (t0 t1:Value) (R:RT) (w:World):Prop :=
 opV Pg (Instr.box 43 t0) (panK R) w fun t2 w =>
 opV Pg (Instr.box 3 t1) (panK R) w fun t3 w =>
 L0 3 t3 R w fun t7 w =>
 C0 42 #[t7] R w fun t8 w =>
 opV Pg (Op.unary .not t8) (panK R) w fun t9 w =>
 condP t9 (
 R (.returned (.tuple #[(.int .i64 0),(.bool false)])) w) (
 n9c8 t2 t3 R w)
theorem n9s {t0 t1:Value} {R:RT} {w:World} (h:n9 t0 t1 R w):Calls Pg 18 #[t0,t1] w R:=by
 refine yD Tryz.func18 ?_
 refine zs<|zr<|yv h fun _ w h=>yv h fun _ w h=>zm<|zm<|zn<|zk<|zs<|zs<|zr<|yv h fun _ w h=>yc h c42 fun _ w h=>yv h fun _ w h=>zn ?_
 refine zk<|yC h (fun h=>zs<|zr<|zm<|zm<|zn<|zk<|sim_ret<|sim_then_ret<|body_ret2 rfl rfl rfl h) fun h=>sim_skip<|zk<|zs<|zs<|zr<|yv h fun _ w h=>yv h fun _ w h=>zn<|zk<|sim_block<|zs<|zr ?_
 refine yb h fun _ w h=>zm<|zn<|zk<|yJ0 [4,5,6,14,15,16,17,18,19,20,21,22,23,24,25,26,27,28,29,30,31,32,33,34,35,36,37,38,39,40,41,42,43,44,45] h (fun _ _ hkK1 h=>?_) fun σ w h=>?_
 · refine yC h (fun h=>?_) fun h=>?_
   · refine sim_skip<|zk ?_
     exact zt hkK1 h
   refine zs<|zr<|yb h fun _ w h=>zm<|zn<|zk<|yC h (fun h=>?_) fun h=>?_
   · refine zs<|zs<|zr<|yv h fun _ w h=>yv h fun _ w h=>yv h fun _ w h=>yv h fun _ w h=>yv h fun _ w h=>yx h fun _ w h=>yc h c42 fun _ w h=>yv h fun _ w h=>zn<|zk<|yC h (fun h=>zs<|zr<|zm<|zm<|zn<|zk<|sim_ret<|sim_then_ret<|sim_then_ret<|sim_block_ret<|sim_then_ret<|body_ret2 rfl rfl rfl h) fun h=>?_
     refine sim_skip<|zk<|zr<|yv h fun _ w h=>yv h fun _ w h=>yv h fun _ w h=>yb h fun _ w h=>yu h fun w h=>zn<|zk ?_
     exact zt hkK1 h
   refine zs<|zr<|yb h fun _ w h=>zm<|zn<|zk<|yC h (fun h=>?_) fun h=>?_
   · refine zr<|yv h fun _ w h=>yv h fun _ w h=>yu h fun w h=>zn<|zk ?_
     exact zt hkK1 h
   refine zs<|zr<|yb h fun _ w h=>zm<|zn<|zk<|yC h (fun h=>?_) fun h=>?_
   · refine zs<|zr<|yv h fun _ w h=>yv h fun _ w h=>yF h fun _ w h=>yc h c43 fun _ w h=>zm<|zn<|zk<|zs<|zs<|zr<|zm<|yb h fun _ w h=>zn ?_
     refine zk<|yC h (fun h=>zs<|zr<|zm<|zm<|zn<|zk<|sim_ret<|sim_then_ret<|sim_then_ret<|sim_block_ret<|sim_then_ret<|body_ret2 rfl rfl rfl h) fun h=>sim_skip<|zk<|zr<|yv h fun _ w h=>yv h fun _ w h=>zm<|yv h fun _ w h=>yv h fun _ w h=>yv h fun _ w h=>yu h fun w h=>zn<|zk ?_
     exact zt hkK1 h
   exact zs<|zr<|zm<|zm<|zn<|zk<|sim_ret<|sim_then_ret<|sim_block_ret<|sim_then_ret<|body_ret2 rfl rfl rfl h
 refine sim_block_normal<|zk<|zs<|zs<|zr<|yv h fun _ w h=>yc h c42 fun _ w h=>yv h fun _ w h=>zn<|zk<|yC h (fun h=>zs<|zr<|zm<|zm<|zn<|zk<|sim_ret<|sim_then_ret<|body_ret2 rfl rfl rfl h) fun h=>sim_skip<|zk<|zs ?_
 exact zr<|yv h fun _ w h=>zm<|zm<|zn<|zk<|sim_ret<|body_ret2 rfl rfl rfl h
def n15c1 (t10:Value) (R:RT) (w:World):Prop :=
 opV Pg (Builtin.max_ #[3,3] 3 #[t10,(.int .i64 0)]) (panK R) w fun t12 w =>
 B0 .geq 3 true t10 (.int .i64 0) R w fun t14 w =>
 R (.returned (.tuple #[t12,t14])) w
def n15 (t0 t1:Value) (R:RT) (w:World):Prop :=
 opV Pg (Instr.box 24 t0) (panK R) w fun t2 w =>
 opV Pg (Instr.box 9 t1) (panK R) w fun t3 w =>
 F0 24 t2 1 R w fun t7 w =>
 L0 22 t7 R w fun t8 w =>
 opV Pg (Instr.makeFunc (.func 47) #[] #[t3]) (panK R) w fun t9 w =>
 C0 46 #[t8,t9] R w fun t10 w =>
 n15c1 t10 R w
theorem n15s {t0 t1:Value} {R:RT} {w:World} (h:n15 t0 t1 R w):Calls Pg 20 #[t0,t1] w R:=by
 refine yD Tryz.func20 ?_
 refine zs<|zr<|yv h fun _ w h=>yv h fun _ w h=>zm<|zm<|zn<|zk<|zs<|zr<|yv h fun _ w h=>yv h fun _ w h=>yF h fun _ w h=>yc h c46 fun _ w h=>zm ?_
 exact zn<|zk<|zs<|zr<|zm<|yx h fun _ w h=>zm<|yb h fun _ w h=>zm<|zm<|zn<|zk<|sim_ret<|body_ret2 rfl rfl rfl h
abbrev StrsL (w:World) (v:Value) (l:List ByteArray):Prop:=SliceOf w 1 EStr v l
theorem before_succ {α:Type} {p:α→Bool} {l:List α} {k:Nat} {x:α} (h:∀ (j:Nat) y,j < k→l[j]?=some y→p y=false) (hx:l[k]?=some x) (hp:p x=false):∀ (j:Nat) y,j < k+1→l[j]?=some y→p y=false:=fun j y hj hy=>by
 by_cases hjk:j=k
 · subst hjk;rw [hx] at hy;injection hy with hy;subst hy;exact hp
 · exact h j y Qx hy
theorem IndexFunc_MRule_ret (w0:World) (v:Value) (l:List MrD) (g:FuncId) (caps:Array Value) (p:MrD→Bool) (hs:MrsOf w0 v l) (hg:Callable Pg g) (hc:Tests w0 MrVal g caps p l) :
 Ret Pg 46 #[v,.func (.func g) #[] caps] w0 fun r w'=>r = .int .i64 (idx p l)∧Ext w0 w':=by
 obtain ⟨A,c,rfl,hlc,hcm,hlm,hel⟩:=SliceOf.open hs
 refine n129s (R:=retR _) ?_;unfold n129
 refine Qf ?_
 refine loop1_intro (fun i w=>∃ k:Nat,i = .int .i64 k∧k≤l.length∧Ext w0 w∧∀ (j:Nat) y,j < k→l[j]?=some y→p y=false) (fun i _=>l.length - (intOf i).toNat) ⟨0,rfl,by omega,Ext.refl _,fun j y h=>by omega⟩ ?_
 rintro i w ⟨k,rfl,hk,e,hb⟩
 by_cases hlt:k < l.length
 · obtain ⟨x,hx⟩:=getElem?_lt hlt
   obtain ⟨b,o,cs,rfl,hl,hA,hE⟩:=hel k x hx
   have hd:decide ((k:Int) < (l.length:Int))=true:=by simp;omega
   refine Qp hd ?_
   unfold n129c1
   refine Qf ?_
   obtain ⟨fv,rfl,hF⟩:=hE
   have o1:=SliceOf.oneCell hF
   have hV:MrVal w0 (.agg (mrCells x fv).toArray) x:=⟨fv,rfl,hF⟩
   refine Qp (hA.c3 e) ?_
   rw [callV_func hg]
   simp only [Array.empty_append]
   refine callK_ret (hc w _ x (List.mem_of_getElem? hx) e (hV.ext e)) ?_
   rintro r w' ⟨rfl,e'⟩
   cases hp:p x with
   | true =>
    refine Qf ?_
    exact ⟨by rw [idx_here hx hp hb],e.trans e'⟩
   | false =>
    refine Qf ?_
    exact ⟨⟨k+1,rfl,by omega,e.trans e',before_succ hb hx hp⟩,by simp [intOf];omega⟩
 · have hd:decide ((k:Int) < (l.length:Int))=false:=by simp;omega
   refine Qp hd ?_
   exact ⟨by rw [idx_none fun j y hy=>hb j y (by have:=(Qv hy).1;omega) hy],e⟩
theorem IndexFunc_Row_ret (w0:World) (v:Value) (l:List RowD) (g:FuncId) (caps:Array Value) (p:RowD→Bool) (hs:RowsOf w0 v l) (hg:Callable Pg g) (hc:Tests w0 (fun _ v x=>v = .agg (rowCells x).toArray) g caps p l) :
 Ret Pg 43 #[v,.func (.func g) #[] caps] w0 fun r w'=>r = .int .i64 (idx p l)∧Ext w0 w':=by
 obtain ⟨A,c,rfl,hlc,hcm,hlm,hel⟩:=SliceOf.open hs
 refine n130s (R:=retR _) ?_;unfold n130
 refine Qf ?_
 refine loop1_intro (fun i w=>∃ k:Nat,i = .int .i64 k∧k≤l.length∧Ext w0 w∧∀ (j:Nat) y,j < k→l[j]?=some y→p y=false) (fun i _=>l.length - (intOf i).toNat) ⟨0,rfl,by omega,Ext.refl _,fun j y h=>by omega⟩ ?_
 rintro i w ⟨k,rfl,hk,e,hb⟩
 by_cases hlt:k < l.length
 · obtain ⟨x,hx⟩:=getElem?_lt hlt
   obtain ⟨b,o,cs,rfl,hl,hA,hE⟩:=hel k x hx
   have hd:decide ((k:Int) < (l.length:Int))=true:=by simp;omega
   refine Qp hd ?_
   unfold n130c1
   refine Qf ?_
   obtain rfl:=hE
   have hV:(.agg (rowCells x).toArray:Value) = .agg (rowCells x).toArray:=rfl
   refine Qp (hA.c3 e) ?_
   rw [callV_func hg]
   simp only [Array.empty_append]
   refine callK_ret (hc w _ x (List.mem_of_getElem? hx) e (hV)) ?_
   rintro r w' ⟨rfl,e'⟩
   cases hp:p x with
   | true =>
    refine Qf ?_
    exact ⟨by rw [idx_here hx hp hb],e.trans e'⟩
   | false =>
    refine Qf ?_
    exact ⟨⟨k+1,rfl,by omega,e.trans e',before_succ hb hx hp⟩,by simp [intOf];omega⟩
 · have hd:decide ((k:Int) < (l.length:Int))=false:=by simp;omega
   refine Qp hd ?_
   exact ⟨by rw [idx_none fun j y hy=>hb j y (by have:=(Qv hy).1;omega) hy],e⟩
theorem IndexFunc_FRule_ret (w0:World) (v:Value) (l:List FrD) (g:FuncId) (caps:Array Value) (p:FrD→Bool) (hs:FrsOf w0 v l) (hg:Callable Pg g) (hc:Tests w0 FrVal g caps p l) :
 Ret Pg 114 #[v,.func (.func g) #[] caps] w0 fun r w'=>r = .int .i64 (idx p l)∧Ext w0 w':=by
 obtain ⟨A,c,rfl,hlc,hcm,hlm,hel⟩:=SliceOf.open hs
 refine n127s (R:=retR _) ?_;unfold n127
 refine Qf ?_
 refine loop1_intro (fun i w=>∃ k:Nat,i = .int .i64 k∧k≤l.length∧Ext w0 w∧∀ (j:Nat) y,j < k→l[j]?=some y→p y=false) (fun i _=>l.length - (intOf i).toNat) ⟨0,rfl,by omega,Ext.refl _,fun j y h=>by omega⟩ ?_
 rintro i w ⟨k,rfl,hk,e,hb⟩
 by_cases hlt:k < l.length
 · obtain ⟨x,hx⟩:=getElem?_lt hlt
   obtain ⟨b,o,cs,rfl,hl,hA,hE⟩:=hel k x hx
   have hd:decide ((k:Int) < (l.length:Int))=true:=by simp;omega
   refine Qp hd ?_
   unfold n127c1
   refine Qf ?_
   obtain ⟨bv,tv,rfl,hB,hT,o1,o2⟩:=hE.op
   have hV:FrVal w0 (.agg (frCells x bv tv).toArray) x:=⟨bv,tv,rfl,hB,hT⟩
   refine Qp (hA.c7 e) ?_
   rw [callV_func hg]
   simp only [Array.empty_append]
   refine callK_ret (hc w _ x (List.mem_of_getElem? hx) e (hV.ext e)) ?_
   rintro r w' ⟨rfl,e'⟩
   cases hp:p x with
   | true =>
    refine Qf ?_
    exact ⟨by rw [idx_here hx hp hb],e.trans e'⟩
   | false =>
    refine Qf ?_
    exact ⟨⟨k+1,rfl,by omega,e.trans e',before_succ hb hx hp⟩,by simp [intOf];omega⟩
 · have hd:decide ((k:Int) < (l.length:Int))=false:=by simp;omega
   refine Qp hd ?_
   exact ⟨by rw [idx_none fun j y hy=>hb j y (by have:=(Qv hy).1;omega) hy],e⟩
theorem ContainsFunc_FRule_ret (w0:World) (v:Value) (l:List FrD) (g:FuncId) (caps:Array Value) (p:FrD→Bool) (hs:FrsOf w0 v l) (hg:Callable Pg g) (hc:Tests w0 FrVal g caps p l) :
 Ret Pg 78 #[v,.func (.func g) #[] caps] w0 fun r w'=>r = .bool (l.any p)∧Ext w0 w':=by
 refine n118s (R:=retR _) ?_;unfold n118
 refine callK_ret (IndexFunc_FRule_ret _ _ l g caps p hs hg hc) ?_
 rintro r w' ⟨rfl,e⟩
 refine Qg ?_
 exact ⟨by rw [idx_neg],e⟩
theorem IndexFunc_string_ret (w0:World) (v:Value) (l:List ByteArray) (g:FuncId) (caps:Array Value) (p:ByteArray→Bool) (hs:StrsL w0 v l) (hg:Callable Pg g) (hc:Tests w0 (fun _ v x=>v = .string x) g caps p l) :
 Ret Pg 129 #[v,.func (.func g) #[] caps] w0 fun r w'=>r = .int .i64 (idx p l)∧Ext w0 w':=by
 obtain ⟨A,c,rfl,hlc,hcm,hlm,hel⟩:=SliceOf.open hs
 refine n133s (R:=retR _) ?_;unfold n133
 refine Qf ?_
 refine loop1_intro (fun i w=>∃ k:Nat,i = .int .i64 k∧k≤l.length∧Ext w0 w∧∀ (j:Nat) y,j < k→l[j]?=some y→p y=false) (fun i _=>l.length - (intOf i).toNat) ⟨0,rfl,by omega,Ext.refl _,fun j y h=>by omega⟩ ?_
 rintro i w ⟨k,rfl,hk,e,hb⟩
 by_cases hlt:k < l.length
 · obtain ⟨x,hx⟩:=getElem?_lt hlt
   obtain ⟨b,o,cs,rfl,hl,hA,hE⟩:=hel k x hx
   have hd:decide ((k:Int) < (l.length:Int))=true:=by simp;omega
   refine Qp hd ?_
   unfold n133c1
   refine Qf ?_
   obtain rfl:=hE
   have hV:(.string x:Value) = .string x:=rfl
   refine Qp (hA.c1 e) ?_
   rw [callV_func hg]
   simp only [Array.empty_append]
   refine callK_ret (hc w _ x (List.mem_of_getElem? hx) e (hV)) ?_
   rintro r w' ⟨rfl,e'⟩
   cases hp:p x with
   | true =>
    refine Qf ?_
    exact ⟨by rw [idx_here hx hp hb],e.trans e'⟩
   | false =>
    refine Qf ?_
    exact ⟨⟨k+1,rfl,by omega,e.trans e',before_succ hb hx hp⟩,by simp [intOf];omega⟩
 · have hd:decide ((k:Int) < (l.length:Int))=false:=by simp;omega
   refine Qp hd ?_
   exact ⟨by rw [idx_none fun j y hy=>hb j y (by have:=(Qv hy).1;omega) hy],e⟩
theorem ContainsFunc_string_ret (w0:World) (v:Value) (l:List ByteArray) (g:FuncId) (caps:Array Value) (p:ByteArray→Bool) (hs:StrsL w0 v l) (hg:Callable Pg g) (hc:Tests w0 (fun _ v x=>v = .string x) g caps p l) :
 Ret Pg 90 #[v,.func (.func g) #[] caps] w0 fun r w'=>r = .bool (l.any p)∧Ext w0 w':=by
 refine n121s (R:=retR _) ?_;unfold n121
 refine callK_ret (IndexFunc_string_ret _ _ l g caps p hs hg hc) ?_
 rintro r w' ⟨rfl,e⟩
 refine Qg ?_
 exact ⟨by rw [idx_neg],e⟩
theorem RuleS1_ret (w:World) (v:Value) (x:MrD) (hv:MrVal w v x) (q:Nat) (s:ByteArray) (hq:w.heap[q]?=some (.cells #[.string s] 9 (0,0))):Ret Pg 47 #[v,.pointer (some ⟨q,0,none⟩)] w fun r w'=>r = .bool (decide (x.fr=s))∧Ext w w':=by
 obtain ⟨fv,rfl,hF,o1⟩:=hv.op
 refine n16s (R:=retR _) ?_;unfold n16
 rw [op_boxA]
 have hBW:=ElemAt.new (w:=w) (mrCells x fv) (60)
 have eW:Ext w (w.alloc (Obj.cells (List.toArray (mrCells x fv)) (60))):=(Ext.refl _).alloc _
 generalize (w.alloc (Obj.cells (List.toArray (mrCells x fv)) (60)))=W at hBW eW ⊢
 have c:=cells_of_heap (eW.obj hq)
 refine QJ (hBW.c3 (Ext.refl W)) c.1 ?_
 exact ⟨by trivial,eW⟩
theorem oneS1_ret (w:World) (v:Value) (x y:FrD) (hv:FrVal w v x) (q:Nat) (bv tv:Value) (hq:w.heap[q]?=some (.cells (frCells y bv tv).toArray 43 (0,0))):Ret Pg 111 #[v,.pointer (some ⟨q,0,none⟩)] w fun r w'=>r = .bool (decide (x.to=y.to))∧Ext w w':=by
 obtain ⟨bx,tx,rfl,hB,hT,o1,o2⟩:=hv.op
 refine n27s (R:=retR _) ?_;unfold n27
 rw [op_boxA]
 have hBW:=ElemAt.new (w:=w) (frCells x bx tx) (43)
 have eW:Ext w (w.alloc (Obj.cells (List.toArray (frCells x bx tx)) (43))):=(Ext.refl _).alloc _
 generalize (w.alloc (Obj.cells (List.toArray (frCells x bx tx)) (43)))=W at hBW eW ⊢
 have c:=cells_of_heap (eW.obj hq)
 refine QJ (hBW.c7 (Ext.refl W)) c.1 ?_
 exact ⟨by trivial,eW⟩
theorem messagesS1_ret (w:World) (v:Value) (x:FrD) (f:FieldD) (hv:FrVal w v x) (q:Nat) (bv tv:Value) (hq:w.heap[q]?=some (.cells (fieldCells f bv tv).toArray 123 (0,0))):Ret Pg 79 #[v,.pointer (some ⟨q,0,none⟩)] w fun r w'=>r = .bool (decide (x.to=f.name))∧Ext w w':=by
 obtain ⟨bx,tx,rfl,hB,hT,o1,o2⟩:=hv.op
 refine n22s (R:=retR _) ?_;unfold n22
 rw [op_boxA]
 have hBW:=ElemAt.new (w:=w) (frCells x bx tx) (43)
 have eW:Ext w (w.alloc (Obj.cells (List.toArray (frCells x bx tx)) (43))):=(Ext.refl _).alloc _
 generalize (w.alloc (Obj.cells (List.toArray (frCells x bx tx)) (43)))=W at hBW eW ⊢
 have c:=cells_of_heap (eW.obj hq)
 refine QJ (hBW.c7 (Ext.refl W)) c.1 ?_
 exact ⟨by trivial,eW⟩
theorem seek {α:Type} (p:α→Bool) (l:List α):(l.find? p=none∧l.findIdx? p=none∧l.any p=false∧idx0 p l=0∧idx p l = -1)∨∃ (k:Nat) (x:α),l[k]?=some x∧l.find? p=some x∧l.findIdx? p=some k∧l.any p=true∧idx0 p l=k∧idx p l=k:=by
 cases h:l.findIdx? p with
 | none =>
  have hi:idx p l = -1:=by unfold idx;rw [h]
  have hn:=List.findIdx?_eq_none_iff.1 h
  exact .inl ⟨List.find?_eq_none.2 fun x hx=>by simp [hn x hx],rfl,List.any_eq_false.2 fun x hx=>by simp [hn x hx],by unfold idx0;rw [hi];rfl,hi⟩
 | some k =>
  have hi:idx p l=k:=by unfold idx;rw [h]
  obtain ⟨hk,h1,h2⟩:=List.findIdx?_eq_some_iff_getElem.1 h
  refine .inr ⟨k,l[k],List.getElem?_eq_getElem hk,?_,rfl,List.any_eq_true.2 ⟨_,List.getElem_mem hk,h1⟩,by unfold idx0;rw [hi,if_neg Qx],hi⟩
  exact List.find?_eq_some_iff_getElem.2 ⟨h1,k,hk,rfl,fun j hj=>by simpa using h2 j hj⟩
theorem Rule_ret (w0:World) (v:Value) (m:MapD) (s:ByteArray) (hm:MapVal w0 v m):Ret Pg 20 #[v,.string s] w0 fun r w'=>r = .tuple #[.int .i64 (((ruleP m s).getD 0:Nat):Int),.bool (ruleP m s).isSome]∧Ext w0 w':=by
 obtain ⟨rv,rfl,hR,o1⟩:=hm.op
 refine n15s (R:=retR _) ?_;unfold n15
 rw [op_boxA]
 have hBW:=ElemAt.new (w:=w0) (mapCells m rv) (24)
 have eW:Ext w0 (w0.alloc (Obj.cells (List.toArray (mapCells m rv)) (24))):=(Ext.refl _).alloc _
 generalize (w0.alloc (Obj.cells (List.toArray (mapCells m rv)) (24)))=W at hBW eW ⊢
 simp (disch:=try exact DI) only [↓PR,QR,simprocAttr,fun o=>hBW.c2 ((Ext.refl W).alloc o)]
 generalize hV:World.alloc W _=V
 have oV:V.heap[W.heap.size]?=some (.cells #[.string s] 9 (0,0)):=by rw [← hV];exact heap_new _ _ _
 have eV:Ext W V:=by rw [← hV];exact (Ext.refl W).alloc _
 clear hV
 refine callK_ret (IndexFunc_MRule_ret V _ m.rules _ _ (fun r=>decide (r.fr=s)) (hR.ext (eW.trans eV)) c47 fun w u x _ e hu=>RuleS1_ret w u x hu _ s (e.obj oV)) ?_
 rintro _ w' ⟨rfl,e⟩
 unfold n15c1 ruleP
 rcases seek (fun r:MrD=>decide (r.fr=s)) m.rules with ⟨_,h2,_,_,h5⟩ | ⟨k,x,_,_,h2,_,_,h5⟩
 · rw [h2,h5]
   refine Qf ?_
   exact ⟨by trivial,eW.trans (eV.trans e)⟩
 · rw [h2,h5]
   have hk:¬ (0:Int) > (k:Int):=Qx
   have hk2:decide ((0:Int)≤(k:Int))=true:=by simp
   refine QJ hk hk2 ?_
   exact ⟨by trivial,eW.trans (eV.trans e)⟩
def mEntry (a f c:Int):PanicEntry:={ v := .iface 82 (flawVal a f c),recovered:=false }
def mR (w:World) (b:Bool) (a f c:Int):Ending→World→Prop:=fun e w'=>Ext w w'∧(b=true∧e = .returned (.tuple #[])∨b=false∧e = .panicked [mEntry a f c])
theorem callK_m {f:FuncId} {args:Array Value} {QP:List PanicEntry→World→Prop} {w:World} {k:Value→World→Prop} {b:Bool} {a fl c:Int} (h:Calls Pg f args w (mR w b a fl c)) (hk:∀ w',Ext w w'→b=true→k (.tuple #[]) w') (hp:∀ w',Ext w w'→b=false→QP [mEntry a fl c] w'):callK Pg f args QP w k :=
 callK_calls h (fun v w' h=>by rcases h with ⟨e,⟨h1,h2⟩ | ⟨_,h2⟩⟩<;>cases h2;exact hk w' e h1) (fun ch w' h=>by rcases h with ⟨e,⟨_,h2⟩ | ⟨h1,h2⟩⟩<;>cases h2;exact hp w' e h1) (fun w' h=>by rcases h with ⟨_,⟨_,h2⟩ | ⟨_,h2⟩⟩<;>cases h2)
theorem mR_ret {w w':World} {b:Bool} {a f c:Int} (e:Ext w w') (h:b=true):mR w b a f c (.returned (.tuple #[])) w':=⟨e,.inl ⟨h,rfl⟩⟩
theorem mR_pan {w w':World} {b:Bool} {a f c c':Int} (e:Ext w w') (h:b=false) (hc:c=c'):panK (mR w b a f c) [mEntry a f c'] w':=⟨e,.inr ⟨h,by rw [hc]⟩⟩
structure CkM (a0 w:World) (cb:Nat) (m:MapD) (d e:DefD) (ru fi:Int):Prop where
 ext:Ext a0 w
 low:a0.heap.size≤cb
 obj:∃ rv dv ev,w.heap[cb]?=some (.cells #[.string m.name,rv,.string d.name,dv,.string d.start,.string e.name,ev,.string e.start,.int .i64 ru,.int .i64 fi] 81 (0,0))∧MrsOf a0 rv m.rules∧MsgsOf a0 dv d.msgs∧MsgsOf a0 ev e.msgs
section
variable {a0 w:World} {cb:Nat} {m:MapD} {d e:DefD} {ru fi:Int}
theorem CkM.go {w':World} (h:CkM a0 w cb m d e ru fi) (x:Ext w w'):CkM a0 w' cb m d e ru fi:=by
 obtain ⟨h1,h2,rv,dv,ev,h3,h4⟩:=h
 exact ⟨h1.trans x,h2,rv,dv,ev,x.obj h3,h4⟩
theorem CkM.setField (h:CkM a0 w cb m d e ru fi) (n:Int):CkM a0 (w.setCell ⟨cb,9,none⟩ (.int .i64 n)) cb m d e ru n:=by
 obtain ⟨h1,h2,rv,dv,ev,h3,h4⟩:=h
 refine ⟨h1.setCell h2 _,h2,rv,dv,ev,?_,h4⟩
 have:=heap_set (o:=9) h3 (.int .i64 n)
 simpa using this
theorem CkM.setRule (h:CkM a0 w cb m d e ru fi) (n:Int):CkM a0 (w.setCell ⟨cb,8,none⟩ (.int .i64 n)) cb m d e n fi:=by
 obtain ⟨h1,h2,rv,dv,ev,h3,h4⟩:=h
 refine ⟨h1.setCell h2 _,h2,rv,dv,ev,?_,h4⟩
 have:=heap_set (o:=8) h3 (.int .i64 n)
 simpa using this
theorem must_m (h:CkM a0 w cb m d e ru fi) (b:Bool) (c:Int):Calls Pg 33 #[.pointer (some ⟨cb,0,none⟩),.bool b,.int .i64 c] w (mR w b ru fi c):=by
 obtain ⟨_,_,rv,dv,ev,h1,_⟩:=h
 refine n24s ?_;unfold n24
 cases b with
 | true =>
  simp (disch:=try exact DI) only [↓PR,QR,simprocAttr,↓n24c1]
  exact mR_ret (Ext.refl _) rfl
 | false =>
  simp (disch:=try exact DI) only [↓PR,QR,simprocAttr,↓n24c1]
  refine drawK_intro ?_
  simp (disch:=try exact DI) only [↓PR,QR,simprocAttr,↓n24c1,(cells_of_heap h1).1]
  rw [op_panic]
  exact mR_pan (Ext.refl _).drew rfl rfl
def zeroM:MsgD:=⟨ByteArray.empty,[]⟩
theorem message_ret (b0 w0:World) (e0:Ext b0 w0) (v:Value) (d:DefD) (s:ByteArray) (hd:DefVal b0 v d):Ret Pg 76 #[v,.string s] w0 fun r w'=>(∃ u,r = .tuple #[u,.bool (msgP d s).isSome]∧MsgVal b0 u ((msgP d s).getD zeroM))∧Ext w0 w':=by
 obtain ⟨mv,rfl,hM⟩:=hd
 have hM0:=hM
 refine n33s (R:=retR _) ?_;unfold n33
 rw [op_boxA]
 have hBW:=ElemAt.new (w:=w0) (defCells d mv) (27)
 have eW:Ext w0 (w0.alloc (Obj.cells (List.toArray (defCells d mv)) (27))):=(Ext.refl _).alloc _
 generalize (w0.alloc (Obj.cells (List.toArray (defCells d mv)) (27)))=W at hBW eW ⊢
 have sW:=eW.size
 simp (disch:=try exact DI) only [↓PR,QR,simprocAttr,fun o=>hBW.c3 ((Ext.refl W).alloc o)]
 generalize hV:World.alloc W _=V
 have oV:=heap_new W #[.string Qy,.slice none 0 0] 74
 rw [hV] at oV
 have eV:Ext W V:=by rw [← hV];exact (Ext.refl W).alloc _
 clear hV
 refine zcr (Find_ret V _ d s ⟨_,rfl,hM.ext (e0.trans (eW.trans eV))⟩) fun w1 e1=>?_
 have E1:=(eW.trans eV).trans e1
 have o1:=e1.obj oV
 unfold n33c3
 rcases seek (fun x:MsgD=>decide (x.name=s)) d.msgs with ⟨h1,_,h3,h4,_⟩ | ⟨k,x,hx,h1,_,h3,h4,_⟩
 · have hp:msgP d s=none:=h1
   rw [h3,h4,hp]
   simp (disch:=try exact DI) only [↓PR,QR,simprocAttr,n33c1,(cells_of_heap o1).1,(cells_of_heap o1).2]
   exact ⟨⟨_,rfl,_,rfl,SliceOf.nil _ _ _⟩,(E1.setCell sW _).setCell sW _⟩
 · have hp:msgP d s=some x:=h1
   obtain ⟨b,o,c,rfl,_,_,_,hkl,hel⟩:=open1 hM hx
   obtain ⟨cs,_,hA,fv,rfl,hF⟩:=hel k x hx
   have f1:=SliceOf.oneCell hF
   rw [h3,h4,hp]
   simp (disch:=try exact DI) only [↓PR,QR,simprocAttr,n33c2,hBW.c3 (eV.trans e1),hA.c2 (e0.trans E1),(cells_of_heap o1).1,(cells_of_heap o1).2]
   exact ⟨⟨_,rfl,_,rfl,hF⟩,(E1.setCell sW _).setCell sW _⟩
def zeroF:FieldD:=⟨ByteArray.empty,0,0,false,false,0,0,0,[],ByteArray.empty,ByteArray.empty,ByteArray.empty,[],0,0⟩
theorem storeF {w:World} {b:Nat} {cs:Array Value} (ho:w.heap[b]?=some (.cells cs 123 (0,0))) (hc:cs.size=15) (f:FieldD) (tv cv:Value) (t1:tv.oneCell'=true) (c1:cv.oneCell'=true) {QP:List PanicEntry→World→Prop} {ku:World→Prop}
 (h:∀ w',w'.heap[b]?=some (.cells (fieldCells f tv cv).toArray 123 (0,0))→(∀ a,Ext a w→a.heap.size≤b→Ext a w')→ku w'):opU Pg (Instr.storeAt 123 (.pointer (some ⟨b,0,none⟩)) (.agg (fieldCells f tv cv).toArray)) QP w ku:=by
 rw [op_storeO ty123 ho (vs:=fieldCells f tv cv) rfl Qx (by intro v hv;simp only [List.mem_cons,List.not_mem_nil,or_false] at hv;rcases hv with rfl | rfl | rfl | rfl | rfl | rfl | rfl | rfl | rfl | rfl | rfl | rfl | rfl | rfl | rfl<;>first | rfl | assumption)]
 refine h _ ?_ fun a e hb=>setCells_ext _ _ _ _ e hb
 rw [setCells_heap _ 0 ho,setA_all (by rw [hc];rfl)]
theorem field_ret (w0:World) (v:Value) (d:MsgD) (s:ByteArray) (hd:MsgVal w0 v d):Ret Pg 110 #[v,.string s] w0 fun r w'=>(∃ u,r = .tuple #[u,.int .i64 (clsO (fieldP d s))]∧FieldVal w' u ((fieldP d s).getD zeroF))∧Ext w0 w':=by
 obtain ⟨mv,rfl,hM⟩:=hd
 have hM0:=hM
 refine n31s (R:=retR _) ?_;unfold n31
 rw [op_boxA]
 have hBW:=ElemAt.new (w:=w0) (msgCells d mv) (74)
 have eW:Ext w0 (w0.alloc (Obj.cells (List.toArray (msgCells d mv)) (74))):=(Ext.refl _).alloc _
 generalize (w0.alloc (Obj.cells (List.toArray (msgCells d mv)) (74)))=W at hBW eW ⊢
 have sW:=eW.size
 simp (disch:=try exact DI) only [↓PR,QR,simprocAttr,fun o=>hBW.c2 ((Ext.refl W).alloc o)]
 generalize hV:World.alloc W _=V
 have oV:=heap_new W #[.string Qy,.int .i64 0,.int .i64 0,.bool false,.bool false,.int .i64 0,.int .i64 0,.int .i64 0,.slice none 0 0,.string Qy,.string Qy,.string Qy,.slice none 0 0,.int .i64 0,.int .i64 0] 123
 rw [hV] at oV
 have eV:Ext W V:=by rw [← hV];exact (Ext.refl W).alloc _
 clear hV
 refine zcr (Field_ret V _ d s ⟨_,rfl,hM.ext (eW.trans eV)⟩) fun w1 e1=>?_
 have E1:=(eW.trans eV).trans e1
 have o1:=e1.obj oV
 unfold n31c3
 rcases seek (fun x:FieldD=>decide (x.name=s)) d.fields with ⟨h1,_,h3,h4,_⟩ | ⟨k,x,hx,h1,_,h3,h4,_⟩
 · have hp:fieldP d s=none:=h1
   rw [h3,h4,hp]
   unfold n31c2
   refine Qf ?_
   refine storeF o1 rfl zeroF (.slice none 0 0) (.slice none 0 0) rfl rfl fun w2 o2 hx=>?_
   have E2:=hx _ E1 sW
   refine Qp (cells_of_heap o2).1 ?_
   exact ⟨⟨_,rfl,_,_,rfl,SliceOf.nil _ _ _,SliceOf.nil _ _ _⟩,E2⟩
 · have hp:fieldP d s=some x:=h1
   obtain ⟨b,o,c,rfl,_,_,_,hkl,hel⟩:=open1 hM hx
   obtain ⟨cs,_,hA,hE⟩:=hel k x hx
   obtain ⟨tv,cv,rfl,hT,hC,t1,c1⟩:=hE.op
   rw [h3,h4,hp]
   refine Qf ?_
   refine drawK_intro ?_
   simp (disch:=try exact DI) only [↓PR,QR,simprocAttr,n31c1,hBW.c2 (eV.trans e1),hA.c15 E1]
   refine zcr (classOf_ret _ _ x ⟨_,_,rfl,hT.ext E1.drew,hC.ext E1.drew⟩) fun w2 e2=>?_
   refine ⟨e2,?_⟩
   have E2:=E1.drew.trans e2
   refine storeF (((Ext.refl w1).drew.trans e2).obj o1) rfl x tv cv t1 c1 fun w3 o3 hx=>?_
   have E3:=hx _ E2 sW
   refine turnK_intro ?_
   refine Qp (cells_of_heap o3).1 ?_
   exact ⟨⟨_,rfl,_,_,rfl,hT.ext E3,hC.ext E3⟩,E3⟩
end
def stepD (deps:List (ByteArray×Int)) (m:MsgD):List (ByteArray×Int):=deps++[(m.name,depthM deps m+1)]
def stepS (strs:List (ByteArray×Bool)) (m:MsgD):List (ByteArray×Bool):=strs++[(m.name,strictM strs m)]
def depsOf (l:List MsgD):List (ByteArray×Int):=l.foldl stepD []
def strsOf (l:List MsgD):List (ByteArray×Bool):=l.foldl stepS []
def msgsP (deps:List (ByteArray×Int)) (strs:List (ByteArray×Bool)) (at_:Nat):List MsgD→Int×Int×Int
 | []=>(0,0,0)
 | m::l=>if (nextP deps strs m).2=0 then msgsP (stepD deps m) (stepS strs m) (at_+1) l else (at_,nextP deps strs m)
def endP (d:DefD) (r:Int×Int×Int):Int×Int×Int:=if r.2.2=0 then (if (lastP (depsOf d.msgs) d.start).isSome then (0,0,0) else (-1,-1,11)) else r
def checkP (d:DefD):Int×Int×Int :=
 if nameB d.name then (if 1≤d.msgs.length∧d.msgs.length≤60 then endP d (msgsP [] [] 0 d.msgs) else (-1,-1,3)) else (-1,-1,1)
theorem tailP_low {deps:List (ByteArray×Int)} {m:MsgD} {r:Int×Int} (h:(tailP deps m r).2=0):depthM deps m < 16:=by
 unfold tailP at h
 split at h
 · split at h
   · assumption
   · exact absurd h Qj
 · contradiction
theorem nextP_low {deps:List (ByteArray×Int)} {strs:List (ByteArray×Bool)} {m:MsgD} (h:(nextP deps strs m).2=0):depthM deps m < 16:=by
 unfold nextP at h
 split at h
 · split at h
   · exact absurd h Qj
   · split at h
     · exact tailP_low h
     · exact absurd h Qj
 · exact absurd h Qj
theorem Low.step {deps:List (ByteArray×Int)} {strs:List (ByteArray×Bool)} {m:MsgD} (hl:Low deps) (h:(nextP deps strs m).2=0):Low (stepD deps m):=by
 intro p hp
 rcases List.mem_append.1 hp with hp | hp
 · exact hl p hp
 · simp only [List.mem_singleton] at hp
   subst hp
   have h1:=nextP_low h
   have h2:=(foldl_maxI (fun s=>(lastP deps s).getD 0) (refsM m) 0 Qj (fun s _=>hl.get s) Qj).1
   exact ⟨by show 0≤depthM deps m+1;unfold depthM;omega,by show depthM deps m+1≤16;omega⟩
abbrev catchD (p3 p4:Nat):Deferred:={ target := .fn (.func 134) #[.pointer (some ⟨p3,0,none⟩),.pointer (some ⟨p4,0,none⟩)],args := #[] }
theorem catch_ret {p3 p4:Nat} {w:World} {k:FrameMode→World→Prop} (h:k .returning w):outM Pg [catchD p3 p4] .returning w k:=by
 refine ⟨by simp,.inr ⟨.func 134,_,134,#[.pointer (some ⟨p3,0,none⟩),.pointer (some ⟨p4,0,none⟩)],rfl,?_,?_⟩⟩
 · exact callFunc_run c134 _ w
 · refine n67s ?_
   unfold n67
   show opV _ (binS .neq _ true .nilIface .nilIface) _ _ _
   rw [op_neqNil_none Tryz.underlying20]
   refine Qf ?_
   exact h
theorem catch_pan {p3 p4:Nat} {w:World} {k:FrameMode→World→Prop} {a f c:Int} {x0 x1 x2 y:Value} (o3:w.heap[p3]?=some (.cells #[x0,x1,x2] 131 (0,0))) (o4:w.heap[p4]?=some (.cells #[y] 4 (0,0)))
 (h:k .returning ((((w.setCell ⟨p3,0,none⟩ (.int .i64 a)).setCell ⟨p3,1,none⟩ (.int .i64 f)).setCell ⟨p3,2,none⟩ (.int .i64 c)).setCell ⟨p4,0,none⟩ (.bool true))):outM Pg [catchD p3 p4] (.panicking [flawEntry a f c]) w k:=by
 have hne:p3≠p4:=by rintro rfl;rw [o3] at o4;cases o4
 refine ⟨by simp,.inr ⟨.func 134,_,134,#[.pointer (some ⟨p3,0,none⟩),.pointer (some ⟨p4,0,none⟩)],rfl,?_,?_⟩⟩
 · exact callFunc_run c134 _ w
 · refine n67s ?_
   rw [show recM (.panicking [flawEntry a f c])=(.iface 131 (flawVal a f c),.panicking [{ v := .iface 131 (flawVal a f c),recovered:=true }]) from rfl]
   unfold n67
   rw [op_neqNil_some Tryz.underlying20]
   refine Qf ?_
   unfold n67c1
   rw [op_assert_ok Tryz.underlying131 rfl]
   refine QX (cells_of_heap o3).1 (cells_of_heap o3).2 (cells_of_heap o4).1 (cells_of_heap o4).2 ?_
   exact h
section
variable {w0:World}
def CkE (w:World) (cb:Nat) (deps:List (ByteArray×Int)) (strs:List (ByteArray×Bool)):Prop:=∃ md ms dn mv ds at_ fld mn fv,w.heap[cb]?=some (.cells #[.string dn,mv,.string ds,.map (some md),.map (some ms),.int .i64 at_,.int .i64 fld,.string mn,fv] 201 (0,0))∧MapOf w md (vI deps)∧MapOf w ms (vB strs)
theorem CkE.other {w:World} {cb b o:Nat} {deps:List (ByteArray×Int)} {strs:List (ByteArray×Bool)} (h:CkE w cb deps strs) (hn:b≠cb) (v:Value):CkE (w.setCell ⟨b,o,none⟩ v) cb deps strs:=by
 obtain ⟨md,ms,dn,mv,ds,at_,fld,mn,fv,h1,h2,h3⟩:=h
 exact ⟨md,ms,dn,mv,ds,at_,fld,mn,fv,(Only.setCell w b o v cb (fun e=>hn e.symm)).trans h1,h2.setCell _ _,h3.setCell _ _⟩
theorem CkO.left {a0 w:World} {cb md ms:Nat} {deps:List (ByteArray×Int)} {strs:List (ByteArray×Bool)} {at_ fld:Int} {fs:List FieldD} (h:CkO a0 w cb md ms deps strs at_ fld fs):CkE w cb deps strs:=by
 obtain ⟨dn,mv,ds,mn,fv,h1,_⟩:=h.obj
 exact ⟨md,ms,dn,mv,ds,at_,fld,mn,fv,h1,h.mdeps,h.mstrs⟩
def examK (w0:World) (d:DefD) (r:Value) (w':World):Prop:=Ext w0 w'∧∃ cb,r = .tuple #[.pointer (some ⟨cb,0,none⟩),flawVal (checkP d).1 (checkP d).2.1 (checkP d).2.2,.bool (decide ((checkP d).2.2≠0))] ∧
 ((checkP d).2.2=0→CkE w' cb (depsOf d.msgs) (strsOf d.msgs))
abbrev resL (cb p3 p4:Nat):List (Option TypeId×Value):=[(none,.pointer (some ⟨cb,0,none⟩)),(some 131,.pointer (some ⟨p3,0,none⟩)),(some 4,.pointer (some ⟨p4,0,none⟩))]
theorem exm_pan {w:World} {d:DefD} {cb p3 p4:Nat} {a f c:Int} {x0 x1 x2 y:Value} (e:Ext w0 w) (h3:w0.heap.size≤p3) (h4:w0.heap.size≤p4) (o3:w.heap[p3]?=some (.cells #[x0,x1,x2] 131 (0,0))) (o4:w.heap[p4]?=some (.cells #[y] 4 (0,0)))
 (h:checkP d=(a,f,c)) (hc:c≠0):outQ Pg [catchD p3 p4] (resL cb p3 p4) (retR (examK w0 d)) [flawEntry a f c] w:=by
 have hne:p3≠p4:=by rintro rfl;rw [o3] at o4;cases o4
 unfold outQ
 refine catch_pan o3 o4 ?_
 have q3:=heap_set (o:=2) (heap_set (o:=1) (heap_set (o:=0) o3 (.int .i64 a)) (.int .i64 f)) (.int .i64 c)
 have e1:Ext w0 ((((w.setCell ⟨p3,0,none⟩ (.int .i64 a)).setCell ⟨p3,1,none⟩ (.int .i64 f)).setCell ⟨p3,2,none⟩ (.int .i64 c)).setCell ⟨p4,0,none⟩ (.bool true)):=(((e.setCell h3 _).setCell h3 _).setCell h3 _).setCell h4 _
 have q4:=heap_set (o:=0) ((Only.setCell ((w.setCell ⟨p3,0,none⟩ (.int .i64 a)).setCell ⟨p3,1,none⟩ (.int .i64 f)) p3 2 (.int .i64 c) p4 Qx).trans ((Only.setCell (w.setCell ⟨p3,0,none⟩ (.int .i64 a)) p3 1 (.int .i64 f) p4 Qx).trans ((Only.setCell w p3 0 (.int .i64 a) p4 Qx).trans o4))) (.bool true)
 have q3':=(Only.setCell _ p4 0 (.bool true) p3 hne).trans q3
 simp only [List.setIfInBounds_toArray,List.set_cons_zero,List.set_cons_succ] at q3' q4
 generalize ((((w.setCell ⟨p3,0,none⟩ (.int .i64 a)).setCell ⟨p3,1,none⟩ (.int .i64 f)).setCell ⟨p3,2,none⟩ (.int .i64 c)).setCell ⟨p4,0,none⟩ (.bool true))=W at e1 q3' q4 ⊢
 unfold endM retV resOne resL
 simp only
 refine QJ (cells_of_heap q3').1 (cells_of_heap q4).1 ?_
 refine ⟨e1,cb,?_,fun h0=>?_⟩
 · rw [h];simp [hc]
 · rw [h] at h0;exact absurd h0 hc
theorem exm_fine {w:World} {d:DefD} {cb p3 p4:Nat} (e:Ext w0 w) (hC:CkE w cb (depsOf d.msgs) (strsOf d.msgs)) (o3:w.heap[p3]?=some (.cells #[.int .i64 0,.int .i64 0,.int .i64 0] 131 (0,0))) (o4:w.heap[p4]?=some (.cells #[.bool false] 4 (0,0)))
 (h:checkP d=(0,0,0)):outX Pg [catchD p3 p4] (resL cb p3 p4) (retR (examK w0 d)) w:=by
 unfold outX
 refine catch_ret ?_
 unfold endM retV resOne resL
 simp only
 refine QJ (cells_of_heap o3).1 (cells_of_heap o4).1 ?_
 refine ⟨e,cb,?_,fun h0=>hC⟩
 rw [h];simp
theorem callK_nxt {f:FuncId} {args:Array Value} {QP:List PanicEntry→World→Prop} {a0 w:World} {k:Value→World→Prop} {at_:Int} {r:Int×Int} {K:World→Prop} (h:Calls Pg f args w (nxtR a0 at_ r K)) (hk:∀ w',r.2=0→K w'→k (.tuple #[]) w') (hp:∀ w',Ext a0 w'→r.2≠0→QP [flawEntry at_ r.1 r.2] w'):callK Pg f args QP w k :=
 callK_calls h (fun v w' h=>by rcases h with ⟨e,⟨h1,h2,h3⟩ | ⟨_,h2⟩⟩<;>cases h2;exact hk w' h1 h3) (fun ch w' h=>by rcases h with ⟨e,⟨_,h2,_⟩ | ⟨h1,h2⟩⟩<;>cases h2;exact hp w' e h1) (fun w' h=>by rcases h with ⟨_,⟨_,h2,_⟩ | ⟨_,h2⟩⟩<;>cases h2)
theorem foldl_take {α β:Type} (g:β→α→β) {l:List α} {k:Nat} {x:α} (b:β) (hx:l[k]?=some x):(l.take (k+1)).foldl g b=g ((l.take k).foldl g b) x:=by rw [take_snoc hx,List.foldl_append];rfl
theorem exm_loop {A0 w:World} {d:DefD} {cb p1 p3 p4 md ms:Nat} {fs:List FieldD} {mv:Value} (ea:Ext w0 A0) (hM:MsgsOf A0 mv d.msgs) (hC:CkO A0 w cb md ms [] [] (-1) (-1) fs) (o1:A0.heap[p1]?=some (.cells (defCells d mv).toArray 27 (0,0)))
 (o3:A0.heap[p3]?=some (.cells #[.int .i64 0,.int .i64 0,.int .i64 0] 131 (0,0))) (o4:A0.heap[p4]?=some (.cells #[.bool false] 4 (0,0))) (h3:w0.heap.size≤p3) (h4:w0.heap.size≤p4) (hr:checkP d=endP d (msgsP [] [] 0 d.msgs)) :
 n66c6 (.pointer (some ⟨p1,0,none⟩)) (.pointer (some ⟨p3,0,none⟩)) (.pointer (some ⟨p4,0,none⟩)) (.pointer (some ⟨cb,0,none⟩)) [catchD p3 p4] (retR (examK w0 d)) w:=by
 have pan:∀ w' a f c,Ext A0 w'→checkP d=(a,f,c)→c≠0→outQ Pg [catchD p3 p4] (resL cb p3 p4) (retR (examK w0 d)) [flawEntry a f c] w':=fun w' a f c e h h0=>exm_pan (ea.trans e) h3 h4 (e.obj o3) (e.obj o4) h h0
 obtain ⟨A,c,rfl,hlc,hcm,hlm,hel⟩:=SliceOf.open hM
 unfold n66c6
 refine Qp (cells_of_heap (hC.ext.obj o1)).1 ?_
 refine loop1_intro (fun i w'=>∃ (k:Nat) (at':Int) (fs':List FieldD),i = .int .i64 k∧k≤d.msgs.length∧CkO A0 w' cb md ms (depsOf (d.msgs.take k)) (strsOf (d.msgs.take k)) at' (-1) fs'∧Low (depsOf (d.msgs.take k))∧checkP d=endP d (msgsP (depsOf (d.msgs.take k)) (strsOf (d.msgs.take k)) k (d.msgs.drop k))) (fun i _=>d.msgs.length - (intOf i).toNat) ⟨0,-1,fs,rfl,by omega,hC,(fun _ h=>by cases h),hr⟩ ?_
 rintro i w' ⟨k,at',fs',rfl,hk,hC',hlow,hrk⟩
 have lw':=hC'.ext.size
 obtain ⟨dn,mv,ds,mn,fv',x1,x2⟩:=hC'.obj
 obtain ⟨n1,n2,l1,l2,l3⟩:=hC'.nd
 rcases drop_cases hk with ⟨x,hx,hd,hlt,hdec⟩ | ⟨hk,hd,hdec⟩
 · obtain ⟨b,o,cs,rfl,hl,hA,fv,rfl,hF⟩:=hel k x hx
   have hf1:=SliceOf.oneCell hF
   rw [hd] at hrk
   simp only [msgsP] at hrk
   unfold n66c5
   refine Qp hdec ?_
   unfold n66c4
   refine QX (hA.c2 hC'.ext).1 (hA.c2 hC'.ext).2 (cells_of_heap x1).1 (cells_of_heap x1).2 ?_
   have hCw:=(hC'.setAt (k:Int)).go ((Ext.refl _).alloc (Obj.cells (msgCells x fv).toArray 74))
   refine callK_nxt (next_flw (m:=x) hlow hCw _ ⟨fv,rfl,hF⟩ (fun w'=>CkO A0 w' cb md ms (stepD (depsOf (d.msgs.take k)) x) (stepS (strsOf (d.msgs.take k)) x) k (-1) x.fields) (fun w' h=>h)) (fun w5 h0 hC5=>?_) (fun w5 e5 h0=>?_)
   · rw [if_pos h0] at hrk
     have hd1:depsOf (d.msgs.take (k+1))=stepD (depsOf (d.msgs.take k)) x:=foldl_take stepD [] hx
     have hs1:strsOf (d.msgs.take (k+1))=stepS (strsOf (d.msgs.take k)) x:=foldl_take stepS [] hx
     rw [← hd1,← hs1] at hrk hC5
     have hlow':Low (depsOf (d.msgs.take (k+1))):=by rw [hd1];exact hlow.step h0
     refine Qf ?_
     exact ⟨⟨k+1,k,x.fields,rfl,by omega,hC5,hlow',hrk⟩,meas_lt (kd := .i64) hlt⟩
   · rw [if_neg h0] at hrk
     refine pan _ _ _ _ e5 ?_ h0
     rw [hrk]
     unfold endP
     rw [if_neg h0]
 · subst hk
   rw [hd] at hrk
   rw [List.take_length] at hC' hrk
   unfold n66c5
   refine Qp hdec ?_
   unfold n66c3
   refine QJ (cells_of_heap x1).1 (cells_of_heap x1).2 ?_
   have hC2:=hC'.setAt (-1)
   generalize (w'.setCell ⟨cb,5,none⟩ (.int .i64 (-1)))=W at hC2 ⊢
   clear x1 x2 hC'
   obtain ⟨dn,mv,ds,mn,fv',x1,x2⟩:=hC2.obj
   refine drawK_intro ?_
   have eD:Ext W W.drew:=(Ext.refl W).wdrew
   unfold n66c2
   refine QJ (cells_of_heap x1).1 (cells_of_heap (hC2.ext.obj o1)).1 ?_
   rw [qV_lookupE Tryz.underlying198 Tryz.underlying9 ty3 (hC2.mdeps.ext eD) d.start]
   have hsome:(lastOf (vI (depsOf d.msgs)) d.start).isSome=(lastP (depsOf d.msgs) d.start).isSome:=by rw [lastOf_vI,Option.isSome_map]
   rw [hsome]
   simp only [msgsP,endP,if_true] at hrk
   refine Qf ?_
   refine callK_flw (need_flw (hC2.go eD).chk _ 11 Qj) (fun w5 e5 h0=>?_) (fun w5 e5 h0=>?_)
   · have hs:=needC_zero Qj h0
     rw [hs,if_pos rfl] at hrk
     have hC5:=hC2.go (eD.trans e5)
     have y3:=hC5.ext.obj o3
     have y4:=hC5.ext.obj o4
     have ne34:p3≠p4:=by rintro rfl;rw [o3] at o4;cases o4
     unfold n66c1
     refine QX (cells_of_heap y3).1 (cells_of_heap y3).2 (cells_of_heap y4).1 (cells_of_heap y4).2 ?_
     have c3:p3≠cb:=by have:=hC5.lcb;have:=(Qk o3).1;omega
     have c4:p4≠cb:=by have:=hC5.lcb;have:=(Qk o4).1;omega
     have q3:=heap_set (o:=2) (heap_set (o:=1) (heap_set (o:=0) y3 (.int .i64 0)) (.int .i64 0)) (.int .i64 0)
     have q4:=heap_set (o:=0) ((Only.setCell ((w5.setCell ⟨p3,0,none⟩ (.int .i64 0)).setCell ⟨p3,1,none⟩ (.int .i64 0)) p3 2 (.int .i64 0) p4 Qx).trans ((Only.setCell (w5.setCell ⟨p3,0,none⟩ (.int .i64 0)) p3 1 (.int .i64 0) p4 Qx).trans ((Only.setCell w5 p3 0 (.int .i64 0) p4 Qx).trans y4))) (.bool false)
     have q3':=(Only.setCell _ p4 0 (.bool false) p3 ne34).trans q3
     exact exm_fine (((((ea.trans hC5.ext).setCell h3 _).setCell h3 _).setCell h3 _).setCell h4 _) ((((hC5.left.other c3 _).other c3 _).other c3 _).other c4 _) (by simpa using q3') (by simpa using q4) hrk
   · have hs:(lastP (depsOf d.msgs) d.start).isSome=false:=by
      cases hq:(lastP (depsOf d.msgs) d.start).isSome with
      | false=>rfl
      | true=>rw [hq] at h0;exact absurd rfl h0
     rw [hs,if_neg (by simp)] at hrk
     rw [hs]
     exact pan _ _ _ _ (hC2.ext.trans (eD.trans e5)) hrk Qj
theorem examined_all (v:Value) (d:DefD) (hd:DefVal w0 v d):Ret Pg 106 #[v] w0 (examK w0 d):=by
 obtain ⟨mv,rfl,hM⟩:=hd
 have hm1:=SliceOf.oneCell hM
 refine n66s (R:=retR _) ?_;unfold n66
 refine Qf ?_
 refine ⟨catchD (w0.heap.size+1) (w0.heap.size+1+1),_,rfl,?_⟩
 simp only [World.size_alloc]
 generalize hA0:((w0.alloc (Obj.cells (defCells d mv).toArray 27)).alloc (Obj.cells #[.int .i64 0,.int .i64 0,.int .i64 0] 131)).alloc (Obj.cells #[.bool false] 4)=A0
 have ea:Ext w0 A0:=by rw [← hA0];exact ee
 have o1:A0.heap[w0.heap.size]?=some (.cells (defCells d mv).toArray 27 (0,0)):=by rw [← hA0];exact Qb
 have o3:A0.heap[w0.heap.size+1]?=some (.cells #[.int .i64 0,.int .i64 0,.int .i64 0] 131 (0,0)):=by rw [← hA0];exact Qb
 have o4:A0.heap[w0.heap.size+1+1]?=some (.cells #[.bool false] 4 (0,0)):=by rw [← hA0];exact Qb
 have hsz:A0.heap.size=w0.heap.size+1+1+1:=by rw [← hA0];simp only [World.size_alloc]
 clear hA0
 have hC:CkO A0 (((A0.alloc (Obj.map #[] 0)).alloc (Obj.map #[] 0)).alloc (Obj.cells #[.string d.name,mv,.string d.start,.map (some (w0.heap.size+1+1+1)),.map (some (w0.heap.size+1+1+1+1)),.int .i64 (-1),.int .i64 (-1),.string Qy,.slice none 0 0] 201)) (w0.heap.size+1+1+1+1+1) (w0.heap.size+1+1+1) (w0.heap.size+1+1+1+1) [] [] (-1) (-1) []:=by
  refine ⟨ee,⟨d.name,mv,d.start,ByteArray.empty,.slice none 0 0,?_,SliceOf.nil _ _ _⟩,?_,?_,by omega,by omega,by omega,by omega⟩
  · have:=heap_new ((A0.alloc (Obj.map #[] 0)).alloc (Obj.map #[] 0)) #[.string d.name,mv,.string d.start,.map (some (w0.heap.size+1+1+1)),.map (some (w0.heap.size+1+1+1+1)),.int .i64 (-1),.int .i64 (-1),.string Qy,.slice none 0 0] 201
    simp only [World.size_alloc,hsz] at this
    exact this
  · have:=(MapOf.new A0).ext (((Ext.refl _).alloc (Obj.map #[] 0)).alloc (Obj.cells #[.string d.name,mv,.string d.start,.map (some (w0.heap.size+1+1+1)),.map (some (w0.heap.size+1+1+1+1)),.int .i64 (-1),.int .i64 (-1),.string Qy,.slice none 0 0] 201))
    simp only [World.size_alloc,hsz] at this
    exact this
  · have:=(MapOf.new (A0.alloc (Obj.map #[] 0))).ext ((Ext.refl _).alloc (Obj.cells #[.string d.name,mv,.string d.start,.map (some (w0.heap.size+1+1+1)),.map (some (w0.heap.size+1+1+1+1)),.int .i64 (-1),.int .i64 (-1),.string Qy,.slice none 0 0] 201))
    simp only [World.size_alloc,hsz] at this
    exact this
 generalize (((A0.alloc (Obj.map #[] 0)).alloc (Obj.map #[] 0)).alloc (Obj.cells #[.string d.name,mv,.string d.start,.map (some (w0.heap.size+1+1+1)),.map (some (w0.heap.size+1+1+1+1)),.int .i64 (-1),.int .i64 (-1),.string Qy,.slice none 0 0] 201))=W at hC ⊢
 generalize hcb:w0.heap.size+1+1+1+1+1=cb at hC ⊢
 generalize hmd:w0.heap.size+1+1+1=md at hC hsz
 generalize hms:w0.heap.size+1+1+1+1=ms at hC
 generalize hp3:w0.heap.size+1+1=p4 at o4 ⊢
 generalize hp4:w0.heap.size+1=p3 at o3 ⊢
 have l3:w0.heap.size≤p3:=Qx
 have l4:w0.heap.size≤p4:=Qx
 refine Qp (cells_of_heap (hC.ext.obj o1)).1 ?_
 refine zcr (Name_ret _ d.name) fun w1 e1=>?_
 have hC1:=hC.go e1
 have pan:∀ w' a f c,Ext A0 w'→checkP d=(a,f,c)→c≠0→outQ Pg [catchD p3 p4] (resL cb p3 p4) (retR (examK w0 d)) [flawEntry a f c] w':=fun w' a f c e h h0=>exm_pan (ea.trans e) l3 l4 (e.obj o3) (e.obj o4) h h0
 generalize hr:checkP d=r
 have hr':=hr
 unfold checkP at hr
 refine callK_flw (need_flw hC1.chk _ 1 Qj) (fun w2 e2 h0=>?_) (fun w2 e2 h0=>?_)
 · have hn:nameB d.name=true:=needC_zero Qj h0
   rw [if_pos hn] at hr
   have hC2:=hC1.go e2
   have fin:∀ b,b=decide (1≤d.msgs.length∧d.msgs.length≤60)→callK Pg 135 #[.pointer (some ⟨cb,0,none⟩),.bool b,.int .i64 3] (outQ Pg [catchD p3 p4] (resL cb p3 p4) (retR (examK w0 d))) w2 (fun _ w=>n66c6 (.pointer (some ⟨w0.heap.size,0,none⟩)) (.pointer (some ⟨p3,0,none⟩)) (.pointer (some ⟨p4,0,none⟩)) (.pointer (some ⟨cb,0,none⟩)) [catchD p3 p4] (retR (examK w0 d)) w):=by
    rintro b rfl
    refine callK_flw (need_flw hC2.chk _ 3 Qj) (fun w3 e3 h0=>?_) (fun w3 e3 h0=>?_)
    · have hl:=needC_zero Qj h0
      simp only [decide_eq_true_eq] at hl
      rw [if_pos hl] at hr
      exact exm_loop ea (hM.ext ea) (hC2.go e3) o1 o3 o4 l3 l4 (hr'.trans hr.symm)
    · by_cases hl:1≤d.msgs.length∧d.msgs.length≤60
      · rw [decide_eq_true hl] at h0;exact absurd rfl h0
      · rw [if_neg hl] at hr
        rw [decide_eq_false hl]
        exact pan _ _ _ _ (hC2.ext.trans e3) (hr'.trans hr.symm) Qj
   obtain ⟨A,c,rfl,hlc,hcm,hlm,hel⟩:=SliceOf.open hM
   have x1:=hC2.ext.obj o1
   unfold n66c9
   by_cases h1l:1≤d.msgs.length
   · have d1:decide ((d.msgs.length:Int)≥1)=true:=by simp;omega
     by_cases h2l:d.msgs.length≤60
     · have d2:decide ((d.msgs.length:Int)≤60)=true:=by simp;omega
       simp (disch:=try exact DI) only [↓PR,QR,simprocAttr,(cells_of_heap x1).1,d1,d2,↓n66c1,↓n66c2,↓n66c3,↓n66c4,↓n66c5,↓n66c6,↓n66c7,↓n66c8,↓n66c9]
       exact fin _ (by simp [h1l,h2l])
     · have d2:decide ((d.msgs.length:Int)≤60)=false:=by simp;omega
       simp (disch:=try exact DI) only [↓PR,QR,simprocAttr,(cells_of_heap x1).1,d1,d2,↓n66c1,↓n66c2,↓n66c3,↓n66c4,↓n66c5,↓n66c6,↓n66c7,↓n66c8,↓n66c9]
       exact fin _ (by simp [h2l])
   · have d1:decide ((d.msgs.length:Int)≥1)=false:=by simp;omega
     simp (disch:=try exact DI) only [↓PR,QR,simprocAttr,(cells_of_heap x1).1,d1,↓n66c1,↓n66c2,↓n66c3,↓n66c4,↓n66c5,↓n66c6,↓n66c7,↓n66c8,↓n66c9]
     exact fin _ (by simp [h1l])
 · have hn:nameB d.name=false:=by
    cases hq:nameB d.name with
    | false=>rfl
    | true=>rw [hq] at h0;exact absurd rfl h0
   rw [hn,if_neg (by simp)] at hr
   rw [hn]
   exact pan _ _ _ _ (hC1.ext.trans e2) (hr'.trans hr.symm) Qj
end
section
variable {w0:World}
abbrev flawOf (r:Int×Int×Int):Value:=flawVal r.1 r.2.1 r.2.2
abbrev flawedB (d:DefD):Bool:=decide ((checkP d).2.2≠0)
theorem Check_all (v:Value) (d:DefD) (hd:DefVal w0 v d):Ret Pg 70 #[v] w0 fun r w'=>r = .tuple #[flawOf (checkP d),.bool (flawedB d)]∧Ext w0 w':=by
 obtain ⟨mv,rfl,hM⟩:=hd
 have hm1:=SliceOf.oneCell hM
 refine n46s (R:=retR _) ?_;unfold n46
 refine Qf ?_
 refine callK_ret (examined_all _ d ⟨mv,rfl,MsgsOf.ext hM ee⟩) ?_
 rintro _ w1 ⟨e1,cb,rfl,_⟩
 have s1:=e1.size
 simp only [World.size_alloc] at s1
 have o2:=e1.obj (heap_new (w0.alloc (Obj.cells (defCells d mv).toArray 27)) #[.int .i64 0,.int .i64 0,.int .i64 0] 131)
 rw [World.size_alloc] at o2
 simp (disch:=try exact DI) only [↓PR,QR,simprocAttr,↓n46c1,(cells_of_heap o2).1,(cells_of_heap o2).2]
 exact ⟨by first | trivial | rfl,ee⟩
theorem Valid_all (v:Value) (d:DefD) (hd:DefVal w0 v d):Ret Pg 34 #[v] w0 fun r w'=>r = .bool (!flawedB d)∧Ext w0 w':=by
 obtain ⟨mv,rfl,hM⟩:=hd
 have hm1:=SliceOf.oneCell hM
 refine n55s (R:=retR _) ?_;unfold n55
 refine Qf ?_
 refine zcr (Check_all _ d ⟨mv,rfl,MsgsOf.ext hM ee⟩) fun w1 e1=>?_
 simp (disch:=try exact DI) only [↓PR,QR,simprocAttr,↓n55c1]
 exact ⟨by first | trivial | rfl,ee⟩
end
section
variable {deps deps':List (ByteArray×Int)} {strs strs':List (ByteArray×Bool)}
theorem next_parts {m:MsgD} (h:(nextP deps strs m).2=0):nameB m.name=true∧lastP deps m.name=none∧(1≤m.fields.length∧m.fields.length≤40)∧(fieldsP deps strs [] m.fields).2=0∧depthM deps m < 16:=by
 have hl:=nextP_low h
 unfold nextP at h
 by_cases h1:nameB m.name=true
 · rw [if_pos h1] at h
   by_cases h2:(lastP deps m.name).isSome=true
   · rw [if_pos h2] at h;exact absurd h Qj
   · rw [if_neg h2] at h
     by_cases h3:1≤m.fields.length∧m.fields.length≤40
     · rw [if_pos h3] at h
       refine ⟨h1,by simpa using h2,h3,?_,hl⟩
       unfold tailP at h
       split at h
       · assumption
       · contradiction
     · rw [if_neg h3] at h;exact absurd h Qj
 · rw [if_neg h1] at h;exact absurd h Qj
end
section
variable {deps:List (ByteArray×Int)} {strs:List (ByteArray×Bool)}
theorem msgs_cons0 {m:MsgD} {l:List MsgD} {i:Nat} (h:(nextP deps strs m).2=0):msgsP deps strs i (m::l)=msgsP (stepD deps m) (stepS strs m) (i+1) l:=if_pos h
theorem msgs_cons1 {m:MsgD} {l:List MsgD} {i:Nat} (h:¬ (nextP deps strs m).2=0):msgsP deps strs i (m::l)=((i:Int),nextP deps strs m):=if_neg h
theorem msgs_append (r:List MsgD):∀ (l:List MsgD) (deps:List (ByteArray×Int)) (strs:List (ByteArray×Bool)) (i:Nat),((msgsP deps strs i l).2.2=0→msgsP deps strs i (l++r)=msgsP (l.foldl stepD deps) (l.foldl stepS strs) (i+l.length) r)∧((msgsP deps strs i l).2.2≠0→msgsP deps strs i (l++r)=msgsP deps strs i l)
 | [],deps,strs,i=>⟨fun _=>rfl,fun h=>absurd rfl h⟩
 | m::l,deps,strs,i=>by
  have ih:=msgs_append r l (stepD deps m) (stepS strs m) (i+1)
  by_cases h:(nextP deps strs m).2=0
  · rw [msgs_cons0 h,List.cons_append,msgs_cons0 h]
    simp only [List.foldl_cons,List.length_cons]
    rw [show i+(l.length+1)=i+1+l.length by omega]
    exact ih
  · rw [msgs_cons1 h,List.cons_append,msgs_cons1 h]
    exact ⟨fun k=>absurd k h,fun _=>rfl⟩
theorem msgs_at {l:List MsgD} {deps:List (ByteArray×Int)} {strs:List (ByteArray×Bool)} {i:Nat} (h:(msgsP deps strs i l).2.2=0) {k:Nat} {m:MsgD} (hk:l[k]?=some m):(nextP ((l.take k).foldl stepD deps) ((l.take k).foldl stepS strs) m).2=0∧(msgsP deps strs i (l.take k)).2.2=0:=by
 have hl:l=l.take k++m::l.drop (k+1):=by
  have:=(List.take_append_drop k l).symm
  rw [List.drop_eq_getElem_cons (Qv hk).1] at this
  rw [(Qv hk).2] at this
  exact this
 rw [hl] at h
 by_cases h0:(msgsP deps strs i (l.take k)).2.2=0
 · rw [(msgs_append _ _ _ _ _).1 h0] at h
   refine ⟨?_,h0⟩
   by_cases h1:(nextP ((l.take k).foldl stepD deps) ((l.take k).foldl stepS strs) m).2=0
   · exact h1
   · rw [msgs_cons1 h1] at h;exact absurd h h1
 · rw [(msgs_append _ _ _ _ _).2 h0] at h;exact absurd h h0
def Fine (l:List MsgD):Prop:=(msgsP [] [] 0 l).2.2=0
theorem Fine.next {l:List MsgD} (h:Fine l) {k:Nat} {m:MsgD} (hk:l[k]?=some m):(nextP (depsOf (l.take k)) (strsOf (l.take k)) m).2=0:=(msgs_at h hk).1
end
section
variable {d:DefD}
theorem check_fine (h:(checkP d).2.2=0):nameB d.name=true∧(1≤d.msgs.length∧d.msgs.length≤60)∧Fine d.msgs∧(lastP (depsOf d.msgs) d.start).isSome=true:=by
 unfold checkP at h
 by_cases h1:nameB d.name=true
 · rw [if_pos h1] at h
   by_cases h2:1≤d.msgs.length∧d.msgs.length≤60
   · rw [if_pos h2] at h
     unfold endP at h
     by_cases h3:(msgsP [] [] 0 d.msgs).2.2=0
     · rw [if_pos h3] at h
       by_cases h4:(lastP (depsOf d.msgs) d.start).isSome=true
       · exact ⟨h1,h2,h3,h4⟩
       · rw [if_neg h4] at h;exact absurd h Qj
     · rw [if_neg h3] at h;exact absurd h h3
   · rw [if_neg h2] at h;exact absurd h Qj
 · rw [if_neg h1] at h;exact absurd h Qj
end
end Go.Proofs.YtgalpdihjbinjaaGreatDoor
