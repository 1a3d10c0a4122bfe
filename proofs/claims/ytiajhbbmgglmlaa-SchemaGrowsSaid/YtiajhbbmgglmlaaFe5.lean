/-
  Lemmas for the claim.
-/
import Derived.Test.YtiajhbbmgglmlaaFe4
set_option linter.all false
namespace Go.Proofs.Ytiajhbbmgglmlaa
open Sw
open Go.RowKit (intOf Below)
set_option maxRecDepth 100000
theorem ContainsFunc_Field_ret (w0 : World) (v : Value) (l : List FieldD) (g : FuncId) (caps : Array Value) (p : FieldD → Bool) (hs : FieldsOf w0 v l) (hg : Callable Try.prog g) (hc : Tests w0 FieldVal g caps p l) :
    Ret Try.prog 111 #[v, .func (.func g) #[] caps] w0 fun r w' => r = .bool (l.any p) ∧ Ext w0 w' := by
  refine n_slices_ContainsFunc_api_Field_sound (R := retR _) ?_; unfold n_slices_ContainsFunc_api_Field
  refine callK_ret (IndexFunc_Field_ret _ _ l g caps p hs hg hc) ?_
  rintro r w' ⟨rfl, e⟩
  simp (disch := first | assumption | (simp only [ONE]; done) | rfl | (simp only [SZ]; done) | omega | (simp only [SZ] at *; omega)) only [↓PR, QR, Int.reduceBEq, Int.reduceBNe, Int.reduceLT, Int.reduceLE, Int.reduceGT, Int.reduceGE, Int.reduceNeg, Sw.joinK_eq]
  exact ⟨by rw [idx_neg], e⟩
def taggedP (tag : ByteArray) (o : FieldD) : Bool := o.kind == 9 && decide (o.tag = tag)
theorem casesS1_ret (w0 : World) (v : Value) (o f : FieldD) (pb : Nat) (tv cv : Value) (hv : FieldVal w0 v o) (hp : w0.heap[pb]? = some (.cells (fieldCells f tv cv).toArray 28 (0, 0))) :
    Ret Try.prog 112 #[v, .pointer (some ⟨pb, 0, none⟩)] w0 fun r w' => r = .bool (taggedP f.tag o) ∧ Ext w0 w' := by
  obtain ⟨tv', cv', rfl, hT, hC, ht1, hc1⟩ := hv.op
  have hlt := (Array.getElem?_eq_some_iff.1 hp).1
  refine n_schema_checker_cases_1_sound (R := retR _) ?_; unfold n_schema_checker_cases_1
  simp (disch := first | assumption | (simp only [ONE]; done) | rfl | (simp only [SZ]; done) | omega | (simp only [SZ] at *; omega)) only [↓PR, QR, Int.reduceBEq, Int.reduceBNe, Int.reduceLT, Int.reduceLE, Int.reduceGT, Int.reduceGE, Int.reduceNeg, Sw.joinK_eq, (cells_of_heap hp).1]
  exact ⟨by first | trivial | rfl, ee⟩
def casesL (hi : Int) (deps : List (ByteArray × Value)) : Int → List CaseD → Int
  | _, [] => 0
  | low, x :: xs => orC (withinC hi low [x.low, x.high]) (orC (needC (lastOf deps x.of).isSome 8) (casesL hi deps (IntKind.i64.wrap (x.high + 1)) xs))
def casesC (bef : List FieldD) (deps : List (ByteArray × Value)) (f : FieldD) : Int :=
  orC (needC ((lastR (numR bef) f.tag).isSome && !bef.any (taggedP f.tag)) 8) (orC (needC (decide (1 ≤ (f.cases.length : Int)) && decide ((f.cases.length : Int) ≤ 40)) 3) (casesL (((lastR (numR bef) f.tag).getD (0, 0)).2) deps (((lastR (numR bef) f.tag).getD (0, 0)).1) f.cases))
section
variable {w0 : World} {cb md ms : Nat} {deps strs : List (ByteArray × Value)} {at_ fld : Int} {fs : List FieldD}
theorem cases_tail {a0 : World} (e00 : Ext a0 w0) (h : Chk w0 cb md ms deps strs at_ fld fs) (pf p4 : Nat) (f : FieldD) (tv cv : Value) (lo hi : Int) (hC : CasesOf w0 cv f.cases) (o3 : w0.heap[pf]? = some (.cells (fieldCells f tv cv).toArray 28 (0, 0))) (o4 : w0.heap[p4]? = some (.cells #[.int .i64 lo, .int .i64 hi] 31 (0, 0))) :
    n_schema_checker_cases_c4 (.pointer (some ⟨cb, 0, none⟩)) (.pointer (some ⟨pf, 0, none⟩)) (.pointer (some ⟨p4, 0, none⟩)) (flwR a0 at_ fld (casesL hi deps lo f.cases)) w0 := by
  obtain ⟨A, c, rfl, hlc, hcm, hlm, hel⟩ := SliceOf.open hC
  simp (disch := first | assumption | (simp only [ONE]; done) | rfl | (simp only [SZ]; done) | omega | (simp only [SZ] at *; omega)) only [↓PR, QR, Int.reduceBEq, Int.reduceBNe, Int.reduceLT, Int.reduceLE, Int.reduceGT, Int.reduceGE, Int.reduceNeg, ↓n_schema_checker_cases_c1, ↓n_schema_checker_cases_c2, ↓n_schema_checker_cases_c3, ↓n_schema_checker_cases_c4, ↓n_schema_checker_cases_c5, ↓n_schema_checker_cases_c6, ↓n_schema_checker_cases_c7, ↓n_schema_checker_cases_c8, ↓n_schema_checker_cases_c9, ↓n_schema_checker_cases_c10, ↓n_schema_checker_cases_c11, ↓n_schema_checker_cases_c12, ↓n_schema_checker_cases_c13, (cells_of_heap o3).1, (cells_of_heap o4).1]
  refine loop2_intro (fun a0 a1 w => ∃ (k : Nat) (n : Int), a0 = .int .i64 n ∧ a1 = .int .i64 (k : Int) ∧ k ≤ f.cases.length ∧ Ext w0 w ∧ casesL hi deps n (f.cases.drop k) = casesL hi deps lo f.cases) (fun a0 a1 _ => f.cases.length - (intOf a1).toNat) ⟨0, lo, rfl, rfl, Nat.zero_le _, ee, rfl⟩ ?_
  rintro _ _ w ⟨k, n, rfl, rfl, hk, e, hI⟩
  have se := e.size
  rcases drop_cases hk with ⟨x, hx, hd, hlt, hdec⟩ | ⟨hk, hd, hdec⟩
  · obtain ⟨b, o, cs, rfl, hl, hA, rfl⟩ := hel k x hx
    have l4 : p4 < w.heap.size := (Array.getElem?_eq_some_iff.1 (e.obj o4)).1
    rw [hd] at hI
    simp only [casesL] at hI
    simp (disch := first | assumption | (simp only [ONE]; done) | rfl | (simp only [SZ]; done) | omega | (simp only [SZ] at *; omega)) only [↓PR, QR, Int.reduceBEq, Int.reduceBNe, Int.reduceLT, Int.reduceLE, Int.reduceGT, Int.reduceGE, Int.reduceNeg, ↓n_schema_checker_cases_c1, ↓n_schema_checker_cases_c2, ↓n_schema_checker_cases_c3, ↓n_schema_checker_cases_c4, ↓n_schema_checker_cases_c5, ↓n_schema_checker_cases_c6, ↓n_schema_checker_cases_c7, ↓n_schema_checker_cases_c8, ↓n_schema_checker_cases_c9, ↓n_schema_checker_cases_c10, ↓n_schema_checker_cases_c11, ↓n_schema_checker_cases_c12, ↓n_schema_checker_cases_c13, hdec, hA.c3, (cells_of_heap (e.obj o4)).1]
    generalize hW : World.alloc (World.alloc w _) _ = W
    have eW : Ext w W := by rw [← hW]; exact ee
    have o9 : W.heap[w.heap.size]? = some (.cells #[.int .i64 x.low, .int .i64 x.high, .string x.of] 62 (0, 0)) := by rw [← hW]; simp (disch := first | assumption | (simp only [ONE]; done) | rfl | (simp only [SZ]; done) | omega | (simp only [SZ] at *; omega)) only [↓PR, QR, Int.reduceBEq, Int.reduceBNe, Int.reduceLT, Int.reduceLE, Int.reduceGT, Int.reduceGE, Int.reduceNeg]
    have hIn : IntsOf W (.slice (some ⟨w.heap.size + 1, 0, none⟩) 2 2) [x.low, x.high] := by rw [← hW]; exact ints2 (by simp only [World.size_alloc]) _ _ _
    clear hW
    refine callK_flw (within_flw (h.ext (e.trans eW)) n hi _ _ hIn) (fun w1 e1 h0 => ?_) (fun w1 e1 h0 => ?_)
    · rw [h0, orC_zero] at hI
      have er1 := eW.trans e1
      simp (disch := first | assumption | (simp only [ONE]; done) | rfl | (simp only [SZ]; done) | omega | (simp only [SZ] at *; omega)) only [↓PR, QR, Int.reduceBEq, Int.reduceBNe, Int.reduceLT, Int.reduceLE, Int.reduceGT, Int.reduceGE, Int.reduceNeg, ↓n_schema_checker_cases_c1, ↓n_schema_checker_cases_c2, ↓n_schema_checker_cases_c3, ↓n_schema_checker_cases_c4, ↓n_schema_checker_cases_c5, ↓n_schema_checker_cases_c6, ↓n_schema_checker_cases_c7, ↓n_schema_checker_cases_c8, ↓n_schema_checker_cases_c9, ↓n_schema_checker_cases_c10, ↓n_schema_checker_cases_c11, ↓n_schema_checker_cases_c12, ↓n_schema_checker_cases_c13, (cells_of_heap (e1.obj o9)).1]
      refine callK_flw (refer_flw (h.ext (e.trans er1)) x.of) (fun w2 e2 h0 => ?_) (fun w2 e2 h0 => ?_)
      · rw [h0, orC_zero] at hI
        simp (disch := first | assumption | (simp only [ONE]; done) | rfl | (simp only [SZ]; done) | omega | (simp only [SZ] at *; omega)) only [↓PR, QR, Int.reduceBEq, Int.reduceBNe, Int.reduceLT, Int.reduceLE, Int.reduceGT, Int.reduceGE, Int.reduceNeg, ↓n_schema_checker_cases_c1, ↓n_schema_checker_cases_c2, ↓n_schema_checker_cases_c3, ↓n_schema_checker_cases_c4, ↓n_schema_checker_cases_c5, ↓n_schema_checker_cases_c6, ↓n_schema_checker_cases_c7, ↓n_schema_checker_cases_c8, ↓n_schema_checker_cases_c9, ↓n_schema_checker_cases_c10, ↓n_schema_checker_cases_c11, ↓n_schema_checker_cases_c12, ↓n_schema_checker_cases_c13, (cells_of_heap ((e1.trans e2).obj o9)).1]
        exact ⟨⟨k + 1, _, rfl, rfl, by omega, ee, hI⟩, meas_lt hlt⟩
      · rw [orC_ne h0] at hI
        exact flwR_pan (e00.trans (e.trans (er1.trans e2))) hI.symm h0
    · rw [orC_ne h0] at hI
      exact flwR_pan (e00.trans (e.trans (eW.trans e1))) hI.symm h0
  · subst hk
    simp (disch := first | assumption | (simp only [ONE]; done) | rfl | (simp only [SZ]; done) | omega | (simp only [SZ] at *; omega)) only [↓PR, QR, Int.reduceBEq, Int.reduceBNe, Int.reduceLT, Int.reduceLE, Int.reduceGT, Int.reduceGE, Int.reduceNeg, ↓n_schema_checker_cases_c1, ↓n_schema_checker_cases_c2, ↓n_schema_checker_cases_c3, ↓n_schema_checker_cases_c4, ↓n_schema_checker_cases_c5, ↓n_schema_checker_cases_c6, ↓n_schema_checker_cases_c7, ↓n_schema_checker_cases_c8, ↓n_schema_checker_cases_c9, ↓n_schema_checker_cases_c10, ↓n_schema_checker_cases_c11, ↓n_schema_checker_cases_c12, ↓n_schema_checker_cases_c13, hdec]
    rw [hd] at hI
    exact flwR_ret (e00.trans e) hI.symm
theorem cases_mid {a0 : World} (e00 : Ext a0 w0) (h : Chk w0 cb md ms deps strs at_ fld fs) (i : Nat) (hi : fld = i) (hlt : i < fs.length) (pf p4 : Nat) (f : FieldD) (tv cv : Value) (lo hi' : Int) (b : Bool) (hC : CasesOf w0 cv f.cases) (o3 : w0.heap[pf]? = some (.cells (fieldCells f tv cv).toArray 28 (0, 0))) (o4 : w0.heap[p4]? = some (.cells #[.int .i64 lo, .int .i64 hi'] 31 (0, 0)))
    (hb : b = (lastR (numR (fs.take i)) f.tag).isSome) (hlo : b = true → lo = ((lastR (numR (fs.take i)) f.tag).getD (0, 0)).1 ∧ hi' = ((lastR (numR (fs.take i)) f.tag).getD (0, 0)).2) :
    n_schema_checker_cases_c7 (.pointer (some ⟨cb, 0, none⟩)) (.pointer (some ⟨pf, 0, none⟩)) (.pointer (some ⟨p4, 0, none⟩)) (.bool b) (flwR a0 at_ fld (casesC (fs.take i) deps f)) w0 := by
  unfold n_schema_checker_cases_c7
  refine callK_ret (before_ret h i hi hlt) ?_
  rintro bv w1 ⟨hB, e1⟩
  simp (disch := first | assumption | (simp only [ONE]; done) | rfl | (simp only [SZ]; done) | omega | (simp only [SZ] at *; omega)) only [↓PR, QR, Int.reduceBEq, Int.reduceBNe, Int.reduceLT, Int.reduceLE, Int.reduceGT, Int.reduceGE, Int.reduceNeg]
  refine callK_ret (ContainsFunc_Field_ret _ _ _ _ _ (taggedP f.tag) hB c112 ?_) ?_
  · intro w v o _ e hv
    exact casesS1_ret w v o f pf tv cv hv ((e1.trans e).obj o3)
  rintro _ w2 ⟨rfl, e2⟩
  have e12 := e1.trans e2
  simp (disch := first | assumption | (simp only [ONE]; done) | rfl | (simp only [SZ]; done) | omega | (simp only [SZ] at *; omega)) only [↓PR, QR, Int.reduceBEq, Int.reduceBNe, Int.reduceLT, Int.reduceLE, Int.reduceGT, Int.reduceGE, Int.reduceNeg, ↓n_schema_checker_cases_c6]
  unfold casesC
  refine callK_flw (need_flw (h.ext e12) _ 8 (by decide)) (fun w3 e3 h0 => ?_) (fun w3 e3 h0 => ?_)
  · rw [← hb, h0, orC_zero]
    have hbt : b = true := by
      cases b with
      | true => rfl
      | false => exact absurd h0 (by simp [needC])
    obtain ⟨h1, h2⟩ := hlo hbt
    rw [← h1, ← h2]
    have e13 := e12.trans e3
    obtain ⟨A, c, rfl, _⟩ := SliceOf.open hC
    simp (disch := first | assumption | (simp only [ONE]; done) | rfl | (simp only [SZ]; done) | omega | (simp only [SZ] at *; omega)) only [↓PR, QR, Int.reduceBEq, Int.reduceBNe, Int.reduceLT, Int.reduceLE, Int.reduceGT, Int.reduceGE, Int.reduceNeg, ↓n_schema_checker_cases_c5, (cells_of_heap (e13.obj o3)).1]
    refine callK_flw (need_flw (h.ext e13) _ 3 (by decide)) (fun w4 e4 h0 => ?_) (fun w4 e4 h0 => ?_)
    · rw [h0, orC_zero]
      have e14 := e13.trans e4
      exact cases_tail (e00.trans e14) (h.ext e14) pf p4 f tv _ lo hi' (CasesOf.ext hC e14) (e14.obj o3) (e14.obj o4)
    · rw [orC_ne h0]
      exact flwR_pan (e00.trans (e13.trans e4)) rfl h0
  · rw [← hb, orC_ne h0]
    exact flwR_pan (e00.trans (e12.trans e3)) rfl h0
theorem cases_flw (h : Chk w0 cb md ms deps strs at_ fld fs) (i : Nat) (hi : fld = i) (hlt : i < fs.length) (v : Value) (f : FieldD) (hf : FieldVal w0 v f) : Calls Try.prog 101 #[.pointer (some ⟨cb, 0, none⟩), v] w0 (flwR w0 at_ fld (casesC (fs.take i) deps f)) := by
  obtain ⟨tv, cv, rfl, hT, hC, ht1, hc1⟩ := hf.op
  refine n_schema_checker_cases_sound ?_; unfold n_schema_checker_cases
  simp (disch := first | assumption | (simp only [ONE]; done) | rfl | (simp only [SZ]; done) | omega | (simp only [SZ] at *; omega)) only [↓PR, QR, Int.reduceBEq, Int.reduceBNe, Int.reduceLT, Int.reduceLE, Int.reduceGT, Int.reduceGE, Int.reduceNeg]
  generalize hW : World.alloc w0 _ = W
  have e0 : Ext w0 W := by rw [← hW]; exact ee
  have o3 : W.heap[w0.heap.size]? = some (.cells (fieldCells f tv cv).toArray 28 (0, 0)) := by rw [← hW]; simp (disch := first | assumption | (simp only [ONE]; done) | rfl | (simp only [SZ]; done) | omega | (simp only [SZ] at *; omega)) only [↓PR, QR, Int.reduceBEq, Int.reduceBNe, Int.reduceLT, Int.reduceLE, Int.reduceGT, Int.reduceGE, Int.reduceNeg]
  clear hW
  refine drawK_intro ?_
  simp (disch := first | assumption | (simp only [ONE]; done) | rfl | (simp only [SZ]; done) | omega | (simp only [SZ] at *; omega)) only [↓PR, QR, Int.reduceBEq, Int.reduceBNe, Int.reduceLT, Int.reduceLE, Int.reduceGT, Int.reduceGE, Int.reduceNeg, ↓n_schema_checker_cases_c13, (cells_of_heap o3).1]
  have key : ∀ w' p4 b lo hi', Ext W w' → w'.heap[p4]? = some (.cells #[.int .i64 lo, .int .i64 hi'] 31 (0, 0)) → b = (lastR (numR (fs.take i)) f.tag).isSome → (b = true → lo = ((lastR (numR (fs.take i)) f.tag).getD (0, 0)).1 ∧ hi' = ((lastR (numR (fs.take i)) f.tag).getD (0, 0)).2) →
      n_schema_checker_cases_c7 (.pointer (some ⟨cb, 0, none⟩)) (.pointer (some ⟨w0.heap.size, 0, none⟩)) (.pointer (some ⟨p4, 0, none⟩)) (.bool b) (flwR w0 at_ fld (casesC (fs.take i) deps f)) w' := by
    intro w' p4 b lo hi' e o4 hb hlo
    exact cases_mid (e0.trans e) (h.ext (e0.trans e)) i hi hlt _ p4 f tv cv lo hi' b (CasesOf.ext hC (e0.trans e)) (e.obj o3) o4 hb hlo
  have eD : Ext W W.drew := (Ext.refl W).wdrew
  have fin9 : ∀ (w2 : World) (m p4 : Nat) (u0 u1 : Value), Ext W.drew w2 → MapOf w2 m (RP (numR (fs.take i))) → w2.heap[p4]? = some (.cells #[u0, u1] 31 (0, 0)) → W.heap.size ≤ p4 →
      n_schema_checker_cases_c9 (.pointer (some ⟨p4, 0, none⟩)) (.map (some m)) (.string f.tag) (KL W.drew m (RP (numR (fs.take i)))) (fun t4 t5 w => n_schema_checker_cases_c7 (.pointer (some ⟨cb, 0, none⟩)) (.pointer (some ⟨w0.heap.size, 0, none⟩)) t4 t5 (flwR w0 at_ fld (casesC (fs.take i) deps f)) w) (flwR w0 at_ fld (casesC (fs.take i) deps f)) w2 := by
    intro w2 m p4 u0 u1 e2 hM o4 hp4
    haveI : ClassNe (KL W.drew m (RP (numR (fs.take i)))) := ⟨⟨w2, e2, hM⟩⟩
    unfold n_schema_checker_cases_c9
    rw [qV_lookupKL Try.underlying53 Try.underlying9 ty31 ⟨w2, e2, hM⟩, lastOf_RP]
    have hfin : ∀ lo hi' b, b = (lastR (numR (fs.take i)) f.tag).isSome → (b = true → lo = ((lastR (numR (fs.take i)) f.tag).getD (0, 0)).1 ∧ hi' = ((lastR (numR (fs.take i)) f.tag).getD (0, 0)).2) →
        KL W.drew m (RP (numR (fs.take i))) ((w2.setCell ⟨p4, 0, none⟩ (.int .i64 lo)).setCell ⟨p4, 1, none⟩ (.int .i64 hi')) ∧ n_schema_checker_cases_c7 (.pointer (some ⟨cb, 0, none⟩)) (.pointer (some ⟨w0.heap.size, 0, none⟩)) (.pointer (some ⟨p4, 0, none⟩)) (.bool b) (flwR w0 at_ fld (casesC (fs.take i) deps f)) ((w2.setCell ⟨p4, 0, none⟩ (.int .i64 lo)).setCell ⟨p4, 1, none⟩ (.int .i64 hi')) := by
      intro lo hi' b hb hlo
      have e3 : Ext W.drew ((w2.setCell ⟨p4, 0, none⟩ (.int .i64 lo)).setCell ⟨p4, 1, none⟩ (.int .i64 hi')) := (e2.setCell (show W.drew.heap.size ≤ (⟨p4, 0, none⟩ : Addr).block from hp4) _).setCell (show W.drew.heap.size ≤ (⟨p4, 1, none⟩ : Addr).block from hp4) _
      refine ⟨⟨e3, (hM.setCell _ _).setCell _ _⟩, key _ p4 b lo hi' (eD.trans e3) ?_ hb hlo⟩
      have := heap_set (o := 1) (heap_set (o := 0) o4 (.int .i64 lo)) (.int .i64 hi')
      simpa using this
    cases hl : lastR (numR (fs.take i)) f.tag with
    | none =>
      rw [hl] at hfin
      simp (disch := first | assumption | (simp only [ONE]; done) | rfl | (simp only [SZ]; done) | omega | (simp only [SZ] at *; omega)) only [↓PR, QR, Int.reduceBEq, Int.reduceBNe, Int.reduceLT, Int.reduceLE, Int.reduceGT, Int.reduceGE, Int.reduceNeg, Option.map_none, (cells_of_heap o4).1, (cells_of_heap o4).2]
      exact hfin 0 0 false rfl (by simp)
    | some q =>
      obtain ⟨lo, hi'⟩ := q
      rw [hl] at hfin
      simp (disch := first | assumption | (simp only [ONE]; done) | rfl | (simp only [SZ]; done) | omega | (simp only [SZ] at *; omega)) only [↓PR, QR, Int.reduceBEq, Int.reduceBNe, Int.reduceLT, Int.reduceLE, Int.reduceGT, Int.reduceGE, Int.reduceNeg, (cells_of_heap o4).1, (cells_of_heap o4).2, rangeVal]
      exact hfin lo hi' true rfl (fun _ => ⟨rfl, rfl⟩)
  refine ⟨?_, ?_⟩
  · refine callK_ret (before_ret (h.ext (e0.trans eD)) i hi hlt) ?_
    rintro bv w1 ⟨hB, e1⟩
    refine narrowK_same e1 ?_
    unfold n_schema_checker_cases_c10
    refine ⟨?_, ?_⟩
    · refine callK_ret (ranges_ret _ _ _ hB) ?_
      rintro _ w2 ⟨m, rfl, _, hM, e2⟩
      rw [numPairs_RP] at hM
      refine narrowK_KL (e1.trans e2) hM ?_
      unfold n_schema_checker_cases_c8
      simp only [drew_wdrew]
      haveI : ClassNe (KL W.drew m (RP (numR (fs.take i)))) := ⟨⟨w2, e1.trans e2, hM⟩⟩
      rw [qV_lookupKL Try.underlying53 Try.underlying9 ty31 ⟨w2, e1.trans e2, hM⟩]
      have h9 := fin9 (w2.alloc (.cells #[.int .i64 0, .int .i64 0] 31)) m w2.heap.size _ _ ((e1.trans e2).alloc _) (hM.ext ((Ext.refl _).alloc _)) (heap_new _ _ _) (by have := (e1.trans e2).size; simpa using this)
      unfold n_schema_checker_cases_c9 at h9
      rw [qV_lookupKL Try.underlying53 Try.underlying9 ty31 ⟨w2, e1.trans e2, hM⟩] at h9
      simp (disch := first | assumption | (simp only [ONE]; done) | rfl | (simp only [SZ]; done) | omega | (simp only [SZ] at *; omega)) only [↓PR, QR, Int.reduceBEq, Int.reduceBNe, Int.reduceLT, Int.reduceLE, Int.reduceGT, Int.reduceGE, Int.reduceNeg]
      refine ⟨⟨(e1.trans e2).alloc _, hM.ext ((Ext.refl _).alloc _)⟩, ?_⟩
      simp only [↓Sw.GENQ] at h9
      exact h9
    · simp (disch := first | assumption | (simp only [ONE]; done) | rfl | (simp only [SZ]; done) | omega | (simp only [SZ] at *; omega)) only [↓PR, QR, Int.reduceBEq, Int.reduceBNe, Int.reduceLT, Int.reduceLE, Int.reduceGT, Int.reduceGE, Int.reduceNeg]
      refine ⟨e1.alloc _, ?_⟩
      refine callK_ret (ranges_ret _ _ _ (FieldsOf.ext hB ((Ext.refl _).alloc _))) ?_
      rintro _ w2 ⟨m, rfl, _, hM, e2⟩
      rw [numPairs_RP] at hM
      have s1 := e1.size
      simp only [World.size_drew] at s1
      refine narrowK_KL ((e1.alloc _).trans e2) hM ?_
      exact fin9 w2 m w1.heap.size _ _ ((e1.alloc _).trans e2) hM (e2.obj (heap_new _ _ _)) s1
  · refine ⟨(Ext.refl _).alloc _, ?_⟩
    unfold n_schema_checker_cases_c12
    refine callK_ret (before_ret (h.ext ((e0.trans eD).alloc _)) i hi hlt) ?_
    rintro bv w1 ⟨hB, e1⟩
    refine narrowK_same (((Ext.refl _).alloc _).trans e1) ?_
    refine callK_ret (ranges_ret _ _ _ hB) ?_
    rintro _ w2 ⟨m, rfl, _, hM, e2⟩
    rw [numPairs_RP] at hM
    refine narrowK_KL (((Ext.refl _).alloc _).trans (e1.trans e2)) hM ?_
    exact fin9 w2 m W.heap.size _ _ (((Ext.refl _).alloc _).trans (e1.trans e2)) hM ((e1.trans e2).obj (heap_new W.drew _ _)) (Nat.le_refl _)
end
end Go.Proofs.Ytiajhbbmgglmlaa
namespace Go.Proofs.Ytiajhbbmgglmlaa
open Sw
open Go.RowKit (intOf Below)
set_option maxRecDepth 100000
section
variable {w0 : World} {cb md ms : Nat} {deps strs : List (ByteArray × Value)} {at_ fld : Int} {fs : List FieldD}
def topF (f : FieldD) : Int := 2 ^ f.bits.toNat - 1
theorem top_wrap {f : FieldD} (h : bitsB f = true) : 0 ≤ f.bits ∧ f.bits ≤ 64 ∧ IntKind.i64.wrap (IntKind.i64.wrap (1 * 2 ^ f.bits.toNat) - 1) = topF f := by
  unfold bitsB at h
  simp only [Bool.and_eq_true, decide_eq_true_eq] at h
  obtain ⟨⟨h1, h2⟩, _⟩ := h
  have hc : (2 : Int) ^ f.bits.toNat = ((2 ^ f.bits.toNat : Nat) : Int) := by simp
  have hp1 : 2 ^ f.bits.toNat ≤ 2 ^ 32 := Nat.pow_le_pow_right (by decide) (by omega)
  have hp : (2 : Int) ^ f.bits.toNat ≤ 4294967296 := by rw [hc]; omega
  have hp0 : (0 : Int) < 2 ^ f.bits.toNat := Int.pow_pos (by decide)
  refine ⟨by omega, by omega, ?_⟩
  unfold topF
  rw [Int.one_mul, show IntKind.i64.wrap (2 ^ f.bits.toNat) = 2 ^ f.bits.toNat from wrap_ok (by omega) (by omega), wrap_ok (by omega) (by omega)]
theorem needC_zero {b : Bool} {c : Int} (hc : c ≠ 0) (h : needC b c = 0) : b = true := by
  cases b with
  | true => rfl
  | false => exact absurd h hc
theorem uint_flw (h : Chk w0 cb md ms deps strs at_ fld fs) (v : Value) (f : FieldD) (hf : FieldVal w0 v f) : Calls Try.prog 82 #[.pointer (some ⟨cb, 0, none⟩), v] w0 (flwR w0 at_ fld (orC (needC (bitsB f) 6) (withinC (topF f) 0 [f.low, f.high]))) := by
  obtain ⟨tv, cv, rfl, hT, hC, ht1, hc1⟩ := hf.op
  refine n_schema_kinds_2_sound ?_; unfold n_schema_kinds_2
  simp (disch := first | assumption | (simp only [ONE]; done) | rfl | (simp only [SZ]; done) | omega | (simp only [SZ] at *; omega)) only [↓PR, QR, Int.reduceBEq, Int.reduceBNe, Int.reduceLT, Int.reduceLE, Int.reduceGT, Int.reduceGE, Int.reduceNeg]
  generalize hW : World.alloc w0 _ = W
  have e0 : Ext w0 W := by rw [← hW]; exact ee
  have o3 : W.heap[w0.heap.size]? = some (.cells (fieldCells f tv cv).toArray 28 (0, 0)) := by rw [← hW]; simp (disch := first | assumption | (simp only [ONE]; done) | rfl | (simp only [SZ]; done) | omega | (simp only [SZ] at *; omega)) only [↓PR, QR, Int.reduceBEq, Int.reduceBNe, Int.reduceLT, Int.reduceLE, Int.reduceGT, Int.reduceGE, Int.reduceNeg]
  clear hW
  simp (disch := first | assumption | (simp only [ONE]; done) | rfl | (simp only [SZ]; done) | omega | (simp only [SZ] at *; omega)) only [↓PR, QR, Int.reduceBEq, Int.reduceBNe, Int.reduceLT, Int.reduceLE, Int.reduceGT, Int.reduceGE, Int.reduceNeg, (cells_of_heap o3).1]
  refine callK_flw (bits_flw (h.ext e0) _ f ⟨tv, cv, rfl, TermsOf.ext hT e0, CasesOf.ext hC e0⟩) (fun w1 e1 h0 => ?_) (fun w1 e1 h0 => ?_)
  · rw [h0, orC_zero]
    obtain ⟨ha, hb, hw⟩ := top_wrap (needC_zero (by decide) h0)
    have e01 := e0.trans e1
    have l1 : w0.heap.size < w1.heap.size := (Array.getElem?_eq_some_iff.1 (e1.obj o3)).1
    refine drawK_intro ?_
    simp (disch := first | assumption | (simp only [ONE]; done) | rfl | (simp only [SZ]; done) | omega | (simp only [SZ] at *; omega)) only [↓PR, QR, Int.reduceBEq, Int.reduceBNe, Int.reduceLT, Int.reduceLE, Int.reduceGT, Int.reduceGE, Int.reduceNeg, ↓n_schema_kinds_2_c1, (cells_of_heap (e1.obj o3)).1, hw]
    generalize hW : World.alloc (World.drew w1) _ = W2
    have eD : Ext w1.drew W2 := by rw [← hW]; exact ee
    have hIn : IntsOf W2 (.slice (some ⟨w1.heap.size, 0, none⟩) 2 2) [f.low, f.high] := by rw [← hW]; exact ints2 rfl _ _ _
    clear hW
    have eE : Ext w0 W2 := (e01.wdrew).trans eD
    refine ⟨eD, ?_⟩
    refine callK_flw (within_flw (h.ext eE) 0 (topF f) _ _ hIn) (fun w2 e2 h0 => ?_) (fun w2 e2 h0 => ?_)
    · exact ⟨eD.trans e2, flwR_ret (eE.trans e2) h0⟩
    · exact flwR_pan (eE.trans e2) rfl h0
  · rw [orC_ne h0]
    exact flwR_pan (e0.trans e1) rfl h0
theorem const_flw (h : Chk w0 cb md ms deps strs at_ fld fs) (v : Value) (f : FieldD) (hf : FieldVal w0 v f) : Calls Try.prog 86 #[.pointer (some ⟨cb, 0, none⟩), v] w0 (flwR w0 at_ fld (orC (needC (bitsB f) 6) (withinC (topF f) 0 [f.low]))) := by
  obtain ⟨tv, cv, rfl, hT, hC, ht1, hc1⟩ := hf.op
  refine n_schema_kinds_4_sound ?_; unfold n_schema_kinds_4
  simp (disch := first | assumption | (simp only [ONE]; done) | rfl | (simp only [SZ]; done) | omega | (simp only [SZ] at *; omega)) only [↓PR, QR, Int.reduceBEq, Int.reduceBNe, Int.reduceLT, Int.reduceLE, Int.reduceGT, Int.reduceGE, Int.reduceNeg]
  generalize hW : World.alloc w0 _ = W
  have e0 : Ext w0 W := by rw [← hW]; exact ee
  have o3 : W.heap[w0.heap.size]? = some (.cells (fieldCells f tv cv).toArray 28 (0, 0)) := by rw [← hW]; simp (disch := first | assumption | (simp only [ONE]; done) | rfl | (simp only [SZ]; done) | omega | (simp only [SZ] at *; omega)) only [↓PR, QR, Int.reduceBEq, Int.reduceBNe, Int.reduceLT, Int.reduceLE, Int.reduceGT, Int.reduceGE, Int.reduceNeg]
  clear hW
  simp (disch := first | assumption | (simp only [ONE]; done) | rfl | (simp only [SZ]; done) | omega | (simp only [SZ] at *; omega)) only [↓PR, QR, Int.reduceBEq, Int.reduceBNe, Int.reduceLT, Int.reduceLE, Int.reduceGT, Int.reduceGE, Int.reduceNeg, (cells_of_heap o3).1]
  refine callK_flw (bits_flw (h.ext e0) _ f ⟨tv, cv, rfl, TermsOf.ext hT e0, CasesOf.ext hC e0⟩) (fun w1 e1 h0 => ?_) (fun w1 e1 h0 => ?_)
  · rw [h0, orC_zero]
    obtain ⟨ha, hb, hw⟩ := top_wrap (needC_zero (by decide) h0)
    have e01 := e0.trans e1
    have l1 : w0.heap.size < w1.heap.size := (Array.getElem?_eq_some_iff.1 (e1.obj o3)).1
    refine drawK_intro ?_
    simp (disch := first | assumption | (simp only [ONE]; done) | rfl | (simp only [SZ]; done) | omega | (simp only [SZ] at *; omega)) only [↓PR, QR, Int.reduceBEq, Int.reduceBNe, Int.reduceLT, Int.reduceLE, Int.reduceGT, Int.reduceGE, Int.reduceNeg, ↓n_schema_kinds_4_c1, (cells_of_heap (e1.obj o3)).1, hw]
    generalize hW : World.alloc (World.drew w1) _ = W2
    have eD : Ext w1.drew W2 := by rw [← hW]; exact ee
    have hIn : IntsOf W2 (.slice (some ⟨w1.heap.size, 0, none⟩) 1 1) [f.low] := by rw [← hW]; exact ints1 rfl _ _
    clear hW
    have eE : Ext w0 W2 := (e01.wdrew).trans eD
    refine ⟨eD, ?_⟩
    refine callK_flw (within_flw (h.ext eE) 0 (topF f) _ _ hIn) (fun w2 e2 h0 => ?_) (fun w2 e2 h0 => ?_)
    · exact ⟨eD.trans e2, flwR_ret (eE.trans e2) h0⟩
    · exact flwR_pan (eE.trans e2) rfl h0
  · rw [orC_ne h0]
    exact flwR_pan (e0.trans e1) rfl h0
theorem varint_flw (h : Chk w0 cb md ms deps strs at_ fld fs) (v : Value) (f : FieldD) (hf : FieldVal w0 v f) : Calls Try.prog 88 #[.pointer (some ⟨cb, 0, none⟩), v] w0 (flwR w0 at_ fld (withinC 34359738367 0 [f.low, f.high])) := by
  obtain ⟨tv, cv, rfl, hT, hC, ht1, hc1⟩ := hf.op
  refine n_schema_kinds_6_sound ?_; unfold n_schema_kinds_6
  simp (disch := first | assumption | (simp only [ONE]; done) | rfl | (simp only [SZ]; done) | omega | (simp only [SZ] at *; omega)) only [↓PR, QR, Int.reduceBEq, Int.reduceBNe, Int.reduceLT, Int.reduceLE, Int.reduceGT, Int.reduceGE, Int.reduceNeg]
  generalize hW : World.alloc (World.alloc w0 _) _ = W
  have e0 : Ext w0 W := by rw [← hW]; exact ee
  have o3 : W.heap[w0.heap.size]? = some (.cells (fieldCells f tv cv).toArray 28 (0, 0)) := by rw [← hW]; simp (disch := first | assumption | (simp only [ONE]; done) | rfl | (simp only [SZ]; done) | omega | (simp only [SZ] at *; omega)) only [↓PR, QR, Int.reduceBEq, Int.reduceBNe, Int.reduceLT, Int.reduceLE, Int.reduceGT, Int.reduceGE, Int.reduceNeg]
  have hIn : IntsOf W (.slice (some ⟨w0.heap.size + 1, 0, none⟩) 2 2) [f.low, f.high] := by rw [← hW]; exact ints2 (by simp only [World.size_alloc]) _ _ _
  clear hW
  refine callK_flw (within_flw (h.ext e0) 0 34359738367 _ _ hIn) (fun w1 e1 h0 => ?_) (fun w1 e1 h0 => ?_)
  · exact flwR_ret (e0.trans e1) h0
  · exact flwR_pan (e0.trans e1) rfl h0
theorem headers_flw (h : Chk w0 cb md ms deps strs at_ fld fs) (v : Value) (f : FieldD) (hf : FieldVal w0 v f) : Calls Try.prog 94 #[.pointer (some ⟨cb, 0, none⟩), v] w0 (flwR w0 at_ fld (withinC 1048576 2 [f.high])) := by
  obtain ⟨tv, cv, rfl, hT, hC, ht1, hc1⟩ := hf.op
  refine n_schema_kinds_11_sound ?_; unfold n_schema_kinds_11
  simp (disch := first | assumption | (simp only [ONE]; done) | rfl | (simp only [SZ]; done) | omega | (simp only [SZ] at *; omega)) only [↓PR, QR, Int.reduceBEq, Int.reduceBNe, Int.reduceLT, Int.reduceLE, Int.reduceGT, Int.reduceGE, Int.reduceNeg]
  generalize hW : World.alloc (World.alloc w0 _) _ = W
  have e0 : Ext w0 W := by rw [← hW]; exact ee
  have o3 : W.heap[w0.heap.size]? = some (.cells (fieldCells f tv cv).toArray 28 (0, 0)) := by rw [← hW]; simp (disch := first | assumption | (simp only [ONE]; done) | rfl | (simp only [SZ]; done) | omega | (simp only [SZ] at *; omega)) only [↓PR, QR, Int.reduceBEq, Int.reduceBNe, Int.reduceLT, Int.reduceLE, Int.reduceGT, Int.reduceGE, Int.reduceNeg]
  have hIn : IntsOf W (.slice (some ⟨w0.heap.size + 1, 0, none⟩) 1 1) [f.high] := by rw [← hW]; exact ints1 (by simp only [World.size_alloc]) _ _
  clear hW
  refine callK_flw (within_flw (h.ext e0) 2 1048576 _ _ hIn) (fun w1 e1 h0 => ?_) (fun w1 e1 h0 => ?_)
  · exact flwR_ret (e0.trans e1) h0
  · exact flwR_pan (e0.trans e1) rfl h0
theorem until_flw (h : Chk w0 cb md ms deps strs at_ fld fs) (v : Value) (f : FieldD) (hf : FieldVal w0 v f) : Calls Try.prog 92 #[.pointer (some ⟨cb, 0, none⟩), v] w0 (flwR w0 at_ fld (orC (withinC 255 0 [f.low]) (withinC 1048576 0 [f.high]))) := by
  obtain ⟨tv, cv, rfl, hT, hC, ht1, hc1⟩ := hf.op
  refine n_schema_kinds_9_sound ?_; unfold n_schema_kinds_9
  simp (disch := first | assumption | (simp only [ONE]; done) | rfl | (simp only [SZ]; done) | omega | (simp only [SZ] at *; omega)) only [↓PR, QR, Int.reduceBEq, Int.reduceBNe, Int.reduceLT, Int.reduceLE, Int.reduceGT, Int.reduceGE, Int.reduceNeg]
  generalize hW : World.alloc (World.alloc w0 _) _ = W
  have e0 : Ext w0 W := by rw [← hW]; exact ee
  have o3 : W.heap[w0.heap.size]? = some (.cells (fieldCells f tv cv).toArray 28 (0, 0)) := by rw [← hW]; simp (disch := first | assumption | (simp only [ONE]; done) | rfl | (simp only [SZ]; done) | omega | (simp only [SZ] at *; omega)) only [↓PR, QR, Int.reduceBEq, Int.reduceBNe, Int.reduceLT, Int.reduceLE, Int.reduceGT, Int.reduceGE, Int.reduceNeg]
  have hIn : IntsOf W (.slice (some ⟨w0.heap.size + 1, 0, none⟩) 1 1) [f.low] := by rw [← hW]; exact ints1 (by simp only [World.size_alloc]) _ _
  clear hW
  refine callK_flw (within_flw (h.ext e0) 0 255 _ _ hIn) (fun w1 e1 h0 => ?_) (fun w1 e1 h0 => ?_)
  · rw [h0, orC_zero]
    have e01 := e0.trans e1
    simp (disch := first | assumption | (simp only [ONE]; done) | rfl | (simp only [SZ]; done) | omega | (simp only [SZ] at *; omega)) only [↓PR, QR, Int.reduceBEq, Int.reduceBNe, Int.reduceLT, Int.reduceLE, Int.reduceGT, Int.reduceGE, Int.reduceNeg, ↓n_schema_kinds_9_c1, (cells_of_heap (e1.obj o3)).1]
    refine callK_flw (within_flw ((h.ext e01).ext ((Ext.refl _).alloc _)) 0 1048576 _ _ (ints1 rfl _ _)) (fun w2 e2 h0 => ?_) (fun w2 e2 h0 => ?_)
    · exact flwR_ret ((e01.alloc _).trans e2) h0
    · exact flwR_pan ((e01.alloc _).trans e2) rfl h0
  · rw [orC_ne h0]
    exact flwR_pan (e0.trans e1) rfl h0
theorem message_flw (h : Chk w0 cb md ms deps strs at_ fld fs) (v : Value) (f : FieldD) (hf : FieldVal w0 v f) : Calls Try.prog 99 #[.pointer (some ⟨cb, 0, none⟩), v] w0 (flwR w0 at_ fld (needC (lastOf deps f.of).isSome 8)) := by
  obtain ⟨tv, cv, rfl, hT, hC, ht1, hc1⟩ := hf.op
  refine n_schema_kinds_15_sound ?_; unfold n_schema_kinds_15
  simp (disch := first | assumption | (simp only [ONE]; done) | rfl | (simp only [SZ]; done) | omega | (simp only [SZ] at *; omega)) only [↓PR, QR, Int.reduceBEq, Int.reduceBNe, Int.reduceLT, Int.reduceLE, Int.reduceGT, Int.reduceGE, Int.reduceNeg]
  generalize hW : World.alloc w0 _ = W
  have e0 : Ext w0 W := by rw [← hW]; exact ee
  have o3 : W.heap[w0.heap.size]? = some (.cells (fieldCells f tv cv).toArray 28 (0, 0)) := by rw [← hW]; simp (disch := first | assumption | (simp only [ONE]; done) | rfl | (simp only [SZ]; done) | omega | (simp only [SZ] at *; omega)) only [↓PR, QR, Int.reduceBEq, Int.reduceBNe, Int.reduceLT, Int.reduceLE, Int.reduceGT, Int.reduceGE, Int.reduceNeg]
  clear hW
  simp (disch := first | assumption | (simp only [ONE]; done) | rfl | (simp only [SZ]; done) | omega | (simp only [SZ] at *; omega)) only [↓PR, QR, Int.reduceBEq, Int.reduceBNe, Int.reduceLT, Int.reduceLE, Int.reduceGT, Int.reduceGE, Int.reduceNeg, (cells_of_heap o3).1]
  refine callK_flw (refer_flw (h.ext e0) f.of) (fun w1 e1 h0 => ?_) (fun w1 e1 h0 => ?_)
  · exact flwR_ret (e0.trans e1) h0
  · exact flwR_pan (e0.trans e1) rfl h0
theorem list_flw (h : Chk w0 cb md ms deps strs at_ fld fs) (i : Nat) (hi : fld = i) (hlt : i < fs.length) (v : Value) (f : FieldD) (hf : FieldVal w0 v f) (ht : f.terms.length ≤ 1048576) : Calls Try.prog 96 #[.pointer (some ⟨cb, 0, none⟩), v] w0 (flwR w0 at_ fld (orC (needC (lastOf deps f.of).isSome 8) (sizedC (numR (fs.take i)) f))) := by
  obtain ⟨tv, cv, rfl, hT, hC, ht1, hc1⟩ := hf.op
  refine n_schema_kinds_13_sound ?_; unfold n_schema_kinds_13
  simp (disch := first | assumption | (simp only [ONE]; done) | rfl | (simp only [SZ]; done) | omega | (simp only [SZ] at *; omega)) only [↓PR, QR, Int.reduceBEq, Int.reduceBNe, Int.reduceLT, Int.reduceLE, Int.reduceGT, Int.reduceGE, Int.reduceNeg]
  generalize hW : World.alloc w0 _ = W
  have e0 : Ext w0 W := by rw [← hW]; exact ee
  have o3 : W.heap[w0.heap.size]? = some (.cells (fieldCells f tv cv).toArray 28 (0, 0)) := by rw [← hW]; simp (disch := first | assumption | (simp only [ONE]; done) | rfl | (simp only [SZ]; done) | omega | (simp only [SZ] at *; omega)) only [↓PR, QR, Int.reduceBEq, Int.reduceBNe, Int.reduceLT, Int.reduceLE, Int.reduceGT, Int.reduceGE, Int.reduceNeg]
  clear hW
  simp (disch := first | assumption | (simp only [ONE]; done) | rfl | (simp only [SZ]; done) | omega | (simp only [SZ] at *; omega)) only [↓PR, QR, Int.reduceBEq, Int.reduceBNe, Int.reduceLT, Int.reduceLE, Int.reduceGT, Int.reduceGE, Int.reduceNeg, (cells_of_heap o3).1]
  refine callK_flw (refer_flw (h.ext e0) f.of) (fun w1 e1 h0 => ?_) (fun w1 e1 h0 => ?_)
  · rw [h0, orC_zero]
    have e01 := e0.trans e1
    simp (disch := first | assumption | (simp only [ONE]; done) | rfl | (simp only [SZ]; done) | omega | (simp only [SZ] at *; omega)) only [↓PR, QR, Int.reduceBEq, Int.reduceBNe, Int.reduceLT, Int.reduceLE, Int.reduceGT, Int.reduceGE, Int.reduceNeg, (cells_of_heap (e1.obj o3)).1]
    refine callK_flw (sized_flw (h.ext e01) i hi hlt _ f ⟨tv, cv, rfl, TermsOf.ext hT e01, CasesOf.ext hC e01⟩ ht) (fun w2 e2 h0 => ?_) (fun w2 e2 h0 => ?_)
    · exact flwR_ret (e01.trans e2) h0
    · exact flwR_pan (e01.trans e2) rfl h0
  · rw [orC_ne h0]
    exact flwR_pan (e0.trans e1) rfl h0
theorem view_flw (h : Chk w0 cb md ms deps strs at_ fld fs) (i : Nat) (hi : fld = i) (hlt : i < fs.length) (v : Value) (f : FieldD) (hf : FieldVal w0 v f) (ht : f.terms.length ≤ 1048576) : Calls Try.prog 107 #[.pointer (some ⟨cb, 0, none⟩), v] w0 (flwR w0 at_ fld (orC (withinC 4294967295 0 [f.key]) (orC (needC (strB strs f.of) 8) (sizedC (numR (fs.take i)) f)))) := by
  obtain ⟨tv, cv, rfl, hT, hC, ht1, hc1⟩ := hf.op
  refine n_schema_kinds_22_sound ?_; unfold n_schema_kinds_22
  simp (disch := first | assumption | (simp only [ONE]; done) | rfl | (simp only [SZ]; done) | omega | (simp only [SZ] at *; omega)) only [↓PR, QR, Int.reduceBEq, Int.reduceBNe, Int.reduceLT, Int.reduceLE, Int.reduceGT, Int.reduceGE, Int.reduceNeg]
  generalize hW : World.alloc (World.alloc w0 _) _ = W
  have e0 : Ext w0 W := by rw [← hW]; exact ee
  have o3 : W.heap[w0.heap.size]? = some (.cells (fieldCells f tv cv).toArray 28 (0, 0)) := by rw [← hW]; simp (disch := first | assumption | (simp only [ONE]; done) | rfl | (simp only [SZ]; done) | omega | (simp only [SZ] at *; omega)) only [↓PR, QR, Int.reduceBEq, Int.reduceBNe, Int.reduceLT, Int.reduceLE, Int.reduceGT, Int.reduceGE, Int.reduceNeg]
  have hIn : IntsOf W (.slice (some ⟨w0.heap.size + 1, 0, none⟩) 1 1) [f.key] := by rw [← hW]; exact ints1 (by simp only [World.size_alloc]) _ _
  clear hW
  refine callK_flw (within_flw (h.ext e0) 0 4294967295 _ _ hIn) (fun w1 e1 h0 => ?_) (fun w1 e1 h0 => ?_)
  · rw [h0, orC_zero]
    have e01 := e0.trans e1
    have h1 := h.ext e01.wdrew
    obtain ⟨⟨dn, mv, ds, mn, fv, k1, k2⟩, k3, k4, k5, k6⟩ := id h1
    refine drawK_intro ?_
    simp (disch := first | assumption | (simp only [ONE]; done) | rfl | (simp only [SZ]; done) | omega | (simp only [SZ] at *; omega)) only [↓PR, QR, Int.reduceBEq, Int.reduceBNe, Int.reduceLT, Int.reduceLE, Int.reduceGT, Int.reduceGE, Int.reduceNeg, ↓n_schema_kinds_22_c1, (cells_of_heap (e1.obj o3)).1, (cells_of_heap k1).1]
    have k1' := (cells_of_heap k1).1
    simp only [World.cell?] at k1'
    rw [qV_lookup1E Try.underlying99 Try.underlying9 ty4 k4]
    rw [h1.strV f.of]
    refine callK_flw (need_flw h1 _ 8 (by decide)) (fun w2 e2 h0 => ?_) (fun w2 e2 h0 => ?_)
    · rw [h0, orC_zero]
      refine ⟨e2, ?_⟩
      have e02 := (e01.wdrew).trans e2
      have e12 : Ext W w2 := (e1.wdrew).trans e2
      simp (disch := first | assumption | (simp only [ONE]; done) | rfl | (simp only [SZ]; done) | omega | (simp only [SZ] at *; omega)) only [↓PR, QR, Int.reduceBEq, Int.reduceBNe, Int.reduceLT, Int.reduceLE, Int.reduceGT, Int.reduceGE, Int.reduceNeg, (cells_of_heap (e12.obj o3)).1]
      refine callK_flw (sized_flw (h.ext e02) i hi hlt _ f ⟨tv, cv, rfl, TermsOf.ext hT e02, CasesOf.ext hC e02⟩ ht) (fun w3 e3 h0 => ?_) (fun w3 e3 h0 => ?_)
      · exact flwR_ret (e02.trans e3) h0
      · exact flwR_pan (e02.trans e3) rfl h0
    · rw [orC_ne h0]
      exact flwR_pan (e01.wdrew.trans e2) rfl h0
  · rw [orC_ne h0]
    exact flwR_pan (e0.trans e1) rfl h0
theorem check_flw (h : Chk w0 cb md ms deps strs at_ fld fs) (i : Nat) (hi : fld = i) (hlt : i < fs.length) (v : Value) (f : FieldD) (hf : FieldVal w0 v f) : Calls Try.prog 105 #[.pointer (some ⟨cb, 0, none⟩), v] w0 (flwR w0 at_ fld (orC (withinC 3 1 [f.check]) (needC ((fs.take i).any fun o => decide (o.name = f.fr)) 8))) := by
  obtain ⟨tv, cv, rfl, hT, hC, ht1, hc1⟩ := hf.op
  refine n_schema_kinds_20_sound ?_; unfold n_schema_kinds_20
  simp (disch := first | assumption | (simp only [ONE]; done) | rfl | (simp only [SZ]; done) | omega | (simp only [SZ] at *; omega)) only [↓PR, QR, Int.reduceBEq, Int.reduceBNe, Int.reduceLT, Int.reduceLE, Int.reduceGT, Int.reduceGE, Int.reduceNeg]
  generalize hW : World.alloc (World.alloc w0 _) _ = W
  have e0 : Ext w0 W := by rw [← hW]; exact ee
  have o3 : W.heap[w0.heap.size]? = some (.cells (fieldCells f tv cv).toArray 28 (0, 0)) := by rw [← hW]; simp (disch := first | assumption | (simp only [ONE]; done) | rfl | (simp only [SZ]; done) | omega | (simp only [SZ] at *; omega)) only [↓PR, QR, Int.reduceBEq, Int.reduceBNe, Int.reduceLT, Int.reduceLE, Int.reduceGT, Int.reduceGE, Int.reduceNeg]
  have hIn : IntsOf W (.slice (some ⟨w0.heap.size + 1, 0, none⟩) 1 1) [f.check] := by rw [← hW]; exact ints1 (by simp only [World.size_alloc]) _ _
  clear hW
  refine callK_flw (within_flw (h.ext e0) 1 3 _ _ hIn) (fun w1 e1 h0 => ?_) (fun w1 e1 h0 => ?_)
  · rw [h0, orC_zero]
    have e01 := e0.trans e1
    refine drawK_intro ?_
    simp (disch := first | assumption | (simp only [ONE]; done) | rfl | (simp only [SZ]; done) | omega | (simp only [SZ] at *; omega)) only [↓PR, QR, Int.reduceBEq, Int.reduceBNe, Int.reduceLT, Int.reduceLE, Int.reduceGT, Int.reduceGE, Int.reduceNeg, ↓n_schema_kinds_20_c1, ↓n_schema_kinds_20_c2, (cells_of_heap (e1.obj o3)).1]
    refine callK_ret (before_ret (h.ext e01.wdrew) i hi hlt) ?_
    rintro bv w2 ⟨hB, e2⟩
    refine ⟨e2, ?_⟩
    have hb1 := SliceOf.oneCell hB
    simp (disch := first | assumption | (simp only [ONE]; done) | rfl | (simp only [SZ]; done) | omega | (simp only [SZ] at *; omega)) only [↓PR, QR, Int.reduceBEq, Int.reduceBNe, Int.reduceLT, Int.reduceLE, Int.reduceGT, Int.reduceGE, Int.reduceNeg, ↓n_schema_kinds_20_c1, ↓n_schema_kinds_20_c2]
    refine callK_ret (Field_ret w2 _ ⟨ByteArray.empty, fs.take i⟩ f.fr ⟨bv, rfl, hB⟩) ?_
    rintro _ w3 ⟨rfl, e3⟩
    refine ⟨e2.trans e3, ?_⟩
    simp (disch := first | assumption | (simp only [ONE]; done) | rfl | (simp only [SZ]; done) | omega | (simp only [SZ] at *; omega)) only [↓PR, QR, Int.reduceBEq, Int.reduceBNe, Int.reduceLT, Int.reduceLE, Int.reduceGT, Int.reduceGE, Int.reduceNeg, ↓n_schema_kinds_20_c1, ↓n_schema_kinds_20_c2]
    have e03 := (e01.wdrew).trans (e2.trans e3)
    refine callK_flw (need_flw (h.ext e03) _ 8 (by decide)) (fun w4 e4 h0 => ?_) (fun w4 e4 h0 => ?_)
    · exact flwR_ret (e03.trans e4) h0
    · exact flwR_pan (e03.trans e4) rfl h0
  · rw [orC_ne h0]
    exact flwR_pan (e0.trans e1) rfl h0
def padB (f : FieldD) : Bool := (f.bits == 2) || (f.bits == 4) || (decide (8 ≤ f.bits) && decide (f.bits ≤ 512) && (f.bits.tmod 8 == 0))
theorem pad_flw (h : Chk w0 cb md ms deps strs at_ fld fs) (v : Value) (f : FieldD) (hf : FieldVal w0 v f) : Calls Try.prog 103 #[.pointer (some ⟨cb, 0, none⟩), v] w0 (flwR w0 at_ fld (needC (padB f) 6)) := by
  obtain ⟨tv, cv, rfl, hT, hC, ht1, hc1⟩ := hf.op
  refine n_schema_kinds_18_sound ?_; unfold n_schema_kinds_18
  simp (disch := first | assumption | (simp only [ONE]; done) | rfl | (simp only [SZ]; done) | omega | (simp only [SZ] at *; omega)) only [↓PR, QR, Int.reduceBEq, Int.reduceBNe, Int.reduceLT, Int.reduceLE, Int.reduceGT, Int.reduceGE, Int.reduceNeg, ↓n_schema_kinds_18_c1, ↓n_schema_kinds_18_c2, ↓n_schema_kinds_18_c3, ↓n_schema_kinds_18_c4]
  have e0 : Ext w0 (w0.alloc (Obj.cells (fieldCells f tv cv).toArray 28)) := ee
  have fin : ∀ b, b = padB f → callK Try.prog 62 #[.pointer (some ⟨cb, 0, none⟩), .bool b, .int .i64 6] (panK (flwR w0 at_ fld (needC (padB f) 6))) (w0.alloc (Obj.cells (fieldCells f tv cv).toArray 28)) (fun _ w => flwR w0 at_ fld (needC (padB f) 6) (.returned (.tuple #[])) w) := by
    rintro b rfl
    exact callK_flw (need_flw (h.ext e0) _ 6 (by decide)) (fun w' e1 h0 => flwR_ret (e0.trans e1) h0) (fun w' e1 h0 => flwR_pan (e0.trans e1) rfl h0)
  unfold padB at fin ⊢
  generalize (f.bits == 2) = b1 at fin ⊢
  generalize (f.bits == 4) = b2 at fin ⊢
  generalize decide (8 ≤ f.bits) = b3 at fin ⊢
  generalize decide (f.bits ≤ 512) = b4 at fin ⊢
  cases b1 <;> cases b2 <;> cases b3 <;> cases b4 <;> simp (disch := first | assumption | (simp only [ONE]; done) | rfl | (simp only [SZ]; done) | omega | (simp only [SZ] at *; omega)) only [↓PR, QR, Int.reduceBEq, Int.reduceBNe, Int.reduceLT, Int.reduceLE, Int.reduceGT, Int.reduceGE, Int.reduceNeg, ↓n_schema_kinds_18_c1, ↓n_schema_kinds_18_c2, ↓n_schema_kinds_18_c3, ↓n_schema_kinds_18_c4] <;> first | exact fin _ rfl | exact fin _ (by simp)
end
end Go.Proofs.Ytiajhbbmgglmlaa
namespace Go.Proofs.Ytiajhbbmgglmlaa
open Sw
open Go.RowKit (intOf Below)
set_option maxRecDepth 100000
theorem eq_Term (x y : TermD) : (decide (x.field = y.field) && decide (x.factor = y.factor)) = decide (x = y) := by
  cases x; cases y
  rw [Bool.eq_iff_iff]
  simp
theorem Equal_Term_ret (w0 : World) (v u : Value) (l m : List TermD) (hl : TermsOf w0 v l) (hm : TermsOf w0 u m) :
    Ret Try.prog 68 #[v, u] w0 fun r w' => r = .bool (decide (l = m)) ∧ Ext w0 w' := by
  obtain ⟨A, c, rfl, hlc, hcm, hlm, hel⟩ := SliceOf.open hl
  obtain ⟨A', c', rfl, hlc', hcm', hlm', hel'⟩ := SliceOf.open hm
  refine n_slices_Equal_api_Term_sound (R := retR _) ?_; unfold n_slices_Equal_api_Term
  simp (disch := first | assumption | (simp only [ONE]; done) | rfl | (simp only [SZ]; done) | omega | (simp only [SZ] at *; omega)) only [↓PR, QR, Int.reduceBEq, Int.reduceBNe, Int.reduceLT, Int.reduceLE, Int.reduceGT, Int.reduceGE, Int.reduceNeg]
  by_cases hlen : l.length = m.length
  · have hne : ((l.length : Int) != (m.length : Int)) = false := by simp [hlen]
    simp (disch := first | assumption | (simp only [ONE]; done) | rfl | (simp only [SZ]; done) | omega | (simp only [SZ] at *; omega)) only [↓PR, QR, Int.reduceBEq, Int.reduceBNe, Int.reduceLT, Int.reduceLE, Int.reduceGT, Int.reduceGE, Int.reduceNeg, ↓n_slices_Equal_api_Term_c1, ↓n_slices_Equal_api_Term_c2, hne]
    refine loop1_intro (fun a0 w => ∃ (k : Nat) , a0 = .int .i64 (k : Int) ∧ k ≤ l.length ∧ Ext w0 w ∧ l.take k = m.take k) (fun a0 _ => l.length - (intOf a0).toNat) ⟨0, rfl, Nat.zero_le _, ee, rfl⟩ ?_
    rintro _ w ⟨k, rfl, hk, e, hI⟩
    have se := e.size
    rcases drop_cases hk with ⟨x, hx, hd, hlt, hdec⟩ | ⟨hk, hd, hdec⟩
    · obtain ⟨b, o, cs, rfl, _, hA, rfl⟩ := hel k x hx
      obtain ⟨y, hy⟩ := getElem?_lt (l := m) (k := k) (by omega)
      obtain ⟨b', o', cs', rfl, _, hA', rfl⟩ := hel' k y hy
      have hlt' : k < m.length := by omega
      have eD : Ext w0 w.drew := e.wdrew
      simp (disch := first | assumption | (simp only [ONE]; done) | rfl | (simp only [SZ]; done) | omega | (simp only [SZ] at *; omega)) only [↓PR, QR, Int.reduceBEq, Int.reduceBNe, Int.reduceLT, Int.reduceLE, Int.reduceGT, Int.reduceGE, Int.reduceNeg, ↓n_slices_Equal_api_Term_c1, ↓n_slices_Equal_api_Term_c2, hdec]
      refine drawK_intro ?_
      simp (disch := first | assumption | (simp only [ONE]; done) | rfl | (simp only [SZ]; done) | omega | (simp only [SZ] at *; omega)) only [↓PR, QR, Int.reduceBEq, Int.reduceBNe, Int.reduceLT, Int.reduceLE, Int.reduceGT, Int.reduceGE, Int.reduceNeg, ↓n_slices_Equal_api_Term_c1, ↓n_slices_Equal_api_Term_c2, hA.c2, hA'.c2]
      rw [eq_Term]
      by_cases hxy : x = y
      · subst hxy
        simp only [decide_true, Bool.not_true]
        simp (disch := first | assumption | (simp only [ONE]; done) | rfl | (simp only [SZ]; done) | omega | (simp only [SZ] at *; omega)) only [↓PR, QR, Int.reduceBEq, Int.reduceBNe, Int.reduceLT, Int.reduceLE, Int.reduceGT, Int.reduceGE, Int.reduceNeg, ↓n_slices_Equal_api_Term_c1, ↓n_slices_Equal_api_Term_c2]
        exact ⟨⟨k + 1, rfl, by omega, ee, by rw [List.take_add_one, List.take_add_one, hx, hy, hI]⟩, meas_lt hlt⟩
      · simp only [hxy, decide_false, Bool.not_false]
        simp (disch := first | assumption | (simp only [ONE]; done) | rfl | (simp only [SZ]; done) | omega | (simp only [SZ] at *; omega)) only [↓PR, QR, Int.reduceBEq, Int.reduceBNe, Int.reduceLT, Int.reduceLE, Int.reduceGT, Int.reduceGE, Int.reduceNeg, ↓n_slices_Equal_api_Term_c1, ↓n_slices_Equal_api_Term_c2]
        refine ⟨?_, eD⟩
        have hne' : ¬ l = m := by
          rintro rfl
          rw [hx] at hy
          injection hy with hy
          exact hxy hy
        simp [hne']
    · subst hk
      simp (disch := first | assumption | (simp only [ONE]; done) | rfl | (simp only [SZ]; done) | omega | (simp only [SZ] at *; omega)) only [↓PR, QR, Int.reduceBEq, Int.reduceBNe, Int.reduceLT, Int.reduceLE, Int.reduceGT, Int.reduceGE, Int.reduceNeg, ↓n_slices_Equal_api_Term_c1, ↓n_slices_Equal_api_Term_c2, hdec]
      rw [List.take_length, hlen, List.take_length] at hI
      exact ⟨by simp [hI], e⟩
  · have hne : ((l.length : Int) != (m.length : Int)) = true := by simp; omega
    simp (disch := first | assumption | (simp only [ONE]; done) | rfl | (simp only [SZ]; done) | omega | (simp only [SZ] at *; omega)) only [↓PR, QR, Int.reduceBEq, Int.reduceBNe, Int.reduceLT, Int.reduceLE, Int.reduceGT, Int.reduceGE, Int.reduceNeg, ↓n_slices_Equal_api_Term_c1, ↓n_slices_Equal_api_Term_c2, hne]
    have hne' : ¬ l = m := fun h => hlen (by rw [h])
    exact ⟨by simp [hne'], Ext.refl _⟩
theorem eq_Case (x y : CaseD) : (decide (x.low = y.low) && (decide (x.high = y.high) && decide (x.of = y.of))) = decide (x = y) := by
  cases x; cases y
  rw [Bool.eq_iff_iff]
  simp
theorem Equal_Case_ret (w0 : World) (v u : Value) (l m : List CaseD) (hl : CasesOf w0 v l) (hm : CasesOf w0 u m) :
    Ret Try.prog 69 #[v, u] w0 fun r w' => r = .bool (decide (l = m)) ∧ Ext w0 w' := by
  obtain ⟨A, c, rfl, hlc, hcm, hlm, hel⟩ := SliceOf.open hl
  obtain ⟨A', c', rfl, hlc', hcm', hlm', hel'⟩ := SliceOf.open hm
  refine n_slices_Equal_api_Case_sound (R := retR _) ?_; unfold n_slices_Equal_api_Case
  simp (disch := first | assumption | (simp only [ONE]; done) | rfl | (simp only [SZ]; done) | omega | (simp only [SZ] at *; omega)) only [↓PR, QR, Int.reduceBEq, Int.reduceBNe, Int.reduceLT, Int.reduceLE, Int.reduceGT, Int.reduceGE, Int.reduceNeg]
  by_cases hlen : l.length = m.length
  · have hne : ((l.length : Int) != (m.length : Int)) = false := by simp [hlen]
    simp (disch := first | assumption | (simp only [ONE]; done) | rfl | (simp only [SZ]; done) | omega | (simp only [SZ] at *; omega)) only [↓PR, QR, Int.reduceBEq, Int.reduceBNe, Int.reduceLT, Int.reduceLE, Int.reduceGT, Int.reduceGE, Int.reduceNeg, ↓n_slices_Equal_api_Case_c1, ↓n_slices_Equal_api_Case_c2, hne]
    refine loop1_intro (fun a0 w => ∃ (k : Nat) , a0 = .int .i64 (k : Int) ∧ k ≤ l.length ∧ Ext w0 w ∧ l.take k = m.take k) (fun a0 _ => l.length - (intOf a0).toNat) ⟨0, rfl, Nat.zero_le _, ee, rfl⟩ ?_
    rintro _ w ⟨k, rfl, hk, e, hI⟩
    have se := e.size
    rcases drop_cases hk with ⟨x, hx, hd, hlt, hdec⟩ | ⟨hk, hd, hdec⟩
    · obtain ⟨b, o, cs, rfl, _, hA, rfl⟩ := hel k x hx
      obtain ⟨y, hy⟩ := getElem?_lt (l := m) (k := k) (by omega)
      obtain ⟨b', o', cs', rfl, _, hA', rfl⟩ := hel' k y hy
      have hlt' : k < m.length := by omega
      have eD : Ext w0 w.drew := e.wdrew
      simp (disch := first | assumption | (simp only [ONE]; done) | rfl | (simp only [SZ]; done) | omega | (simp only [SZ] at *; omega)) only [↓PR, QR, Int.reduceBEq, Int.reduceBNe, Int.reduceLT, Int.reduceLE, Int.reduceGT, Int.reduceGE, Int.reduceNeg, ↓n_slices_Equal_api_Case_c1, ↓n_slices_Equal_api_Case_c2, hdec]
      refine drawK_intro ?_
      simp (disch := first | assumption | (simp only [ONE]; done) | rfl | (simp only [SZ]; done) | omega | (simp only [SZ] at *; omega)) only [↓PR, QR, Int.reduceBEq, Int.reduceBNe, Int.reduceLT, Int.reduceLE, Int.reduceGT, Int.reduceGE, Int.reduceNeg, ↓n_slices_Equal_api_Case_c1, ↓n_slices_Equal_api_Case_c2, hA.c3, hA'.c3]
      rw [eq_Case]
      by_cases hxy : x = y
      · subst hxy
        simp only [decide_true, Bool.not_true]
        simp (disch := first | assumption | (simp only [ONE]; done) | rfl | (simp only [SZ]; done) | omega | (simp only [SZ] at *; omega)) only [↓PR, QR, Int.reduceBEq, Int.reduceBNe, Int.reduceLT, Int.reduceLE, Int.reduceGT, Int.reduceGE, Int.reduceNeg, ↓n_slices_Equal_api_Case_c1, ↓n_slices_Equal_api_Case_c2]
        exact ⟨⟨k + 1, rfl, by omega, ee, by rw [List.take_add_one, List.take_add_one, hx, hy, hI]⟩, meas_lt hlt⟩
      · simp only [hxy, decide_false, Bool.not_false]
        simp (disch := first | assumption | (simp only [ONE]; done) | rfl | (simp only [SZ]; done) | omega | (simp only [SZ] at *; omega)) only [↓PR, QR, Int.reduceBEq, Int.reduceBNe, Int.reduceLT, Int.reduceLE, Int.reduceGT, Int.reduceGE, Int.reduceNeg, ↓n_slices_Equal_api_Case_c1, ↓n_slices_Equal_api_Case_c2]
        refine ⟨?_, eD⟩
        have hne' : ¬ l = m := by
          rintro rfl
          rw [hx] at hy
          injection hy with hy
          exact hxy hy
        simp [hne']
    · subst hk
      simp (disch := first | assumption | (simp only [ONE]; done) | rfl | (simp only [SZ]; done) | omega | (simp only [SZ] at *; omega)) only [↓PR, QR, Int.reduceBEq, Int.reduceBNe, Int.reduceLT, Int.reduceLE, Int.reduceGT, Int.reduceGE, Int.reduceNeg, ↓n_slices_Equal_api_Case_c1, ↓n_slices_Equal_api_Case_c2, hdec]
      rw [List.take_length, hlen, List.take_length] at hI
      exact ⟨by simp [hI], e⟩
  · have hne : ((l.length : Int) != (m.length : Int)) = true := by simp; omega
    simp (disch := first | assumption | (simp only [ONE]; done) | rfl | (simp only [SZ]; done) | omega | (simp only [SZ] at *; omega)) only [↓PR, QR, Int.reduceBEq, Int.reduceBNe, Int.reduceLT, Int.reduceLE, Int.reduceGT, Int.reduceGE, Int.reduceNeg, ↓n_slices_Equal_api_Case_c1, ↓n_slices_Equal_api_Case_c2, hne]
    have hne' : ¬ l = m := fun h => hlen (by rw [h])
    exact ⟨by simp [hne'], Ext.refl _⟩
abbrev partsVal (f : FieldD) : Value := .agg #[.string f.name, .string f.of, .string f.tag, .string f.fr, .int .i64 f.kind, .int .i64 f.bits, .int .i64 f.low, .int .i64 f.high, .int .i64 f.base, .int .i64 f.check, .int .i64 f.key, .bool f.little, .bool f.loose]
theorem parts_ret (w0 : World) (v : Value) (f : FieldD) (hf : FieldVal w0 v f) : Ret Try.prog 67 #[v] w0 fun r w' => r = partsVal f ∧ Ext w0 w' := by
  obtain ⟨tv, cv, rfl, hT, hC, ht1, hc1⟩ := hf.op
  refine n_schema_parts_sound (R := retR _) ?_; unfold n_schema_parts
  simp (disch := first | assumption | (simp only [ONE]; done) | rfl | (simp only [SZ]; done) | omega | (simp only [SZ] at *; omega)) only [↓PR, QR, Int.reduceBEq, Int.reduceBNe, Int.reduceLT, Int.reduceLE, Int.reduceGT, Int.reduceGE, Int.reduceNeg, Sw.joinK_eq]
  exact ⟨by first | trivial | rfl, ee⟩
theorem sameField_ret (w0 : World) (v u : Value) (f g : FieldD) (hf : FieldVal w0 v f) (hg : FieldVal w0 u g) : Ret Try.prog 56 #[v, u] w0 fun r w' => r = .bool (decide (f = g)) ∧ Ext w0 w' := by
  obtain ⟨tv, cv, rfl, hT, hC, ht1, hc1⟩ := hf.op
  obtain ⟨tv', cv', rfl, hT', hC', ht1', hc1'⟩ := hg.op
  refine n_schema_sameField_sound (R := retR _) ?_; unfold n_schema_sameField
  simp (disch := first | assumption | (simp only [ONE]; done) | rfl | (simp only [SZ]; done) | omega | (simp only [SZ] at *; omega)) only [↓PR, QR, Int.reduceBEq, Int.reduceBNe, Int.reduceLT, Int.reduceLE, Int.reduceGT, Int.reduceGE, Int.reduceNeg]
  generalize hW : World.alloc (World.alloc w0 _) _ = W
  have e0 : Ext w0 W := by rw [← hW]; exact ee
  have o3 : W.heap[w0.heap.size]? = some (.cells (fieldCells f tv cv).toArray 28 (0, 0)) := by rw [← hW]; simp (disch := first | assumption | (simp only [ONE]; done) | rfl | (simp only [SZ]; done) | omega | (simp only [SZ] at *; omega)) only [↓PR, QR, Int.reduceBEq, Int.reduceBNe, Int.reduceLT, Int.reduceLE, Int.reduceGT, Int.reduceGE, Int.reduceNeg]
  have o4 : W.heap[w0.heap.size + 1]? = some (.cells (fieldCells g tv' cv').toArray 28 (0, 0)) := by rw [← hW]; simp (disch := first | assumption | (simp only [ONE]; done) | rfl | (simp only [SZ]; done) | omega | (simp only [SZ] at *; omega)) only [↓PR, QR, Int.reduceBEq, Int.reduceBNe, Int.reduceLT, Int.reduceLE, Int.reduceGT, Int.reduceGE, Int.reduceNeg]
  clear hW
  simp only [World.size_alloc]
  refine drawK_intro ?_
  have eD : Ext w0 W.drew := e0.wdrew
  simp (disch := first | assumption | (simp only [ONE]; done) | rfl | (simp only [SZ]; done) | omega | (simp only [SZ] at *; omega)) only [↓PR, QR, Int.reduceBEq, Int.reduceBNe, Int.reduceLT, Int.reduceLE, Int.reduceGT, Int.reduceGE, Int.reduceNeg, ↓n_schema_sameField_c1, ↓n_schema_sameField_c2, ↓n_schema_sameField_c3, (cells_of_heap o3).1, (cells_of_heap o4).1]
  refine callK_ret (parts_ret _ _ f ⟨tv, cv, rfl, TermsOf.ext hT eD, CasesOf.ext hC eD⟩) ?_
  rintro _ w1 ⟨rfl, e1⟩
  refine ⟨e1, ?_⟩
  have eD1 := eD.trans e1
  refine callK_ret (parts_ret _ _ g ⟨tv', cv', rfl, TermsOf.ext hT' eD1, CasesOf.ext hC' eD1⟩) ?_
  rintro _ w2 ⟨rfl, e2⟩
  refine ⟨e1.trans e2, ?_⟩
  simp (disch := first | assumption | (simp only [ONE]; done) | rfl | (simp only [SZ]; done) | omega | (simp only [SZ] at *; omega)) only [↓PR, QR, Int.reduceBEq, Int.reduceBNe, Int.reduceLT, Int.reduceLE, Int.reduceGT, Int.reduceGE, Int.reduceNeg, ↓n_schema_sameField_c1, ↓n_schema_sameField_c2, ↓n_schema_sameField_c3, (cells_of_heap o3).1, (cells_of_heap o4).1]
  have eW2 : Ext W w2 := (Ext.refl W).wdrew.trans (e1.trans e2)
  generalize hb : (_ && _ : Bool) = b1
  cases b1 with
  | false =>
    simp (disch := first | assumption | (simp only [ONE]; done) | rfl | (simp only [SZ]; done) | omega | (simp only [SZ] at *; omega)) only [↓PR, QR, Int.reduceBEq, Int.reduceBNe, Int.reduceLT, Int.reduceLE, Int.reduceGT, Int.reduceGE, Int.reduceNeg, ↓n_schema_sameField_c1, ↓n_schema_sameField_c2, ↓n_schema_sameField_c3]
    refine ⟨?_, e0.trans eW2⟩
    have hne : ¬ f = g := by
      rintro rfl
      simp at hb
    simp [hne]
  | true =>
    have hbt := hb
    simp only [Bool.and_eq_true, decide_eq_true_eq] at hb
    obtain ⟨h1, h2, h3, h4, h5, h6, h7, h8, h9, h10, h11, h12, h13⟩ := hb
    simp (disch := first | assumption | (simp only [ONE]; done) | rfl | (simp only [SZ]; done) | omega | (simp only [SZ] at *; omega)) only [↓PR, QR, Int.reduceBEq, Int.reduceBNe, Int.reduceLT, Int.reduceLE, Int.reduceGT, Int.reduceGE, Int.reduceNeg, ↓n_schema_sameField_c1, ↓n_schema_sameField_c2, ↓n_schema_sameField_c3, (cells_of_heap o3).1, (cells_of_heap o4).1]
    refine callK_ret (Equal_Term_ret _ _ _ _ _ (TermsOf.ext hT (e0.trans eW2)) (TermsOf.ext hT' (e0.trans eW2))) ?_
    rintro _ w3 ⟨rfl, e3⟩
    refine ⟨(e1.trans e2).trans e3, ?_⟩
    have eW3 := eW2.trans e3
    by_cases ht : f.terms = g.terms
    · simp only [ht, decide_true]
      simp (disch := first | assumption | (simp only [ONE]; done) | rfl | (simp only [SZ]; done) | omega | (simp only [SZ] at *; omega)) only [↓PR, QR, Int.reduceBEq, Int.reduceBNe, Int.reduceLT, Int.reduceLE, Int.reduceGT, Int.reduceGE, Int.reduceNeg, ↓n_schema_sameField_c1, ↓n_schema_sameField_c2, ↓n_schema_sameField_c3, hbt, (cells_of_heap o3).1, (cells_of_heap o4).1]
      refine callK_ret (Equal_Case_ret _ _ _ _ _ (CasesOf.ext hC (e0.trans eW3)) (CasesOf.ext hC' (e0.trans eW3))) ?_
      rintro _ w4 ⟨rfl, e4⟩
      refine ⟨((e1.trans e2).trans e3).trans e4, ?_⟩
      simp (disch := first | assumption | (simp only [ONE]; done) | rfl | (simp only [SZ]; done) | omega | (simp only [SZ] at *; omega)) only [↓PR, QR, Int.reduceBEq, Int.reduceBNe, Int.reduceLT, Int.reduceLE, Int.reduceGT, Int.reduceGE, Int.reduceNeg, ↓n_schema_sameField_c1, ↓n_schema_sameField_c2, ↓n_schema_sameField_c3]
      refine ⟨?_, e0.trans (eW3.trans e4)⟩
      congr 1
      rw [Bool.eq_iff_iff]
      simp only [decide_eq_true_eq]
      constructor
      · intro hc; cases f; cases g; simp_all
      · rintro rfl; rfl
    · simp only [ht, decide_false]
      simp (disch := first | assumption | (simp only [ONE]; done) | rfl | (simp only [SZ]; done) | omega | (simp only [SZ] at *; omega)) only [↓PR, QR, Int.reduceBEq, Int.reduceBNe, Int.reduceLT, Int.reduceLE, Int.reduceGT, Int.reduceGE, Int.reduceNeg, ↓n_schema_sameField_c1, ↓n_schema_sameField_c2, ↓n_schema_sameField_c3, hbt]
      refine ⟨?_, e0.trans eW3⟩
      have hne : ¬ f = g := by rintro rfl; exact ht rfl
      simp [hne]
end Go.Proofs.Ytiajhbbmgglmlaa
namespace Go.Proofs.Ytiajhbbmgglmlaa
open Sw
open Go.RowKit (intOf Below)
set_option maxRecDepth 100000
def Clears (g : FuncId) (cl : FieldD → FieldD) (ct cc : Bool) : Prop := ∀ (w : World) (p : Nat) (f : FieldD) (tv cv : Value), tv.oneCell' = true → cv.oneCell' = true → w.heap[p]? = some (.cells (fieldCells f tv cv).toArray 28 (0, 0)) →
  Ret Try.prog g #[.pointer (some ⟨p, 0, none⟩)] w fun _ w' => w'.heap[p]? = some (.cells (fieldCells (cl f) (if ct then .slice none 0 0 else tv) (if cc then .slice none 0 0 else cv)).toArray 28 (0, 0)) ∧ ∀ a, Ext a w → a.heap.size ≤ p → Ext a w'
def clear1 (f : FieldD) : FieldD := { f with bits := 0, little := false, low := 0, high := 0 }
theorem clears1 : Clears 81 clear1 false false := by
  intro w p f tv cv ht1 hc1 hp
  have hlt := (Array.getElem?_eq_some_iff.1 hp).1
  refine n_schema_kinds_1_sound (R := retR _) ?_; unfold n_schema_kinds_1
  simp (disch := first | assumption | (simp only [ONE]; done) | rfl | (simp only [SZ]; done) | omega | (simp only [SZ] at *; omega)) only [↓PR, QR, Int.reduceBEq, Int.reduceBNe, Int.reduceLT, Int.reduceLE, Int.reduceGT, Int.reduceGE, Int.reduceNeg, Sw.joinK_eq, (cells_of_heap hp).1, (cells_of_heap hp).2]
  refine ⟨?_, fun a e hp' => ?_⟩
  · simp only [heap_set_map, hp, Option.map_some, setObj_cells, List.setIfInBounds_toArray, List.set_cons_zero, List.set_cons_succ, Bool.false_eq_true, if_false, if_true]
    try rfl
  · exact ee
def clear2 (f : FieldD) : FieldD := { f with bits := 0, little := false, low := 0 }
theorem clears2 : Clears 85 clear2 false false := by
  intro w p f tv cv ht1 hc1 hp
  have hlt := (Array.getElem?_eq_some_iff.1 hp).1
  refine n_schema_kinds_3_sound (R := retR _) ?_; unfold n_schema_kinds_3
  simp (disch := first | assumption | (simp only [ONE]; done) | rfl | (simp only [SZ]; done) | omega | (simp only [SZ] at *; omega)) only [↓PR, QR, Int.reduceBEq, Int.reduceBNe, Int.reduceLT, Int.reduceLE, Int.reduceGT, Int.reduceGE, Int.reduceNeg, Sw.joinK_eq, (cells_of_heap hp).1, (cells_of_heap hp).2]
  refine ⟨?_, fun a e hp' => ?_⟩
  · simp only [heap_set_map, hp, Option.map_some, setObj_cells, List.setIfInBounds_toArray, List.set_cons_zero, List.set_cons_succ, Bool.false_eq_true, if_false, if_true]
    try rfl
  · exact ee
def clear3 (f : FieldD) : FieldD := { f with loose := false, low := 0, high := 0 }
theorem clears3 : Clears 87 clear3 false false := by
  intro w p f tv cv ht1 hc1 hp
  have hlt := (Array.getElem?_eq_some_iff.1 hp).1
  refine n_schema_kinds_5_sound (R := retR _) ?_; unfold n_schema_kinds_5
  simp (disch := first | assumption | (simp only [ONE]; done) | rfl | (simp only [SZ]; done) | omega | (simp only [SZ] at *; omega)) only [↓PR, QR, Int.reduceBEq, Int.reduceBNe, Int.reduceLT, Int.reduceLE, Int.reduceGT, Int.reduceGE, Int.reduceNeg, Sw.joinK_eq, (cells_of_heap hp).1, (cells_of_heap hp).2]
  refine ⟨?_, fun a e hp' => ?_⟩
  · simp only [heap_set_map, hp, Option.map_some, setObj_cells, List.setIfInBounds_toArray, List.set_cons_zero, List.set_cons_succ, Bool.false_eq_true, if_false, if_true]
    try rfl
  · exact ee
def clear4 (f : FieldD) : FieldD := { f with base := 0, terms := [] }
theorem clears4 : Clears 89 clear4 true false := by
  intro w p f tv cv ht1 hc1 hp
  have hlt := (Array.getElem?_eq_some_iff.1 hp).1
  refine n_schema_kinds_7_sound (R := retR _) ?_; unfold n_schema_kinds_7
  simp (disch := first | assumption | (simp only [ONE]; done) | rfl | (simp only [SZ]; done) | omega | (simp only [SZ] at *; omega)) only [↓PR, QR, Int.reduceBEq, Int.reduceBNe, Int.reduceLT, Int.reduceLE, Int.reduceGT, Int.reduceGE, Int.reduceNeg, Sw.joinK_eq, (cells_of_heap hp).1, (cells_of_heap hp).2]
  refine ⟨?_, fun a e hp' => ?_⟩
  · simp only [heap_set_map, hp, Option.map_some, setObj_cells, List.setIfInBounds_toArray, List.set_cons_zero, List.set_cons_succ, Bool.false_eq_true, if_false, if_true]
    try rfl
  · exact ee
def clear5 (f : FieldD) : FieldD := { f with low := 0, high := 0 }
theorem clears5 : Clears 91 clear5 false false := by
  intro w p f tv cv ht1 hc1 hp
  have hlt := (Array.getElem?_eq_some_iff.1 hp).1
  refine n_schema_kinds_8_sound (R := retR _) ?_; unfold n_schema_kinds_8
  simp (disch := first | assumption | (simp only [ONE]; done) | rfl | (simp only [SZ]; done) | omega | (simp only [SZ] at *; omega)) only [↓PR, QR, Int.reduceBEq, Int.reduceBNe, Int.reduceLT, Int.reduceLE, Int.reduceGT, Int.reduceGE, Int.reduceNeg, Sw.joinK_eq, (cells_of_heap hp).1, (cells_of_heap hp).2]
  refine ⟨?_, fun a e hp' => ?_⟩
  · simp only [heap_set_map, hp, Option.map_some, setObj_cells, List.setIfInBounds_toArray, List.set_cons_zero, List.set_cons_succ, Bool.false_eq_true, if_false, if_true]
    try rfl
  · exact ee
def clear6 (f : FieldD) : FieldD := { f with loose := false, high := 0 }
theorem clears6 : Clears 93 clear6 false false := by
  intro w p f tv cv ht1 hc1 hp
  have hlt := (Array.getElem?_eq_some_iff.1 hp).1
  refine n_schema_kinds_10_sound (R := retR _) ?_; unfold n_schema_kinds_10
  simp (disch := first | assumption | (simp only [ONE]; done) | rfl | (simp only [SZ]; done) | omega | (simp only [SZ] at *; omega)) only [↓PR, QR, Int.reduceBEq, Int.reduceBNe, Int.reduceLT, Int.reduceLE, Int.reduceGT, Int.reduceGE, Int.reduceNeg, Sw.joinK_eq, (cells_of_heap hp).1, (cells_of_heap hp).2]
  refine ⟨?_, fun a e hp' => ?_⟩
  · simp only [heap_set_map, hp, Option.map_some, setObj_cells, List.setIfInBounds_toArray, List.set_cons_zero, List.set_cons_succ, Bool.false_eq_true, if_false, if_true]
    try rfl
  · exact ee
def clear7 (f : FieldD) : FieldD := { f with of := ByteArray.empty, base := 0, terms := [] }
theorem clears7 : Clears 95 clear7 true false := by
  intro w p f tv cv ht1 hc1 hp
  have hlt := (Array.getElem?_eq_some_iff.1 hp).1
  refine n_schema_kinds_12_sound (R := retR _) ?_; unfold n_schema_kinds_12
  simp (disch := first | assumption | (simp only [ONE]; done) | rfl | (simp only [SZ]; done) | omega | (simp only [SZ] at *; omega)) only [↓PR, QR, Int.reduceBEq, Int.reduceBNe, Int.reduceLT, Int.reduceLE, Int.reduceGT, Int.reduceGE, Int.reduceNeg, Sw.joinK_eq, (cells_of_heap hp).1, (cells_of_heap hp).2]
  refine ⟨?_, fun a e hp' => ?_⟩
  · simp only [heap_set_map, hp, Option.map_some, setObj_cells, List.setIfInBounds_toArray, List.set_cons_zero, List.set_cons_succ, Bool.false_eq_true, if_false, if_true]
    try rfl
  · exact ee
def clear8 (f : FieldD) : FieldD := { f with of := ByteArray.empty }
theorem clears8 : Clears 98 clear8 false false := by
  intro w p f tv cv ht1 hc1 hp
  have hlt := (Array.getElem?_eq_some_iff.1 hp).1
  refine n_schema_kinds_14_sound (R := retR _) ?_; unfold n_schema_kinds_14
  simp (disch := first | assumption | (simp only [ONE]; done) | rfl | (simp only [SZ]; done) | omega | (simp only [SZ] at *; omega)) only [↓PR, QR, Int.reduceBEq, Int.reduceBNe, Int.reduceLT, Int.reduceLE, Int.reduceGT, Int.reduceGE, Int.reduceNeg, Sw.joinK_eq, (cells_of_heap hp).1, (cells_of_heap hp).2]
  refine ⟨?_, fun a e hp' => ?_⟩
  · simp only [heap_set_map, hp, Option.map_some, setObj_cells, List.setIfInBounds_toArray, List.set_cons_zero, List.set_cons_succ, Bool.false_eq_true, if_false, if_true]
    try rfl
  · exact ee
def clear9 (f : FieldD) : FieldD := { f with tag := ByteArray.empty, cases := [] }
theorem clears9 : Clears 100 clear9 false true := by
  intro w p f tv cv ht1 hc1 hp
  have hlt := (Array.getElem?_eq_some_iff.1 hp).1
  refine n_schema_kinds_16_sound (R := retR _) ?_; unfold n_schema_kinds_16
  simp (disch := first | assumption | (simp only [ONE]; done) | rfl | (simp only [SZ]; done) | omega | (simp only [SZ] at *; omega)) only [↓PR, QR, Int.reduceBEq, Int.reduceBNe, Int.reduceLT, Int.reduceLE, Int.reduceGT, Int.reduceGE, Int.reduceNeg, Sw.joinK_eq, (cells_of_heap hp).1, (cells_of_heap hp).2]
  refine ⟨?_, fun a e hp' => ?_⟩
  · simp only [heap_set_map, hp, Option.map_some, setObj_cells, List.setIfInBounds_toArray, List.set_cons_zero, List.set_cons_succ, Bool.false_eq_true, if_false, if_true]
    try rfl
  · exact ee
def clear10 (f : FieldD) : FieldD := { f with bits := 0 }
theorem clears10 : Clears 102 clear10 false false := by
  intro w p f tv cv ht1 hc1 hp
  have hlt := (Array.getElem?_eq_some_iff.1 hp).1
  refine n_schema_kinds_17_sound (R := retR _) ?_; unfold n_schema_kinds_17
  simp (disch := first | assumption | (simp only [ONE]; done) | rfl | (simp only [SZ]; done) | omega | (simp only [SZ] at *; omega)) only [↓PR, QR, Int.reduceBEq, Int.reduceBNe, Int.reduceLT, Int.reduceLE, Int.reduceGT, Int.reduceGE, Int.reduceNeg, Sw.joinK_eq, (cells_of_heap hp).1, (cells_of_heap hp).2]
  refine ⟨?_, fun a e hp' => ?_⟩
  · simp only [heap_set_map, hp, Option.map_some, setObj_cells, List.setIfInBounds_toArray, List.set_cons_zero, List.set_cons_succ, Bool.false_eq_true, if_false, if_true]
    try rfl
  · exact ee
def clear11 (f : FieldD) : FieldD := { f with fr := ByteArray.empty, check := 0 }
theorem clears11 : Clears 104 clear11 false false := by
  intro w p f tv cv ht1 hc1 hp
  have hlt := (Array.getElem?_eq_some_iff.1 hp).1
  refine n_schema_kinds_19_sound (R := retR _) ?_; unfold n_schema_kinds_19
  simp (disch := first | assumption | (simp only [ONE]; done) | rfl | (simp only [SZ]; done) | omega | (simp only [SZ] at *; omega)) only [↓PR, QR, Int.reduceBEq, Int.reduceBNe, Int.reduceLT, Int.reduceLE, Int.reduceGT, Int.reduceGE, Int.reduceNeg, Sw.joinK_eq, (cells_of_heap hp).1, (cells_of_heap hp).2]
  refine ⟨?_, fun a e hp' => ?_⟩
  · simp only [heap_set_map, hp, Option.map_some, setObj_cells, List.setIfInBounds_toArray, List.set_cons_zero, List.set_cons_succ, Bool.false_eq_true, if_false, if_true]
    try rfl
  · exact ee
def clear12 (f : FieldD) : FieldD := { f with of := ByteArray.empty, base := 0, terms := [], key := 0 }
theorem clears12 : Clears 106 clear12 true false := by
  intro w p f tv cv ht1 hc1 hp
  have hlt := (Array.getElem?_eq_some_iff.1 hp).1
  refine n_schema_kinds_21_sound (R := retR _) ?_; unfold n_schema_kinds_21
  simp (disch := first | assumption | (simp only [ONE]; done) | rfl | (simp only [SZ]; done) | omega | (simp only [SZ] at *; omega)) only [↓PR, QR, Int.reduceBEq, Int.reduceBNe, Int.reduceLT, Int.reduceLE, Int.reduceGT, Int.reduceGE, Int.reduceNeg, Sw.joinK_eq, (cells_of_heap hp).1, (cells_of_heap hp).2]
  refine ⟨?_, fun a e hp' => ?_⟩
  · simp only [heap_set_map, hp, Option.map_some, setObj_cells, List.setIfInBounds_toArray, List.set_cons_zero, List.set_cons_succ, Bool.false_eq_true, if_false, if_true]
    try rfl
  · exact ee
abbrev kindEnc : Int → Value := fun n => .int .i64 n
def KindsIn (L : List (Int × Value × Nat)) : Prop := (∀ k, ¬ (1 ≤ k ∧ k ≤ 12) → Sw.look L k = none) ∧ Sw.look L 1 = some (.agg #[.func (.func 81) #[] #[], .func (.func 82) #[] #[]]) ∧ Sw.look L 2 = some (.agg #[.func (.func 85) #[] #[], .func (.func 86) #[] #[]]) ∧ Sw.look L 3 = some (.agg #[.func (.func 87) #[] #[], .func (.func 88) #[] #[]]) ∧ Sw.look L 4 = some (.agg #[.func (.func 89) #[] #[], .func (.func 90) #[] #[]]) ∧ Sw.look L 5 = some (.agg #[.func (.func 91) #[] #[], .func (.func 92) #[] #[]]) ∧ Sw.look L 6 = some (.agg #[.func (.func 93) #[] #[], .func (.func 94) #[] #[]]) ∧ Sw.look L 7 = some (.agg #[.func (.func 95) #[] #[], .func (.func 96) #[] #[]]) ∧ Sw.look L 8 = some (.agg #[.func (.func 98) #[] #[], .func (.func 99) #[] #[]]) ∧ Sw.look L 9 = some (.agg #[.func (.func 100) #[] #[], .func (.func 101) #[] #[]]) ∧ Sw.look L 10 = some (.agg #[.func (.func 102) #[] #[], .func (.func 103) #[] #[]]) ∧ Sw.look L 11 = some (.agg #[.func (.func 104) #[] #[], .func (.func 105) #[] #[]]) ∧ Sw.look L 12 = some (.agg #[.func (.func 106) #[] #[], .func (.func 107) #[] #[]])
theorem kind_step {w0 w : World} {m c : Nat} {L : List (Int × Value × Nat)} {QP : List PanicEntry → World → Prop} {ku : World → Prop} (hM : MapB w m kindEnc L c) (e : Ext w0 w) (hm : w0.heap.size ≤ m) (k : Int) (v : Value)
    (h : ∀ w' L' c', MapB w' m kindEnc L' c' → (∀ k', Sw.look L' k' = if k' = k then some v else Sw.look L k') → Ext w0 w' → ku w') : opU Try.prog (Instr.mapUpdate 132 (.map (some m)) (.int .i64 k) v) QP w ku := by
  rw [op_mapUpdate Try.underlying132 (KeyOK.int Try.underlying22) hM k v]
  exact h _ _ _ (hM.put k v) (fun k' => look_put _ _ _ _ _) (e.putObj hm _)
theorem kinds_ret (w0 : World) : Ret Try.prog 79 #[] w0 fun r w' => ∃ m L c, r = .map (some m) ∧ w0.heap.size ≤ m ∧ MapB w' m kindEnc L c ∧ KindsIn L ∧ Ext w0 w' := by
  refine n_schema_kinds_sound (R := retR _) ?_; unfold n_schema_kinds
  simp (disch := first | assumption | (simp only [ONE]; done) | rfl | (simp only [SZ]; done) | omega | (simp only [SZ] at *; omega)) only [↓PR, QR, Int.reduceBEq, Int.reduceBNe, Int.reduceLT, Int.reduceLE, Int.reduceGT, Int.reduceGE, Int.reduceNeg]
  have hM0 : MapB (w0.alloc (.map #[] 0)) w0.heap.size kindEnc [] 0 := MapB.new w0 _
  have e0 : Ext w0 (w0.alloc (.map #[] 0)) := ee
  refine kind_step hM0 e0 (Nat.le_refl _) 1 _ (fun w1 L1 c1 hM1 hl1 e1 => ?_)
  simp (disch := first | assumption | (simp only [ONE]; done) | rfl | (simp only [SZ]; done) | omega | (simp only [SZ] at *; omega)) only [↓PR, QR, Int.reduceBEq, Int.reduceBNe, Int.reduceLT, Int.reduceLE, Int.reduceGT, Int.reduceGE, Int.reduceNeg]
  refine kind_step hM1 e1 (Nat.le_refl _) 2 _ (fun w2 L2 c2 hM2 hl2 e2 => ?_)
  simp (disch := first | assumption | (simp only [ONE]; done) | rfl | (simp only [SZ]; done) | omega | (simp only [SZ] at *; omega)) only [↓PR, QR, Int.reduceBEq, Int.reduceBNe, Int.reduceLT, Int.reduceLE, Int.reduceGT, Int.reduceGE, Int.reduceNeg]
  refine kind_step hM2 e2 (Nat.le_refl _) 3 _ (fun w3 L3 c3 hM3 hl3 e3 => ?_)
  simp (disch := first | assumption | (simp only [ONE]; done) | rfl | (simp only [SZ]; done) | omega | (simp only [SZ] at *; omega)) only [↓PR, QR, Int.reduceBEq, Int.reduceBNe, Int.reduceLT, Int.reduceLE, Int.reduceGT, Int.reduceGE, Int.reduceNeg]
  refine kind_step hM3 e3 (Nat.le_refl _) 4 _ (fun w4 L4 c4 hM4 hl4 e4 => ?_)
  simp (disch := first | assumption | (simp only [ONE]; done) | rfl | (simp only [SZ]; done) | omega | (simp only [SZ] at *; omega)) only [↓PR, QR, Int.reduceBEq, Int.reduceBNe, Int.reduceLT, Int.reduceLE, Int.reduceGT, Int.reduceGE, Int.reduceNeg]
  refine kind_step hM4 e4 (Nat.le_refl _) 5 _ (fun w5 L5 c5 hM5 hl5 e5 => ?_)
  simp (disch := first | assumption | (simp only [ONE]; done) | rfl | (simp only [SZ]; done) | omega | (simp only [SZ] at *; omega)) only [↓PR, QR, Int.reduceBEq, Int.reduceBNe, Int.reduceLT, Int.reduceLE, Int.reduceGT, Int.reduceGE, Int.reduceNeg]
  refine kind_step hM5 e5 (Nat.le_refl _) 6 _ (fun w6 L6 c6 hM6 hl6 e6 => ?_)
  simp (disch := first | assumption | (simp only [ONE]; done) | rfl | (simp only [SZ]; done) | omega | (simp only [SZ] at *; omega)) only [↓PR, QR, Int.reduceBEq, Int.reduceBNe, Int.reduceLT, Int.reduceLE, Int.reduceGT, Int.reduceGE, Int.reduceNeg]
  refine kind_step hM6 e6 (Nat.le_refl _) 7 _ (fun w7 L7 c7 hM7 hl7 e7 => ?_)
  simp (disch := first | assumption | (simp only [ONE]; done) | rfl | (simp only [SZ]; done) | omega | (simp only [SZ] at *; omega)) only [↓PR, QR, Int.reduceBEq, Int.reduceBNe, Int.reduceLT, Int.reduceLE, Int.reduceGT, Int.reduceGE, Int.reduceNeg]
  refine kind_step hM7 e7 (Nat.le_refl _) 8 _ (fun w8 L8 c8 hM8 hl8 e8 => ?_)
  simp (disch := first | assumption | (simp only [ONE]; done) | rfl | (simp only [SZ]; done) | omega | (simp only [SZ] at *; omega)) only [↓PR, QR, Int.reduceBEq, Int.reduceBNe, Int.reduceLT, Int.reduceLE, Int.reduceGT, Int.reduceGE, Int.reduceNeg]
  refine kind_step hM8 e8 (Nat.le_refl _) 9 _ (fun w9 L9 c9 hM9 hl9 e9 => ?_)
  simp (disch := first | assumption | (simp only [ONE]; done) | rfl | (simp only [SZ]; done) | omega | (simp only [SZ] at *; omega)) only [↓PR, QR, Int.reduceBEq, Int.reduceBNe, Int.reduceLT, Int.reduceLE, Int.reduceGT, Int.reduceGE, Int.reduceNeg]
  refine kind_step hM9 e9 (Nat.le_refl _) 10 _ (fun w10 L10 c10 hM10 hl10 e10 => ?_)
  simp (disch := first | assumption | (simp only [ONE]; done) | rfl | (simp only [SZ]; done) | omega | (simp only [SZ] at *; omega)) only [↓PR, QR, Int.reduceBEq, Int.reduceBNe, Int.reduceLT, Int.reduceLE, Int.reduceGT, Int.reduceGE, Int.reduceNeg]
  refine kind_step hM10 e10 (Nat.le_refl _) 11 _ (fun w11 L11 c11 hM11 hl11 e11 => ?_)
  simp (disch := first | assumption | (simp only [ONE]; done) | rfl | (simp only [SZ]; done) | omega | (simp only [SZ] at *; omega)) only [↓PR, QR, Int.reduceBEq, Int.reduceBNe, Int.reduceLT, Int.reduceLE, Int.reduceGT, Int.reduceGE, Int.reduceNeg]
  refine kind_step hM11 e11 (Nat.le_refl _) 12 _ (fun w12 L12 c12 hM12 hl12 e12 => ?_)
  simp (disch := first | assumption | (simp only [ONE]; done) | rfl | (simp only [SZ]; done) | omega | (simp only [SZ] at *; omega)) only [↓PR, QR, Int.reduceBEq, Int.reduceBNe, Int.reduceLT, Int.reduceLE, Int.reduceGT, Int.reduceGE, Int.reduceNeg]
  have hn : ∀ k, Sw.look ([] : List (Int × Value × Nat)) k = none := fun _ => rfl
  refine ⟨_, _, _, rfl, Nat.le_refl _, hM12, ⟨fun k hk => ?_, ?_, ?_, ?_, ?_, ?_, ?_, ?_, ?_, ?_, ?_, ?_, ?_⟩, e12⟩
  · rw [hl12, if_neg (by omega), hl11, if_neg (by omega), hl10, if_neg (by omega), hl9, if_neg (by omega), hl8, if_neg (by omega), hl7, if_neg (by omega), hl6, if_neg (by omega), hl5, if_neg (by omega), hl4, if_neg (by omega), hl3, if_neg (by omega), hl2, if_neg (by omega), hl1, if_neg (by omega), hn]
  · rw [hl12, if_neg (by decide), hl11, if_neg (by decide), hl10, if_neg (by decide), hl9, if_neg (by decide), hl8, if_neg (by decide), hl7, if_neg (by decide), hl6, if_neg (by decide), hl5, if_neg (by decide), hl4, if_neg (by decide), hl3, if_neg (by decide), hl2, if_neg (by decide), hl1, if_pos rfl]
  · rw [hl12, if_neg (by decide), hl11, if_neg (by decide), hl10, if_neg (by decide), hl9, if_neg (by decide), hl8, if_neg (by decide), hl7, if_neg (by decide), hl6, if_neg (by decide), hl5, if_neg (by decide), hl4, if_neg (by decide), hl3, if_neg (by decide), hl2, if_pos rfl]
  · rw [hl12, if_neg (by decide), hl11, if_neg (by decide), hl10, if_neg (by decide), hl9, if_neg (by decide), hl8, if_neg (by decide), hl7, if_neg (by decide), hl6, if_neg (by decide), hl5, if_neg (by decide), hl4, if_neg (by decide), hl3, if_pos rfl]
  · rw [hl12, if_neg (by decide), hl11, if_neg (by decide), hl10, if_neg (by decide), hl9, if_neg (by decide), hl8, if_neg (by decide), hl7, if_neg (by decide), hl6, if_neg (by decide), hl5, if_neg (by decide), hl4, if_pos rfl]
  · rw [hl12, if_neg (by decide), hl11, if_neg (by decide), hl10, if_neg (by decide), hl9, if_neg (by decide), hl8, if_neg (by decide), hl7, if_neg (by decide), hl6, if_neg (by decide), hl5, if_pos rfl]
  · rw [hl12, if_neg (by decide), hl11, if_neg (by decide), hl10, if_neg (by decide), hl9, if_neg (by decide), hl8, if_neg (by decide), hl7, if_neg (by decide), hl6, if_pos rfl]
  · rw [hl12, if_neg (by decide), hl11, if_neg (by decide), hl10, if_neg (by decide), hl9, if_neg (by decide), hl8, if_neg (by decide), hl7, if_pos rfl]
  · rw [hl12, if_neg (by decide), hl11, if_neg (by decide), hl10, if_neg (by decide), hl9, if_neg (by decide), hl8, if_pos rfl]
  · rw [hl12, if_neg (by decide), hl11, if_neg (by decide), hl10, if_neg (by decide), hl9, if_pos rfl]
  · rw [hl12, if_neg (by decide), hl11, if_neg (by decide), hl10, if_pos rfl]
  · rw [hl12, if_neg (by decide), hl11, if_pos rfl]
  · rw [hl12, if_pos rfl]
def bareF (f : FieldD) : FieldD := { name := f.name, kind := f.kind, bits := 0, little := false, loose := false, low := 0, high := 0, base := 0, terms := [], of := ByteArray.empty, tag := ByteArray.empty, fr := ByteArray.empty, cases := [], check := 0, key := 0 }
section
variable {w0 : World} {cb md ms : Nat} {deps strs : List (ByteArray × Value)} {at_ fld : Int} {fs : List FieldD}
theorem exa_tail {a0 : World} (e00 : Ext a0 w0) (h : Chk w0 cb md ms deps strs at_ fld fs) (p3 p6 : Nat) (f : FieldD) (tv cv : Value) (hT : TermsOf w0 tv f.terms) (hC : CasesOf w0 cv f.cases) (o3 : w0.heap[p3]? = some (.cells (fieldCells f tv cv).toArray 28 (0, 0)))
    (g1 g2 : FuncId) (o6 : w0.heap[p6]? = some (.cells #[.func (.func g1) #[] #[], .func (.func g2) #[] #[]] 130 (0, 0))) (hc1 : Callable Try.prog g1) (hc2 : Callable Try.prog g2) (cl : FieldD → FieldD) (ct cc : Bool) (hcl : Clears g1 cl ct cc)
    (hterms : (cl f).terms = if ct then [] else f.terms) (hcases : (cl f).cases = if cc then [] else f.cases) (code : Int)
    (hchk : ∀ w v, Chk w cb md ms deps strs at_ fld fs → FieldVal w v f → Calls Try.prog g2 #[.pointer (some ⟨cb, 0, none⟩), v] w (flwR w at_ fld code)) :
    n_schema_checker_examine_c3 (.pointer (some ⟨cb, 0, none⟩)) (.pointer (some ⟨p3, 0, none⟩)) (.pointer (some ⟨p6, 0, none⟩)) (flwR a0 at_ fld (orC (needC (decide (cl f = bareF f)) 5) code)) w0 := by
  have ht1 := SliceOf.oneCell hT
  have hv1 := SliceOf.oneCell hC
  have l6 : p6 < w0.heap.size := (Array.getElem?_eq_some_iff.1 o6).1
  unfold n_schema_checker_examine_c3
  simp (disch := first | assumption | (simp only [ONE]; done) | rfl | (simp only [SZ]; done) | omega | (simp only [SZ] at *; omega)) only [↓PR, QR, Int.reduceBEq, Int.reduceBNe, Int.reduceLT, Int.reduceLE, Int.reduceGT, Int.reduceGE, Int.reduceNeg, (cells_of_heap o3).1, (cells_of_heap o6).1]
  have e1 : Ext w0 (w0.alloc (Obj.cells (fieldCells f tv cv).toArray 28)) := ee
  have o7 := heap_new w0 (fieldCells f tv cv).toArray 28
  rw [callV_func hc1]
  simp only [Array.empty_append, Array.append_empty]
  refine callK_ret (hcl _ w0.heap.size f tv cv ht1 hv1 o7) ?_
  rintro r w2 ⟨o7', hE⟩
  have e2 := hE w0 e1 (Nat.le_refl _)
  clear hE o7 e1
  have hT2 : TermsOf w2 (if ct then .slice none 0 0 else tv) (cl f).terms := by
    rw [hterms]
    cases ct
    · exact TermsOf.ext hT e2
    · exact SliceOf.nil _ _ _
  have hC2 : CasesOf w2 (if cc then .slice none 0 0 else cv) (cl f).cases := by
    rw [hcases]
    cases cc
    · exact CasesOf.ext hC e2
    · exact SliceOf.nil _ _ _
  generalize (if ct = true then Value.slice none 0 0 else tv) = tv2 at o7' hT2
  generalize (if cc = true then Value.slice none 0 0 else cv) = cv2 at o7' hC2
  generalize cl f = g at o7' hT2 hC2 ⊢
  have o3' := e2.obj o3
  clear hterms hcases hcl
  unfold n_schema_checker_examine_c2
  have hL : Loads Try.prog w2 28 ⟨w0.heap.size, 0, none⟩ (.agg (fieldCells g tv2 cv2).toArray) := Loads.many ty28 rfl (fun j v hv => by rw [Addr.add_lit, (cells_of_heap o7').1]; simpa using hv)
  rw [op_load hL]
  simp (disch := first | assumption | (simp only [ONE]; done) | rfl | (simp only [SZ]; done) | omega | (simp only [SZ] at *; omega)) only [↓PR, QR, Int.reduceBEq, Int.reduceBNe, Int.reduceLT, Int.reduceLE, Int.reduceGT, Int.reduceGE, Int.reduceNeg, (cells_of_heap o3').1]
  refine callK_ret (sameField_ret w2 _ _ g (bareF f) ⟨_, _, rfl, hT2, hC2⟩ ⟨.slice none 0 0, .slice none 0 0, rfl, SliceOf.nil _ _ _, SliceOf.nil _ _ _⟩) ?_
  rintro _ w3 ⟨rfl, e3⟩
  have e23 := e2.trans e3
  refine callK_flw (need_flw (h.ext e23) _ 5 (by decide)) (fun w4 e4 h0 => ?_) (fun w4 e4 h0 => ?_)
  · rw [h0, orC_zero]
    have e24 := e23.trans e4
    simp (disch := first | assumption | (simp only [ONE]; done) | rfl | (simp only [SZ]; done) | omega | (simp only [SZ] at *; omega)) only [↓PR, QR, Int.reduceBEq, Int.reduceBNe, Int.reduceLT, Int.reduceLE, Int.reduceGT, Int.reduceGE, Int.reduceNeg, ↓n_schema_checker_examine_c1, (cells_of_heap (e24.obj o6)).1, (cells_of_heap (e24.obj o3)).1]
    rw [callV_func hc2]
    simp only [Array.empty_append, Array.append_empty]
    refine callK_flw (hchk w4 _ (h.ext e24) ⟨tv, cv, rfl, TermsOf.ext hT e24, CasesOf.ext hC e24⟩) (fun w5 e5 h0 => ?_) (fun w5 e5 h0 => ?_)
    · exact flwR_ret (e00.trans (e24.trans e5)) h0
    · exact flwR_pan (e00.trans (e24.trans e5)) rfl h0
  · rw [orC_ne h0]
    exact flwR_pan (e00.trans (e23.trans e4)) rfl h0
end
def checkC (bef : List FieldD) (deps strs : List (ByteArray × Value)) (f : FieldD) : Int :=
  if f.kind = 1 then orC (needC (bitsB f) 6) (withinC (topF f) 0 [f.low, f.high]) else
  if f.kind = 2 then orC (needC (bitsB f) 6) (withinC (topF f) 0 [f.low]) else
  if f.kind = 3 then withinC 34359738367 0 [f.low, f.high] else
  if f.kind = 4 then sizedC (numR bef) f else
  if f.kind = 5 then orC (withinC 255 0 [f.low]) (withinC 1048576 0 [f.high]) else
  if f.kind = 6 then withinC 1048576 2 [f.high] else
  if f.kind = 7 then orC (needC (lastOf deps f.of).isSome 8) (sizedC (numR bef) f) else
  if f.kind = 8 then needC (lastOf deps f.of).isSome 8 else
  if f.kind = 9 then casesC bef deps f else
  if f.kind = 10 then needC (padB f) 6 else
  if f.kind = 11 then orC (withinC 3 1 [f.check]) (needC (bef.any fun o => decide (o.name = f.fr)) 8) else
  if f.kind = 12 then orC (withinC 4294967295 0 [f.key]) (orC (needC (strB strs f.of) 8) (sizedC (numR bef) f)) else 0
def clearK (f : FieldD) : FieldD :=
  if f.kind = 1 then clear1 f else
  if f.kind = 2 then clear2 f else
  if f.kind = 3 then clear3 f else
  if f.kind = 4 then clear4 f else
  if f.kind = 5 then clear5 f else
  if f.kind = 6 then clear6 f else
  if f.kind = 7 then clear7 f else
  if f.kind = 8 then clear8 f else
  if f.kind = 9 then clear9 f else
  if f.kind = 10 then clear10 f else
  if f.kind = 11 then clear11 f else
  if f.kind = 12 then clear12 f else f
def examineC (bef : List FieldD) (deps strs : List (ByteArray × Value)) (f : FieldD) : Int :=
  orC (needC (nameB f.name) 1) (orC (needC (!bef.any fun o => decide (o.name = f.name)) 2) (orC (needC (decide (1 ≤ f.kind ∧ f.kind ≤ 12)) 4) (orC (needC (decide (clearK f = bareF f)) 5) (checkC bef deps strs f))))
section
variable {w0 : World} {cb md ms : Nat} {deps strs : List (ByteArray × Value)} {at_ fld : Int} {fs : List FieldD}
theorem exa_mid {a0 : World} (e00 : Ext a0 w0) (h : Chk w0 cb md ms deps strs at_ fld fs) (i : Nat) (hi : fld = i) (hlt : i < fs.length) (p3 p6 : Nat) (f : FieldD) (tv cv : Value) (ht : f.terms.length ≤ 1048576) (hT : TermsOf w0 tv f.terms) (hC : CasesOf w0 cv f.cases) (o3 : w0.heap[p3]? = some (.cells (fieldCells f tv cv).toArray 28 (0, 0)))
    (L : List (Int × Value × Nat)) (hL : KindsIn L) (a b : Value) (ok : Bool) (hab : (Sw.look L f.kind).getD (.agg #[.nilFunc, .nilFunc]) = .agg #[a, b]) (hok : ok = (Sw.look L f.kind).isSome) (o6 : w0.heap[p6]? = some (.cells #[a, b] 130 (0, 0))) :
    callK Try.prog 62 #[.pointer (some ⟨cb, 0, none⟩), .bool ok, .int .i64 4] (panK (flwR a0 at_ fld (orC (needC (decide (1 ≤ f.kind ∧ f.kind ≤ 12)) 4) (orC (needC (decide (clearK f = bareF f)) 5) (checkC (fs.take i) deps strs f))))) w0
      (fun _ w => n_schema_checker_examine_c3 (.pointer (some ⟨cb, 0, none⟩)) (.pointer (some ⟨p3, 0, none⟩)) (.pointer (some ⟨p6, 0, none⟩)) (flwR a0 at_ fld (orC (needC (decide (1 ≤ f.kind ∧ f.kind ≤ 12)) 4) (orC (needC (decide (clearK f = bareF f)) 5) (checkC (fs.take i) deps strs f)))) w) := by
  obtain ⟨hn, k1, k2, k3, k4, k5, k6, k7, k8, k9, k10, k11, k12⟩ := hL
  by_cases hk : 1 ≤ f.kind ∧ f.kind ≤ 12
  · have hd : decide (1 ≤ f.kind ∧ f.kind ≤ 12) = true := by simpa using hk
    rw [hd]
    show callK _ _ _ (panK (flwR a0 at_ fld (orC 0 _))) _ _
    simp only [show needC true 4 = 0 from rfl, orC_zero]
    have hs : ok = true := by
      rw [hok]
      have : f.kind = 1 ∨ f.kind = 2 ∨ f.kind = 3 ∨ f.kind = 4 ∨ f.kind = 5 ∨ f.kind = 6 ∨ f.kind = 7 ∨ f.kind = 8 ∨ f.kind = 9 ∨ f.kind = 10 ∨ f.kind = 11 ∨ f.kind = 12 := by omega
      rcases this with h | h | h | h | h | h | h | h | h | h | h | h <;> simp only [h, k1, k2, k3, k4, k5, k6, k7, k8, k9, k10, k11, k12, Option.isSome_some]
    subst hs
    refine callK_flw (need_flw h true 4 (by decide)) (fun w1 e1 _ => ?_) (fun w1 e1 h0 => absurd rfl h0)
    have hw := h.ext e1
    have hT1 := TermsOf.ext hT e1
    have hC1 := CasesOf.ext hC e1
    have o31 := e1.obj o3
    have this : f.kind = 1 ∨ f.kind = 2 ∨ f.kind = 3 ∨ f.kind = 4 ∨ f.kind = 5 ∨ f.kind = 6 ∨ f.kind = 7 ∨ f.kind = 8 ∨ f.kind = 9 ∨ f.kind = 10 ∨ f.kind = 11 ∨ f.kind = 12 := by omega
    rcases this with hkk | hkk | hkk | hkk | hkk | hkk | hkk | hkk | hkk | hkk | hkk | hkk
    · rw [hkk, k1, Option.getD_some] at hab
      injection hab with hab
      have hab := congrArg Array.toList hab
      simp only [List.cons.injEq, and_true] at hab
      obtain ⟨rfl, rfl⟩ := hab
      have hcl : clearK f = clear1 f := by unfold clearK; simp [hkk]
      have hcc : checkC (fs.take i) deps strs f = orC (needC (bitsB f) 6) (withinC (topF f) 0 [f.low, f.high]) := by unfold checkC; simp [hkk]
      rw [hcl, hcc]
      exact exa_tail (e00.trans e1) hw p3 p6 f tv cv hT1 hC1 o31 _ _ (e1.obj o6) c81 c82 clear1 false false clears1 rfl rfl _ (fun w v hw hf => uint_flw hw v f hf)
    · rw [hkk, k2, Option.getD_some] at hab
      injection hab with hab
      have hab := congrArg Array.toList hab
      simp only [List.cons.injEq, and_true] at hab
      obtain ⟨rfl, rfl⟩ := hab
      have hcl : clearK f = clear2 f := by unfold clearK; simp [hkk]
      have hcc : checkC (fs.take i) deps strs f = orC (needC (bitsB f) 6) (withinC (topF f) 0 [f.low]) := by unfold checkC; simp [hkk]
      rw [hcl, hcc]
      exact exa_tail (e00.trans e1) hw p3 p6 f tv cv hT1 hC1 o31 _ _ (e1.obj o6) c85 c86 clear2 false false clears2 rfl rfl _ (fun w v hw hf => const_flw hw v f hf)
    · rw [hkk, k3, Option.getD_some] at hab
      injection hab with hab
      have hab := congrArg Array.toList hab
      simp only [List.cons.injEq, and_true] at hab
      obtain ⟨rfl, rfl⟩ := hab
      have hcl : clearK f = clear3 f := by unfold clearK; simp [hkk]
      have hcc : checkC (fs.take i) deps strs f = withinC 34359738367 0 [f.low, f.high] := by unfold checkC; simp [hkk]
      rw [hcl, hcc]
      exact exa_tail (e00.trans e1) hw p3 p6 f tv cv hT1 hC1 o31 _ _ (e1.obj o6) c87 c88 clear3 false false clears3 rfl rfl _ (fun w v hw hf => varint_flw hw v f hf)
    · rw [hkk, k4, Option.getD_some] at hab
      injection hab with hab
      have hab := congrArg Array.toList hab
      simp only [List.cons.injEq, and_true] at hab
      obtain ⟨rfl, rfl⟩ := hab
      have hcl : clearK f = clear4 f := by unfold clearK; simp [hkk]
      have hcc : checkC (fs.take i) deps strs f = sizedC (numR (fs.take i)) f := by unfold checkC; simp [hkk]
      rw [hcl, hcc]
      exact exa_tail (e00.trans e1) hw p3 p6 f tv cv hT1 hC1 o31 _ _ (e1.obj o6) c89 c90 clear4 true false clears4 rfl rfl _ (fun w v hw hf => sized_flw hw i hi hlt v f hf ht)
    · rw [hkk, k5, Option.getD_some] at hab
      injection hab with hab
      have hab := congrArg Array.toList hab
      simp only [List.cons.injEq, and_true] at hab
      obtain ⟨rfl, rfl⟩ := hab
      have hcl : clearK f = clear5 f := by unfold clearK; simp [hkk]
      have hcc : checkC (fs.take i) deps strs f = orC (withinC 255 0 [f.low]) (withinC 1048576 0 [f.high]) := by unfold checkC; simp [hkk]
      rw [hcl, hcc]
      exact exa_tail (e00.trans e1) hw p3 p6 f tv cv hT1 hC1 o31 _ _ (e1.obj o6) c91 c92 clear5 false false clears5 rfl rfl _ (fun w v hw hf => until_flw hw v f hf)
    · rw [hkk, k6, Option.getD_some] at hab
      injection hab with hab
      have hab := congrArg Array.toList hab
      simp only [List.cons.injEq, and_true] at hab
      obtain ⟨rfl, rfl⟩ := hab
      have hcl : clearK f = clear6 f := by unfold clearK; simp [hkk]
      have hcc : checkC (fs.take i) deps strs f = withinC 1048576 2 [f.high] := by unfold checkC; simp [hkk]
      rw [hcl, hcc]
      exact exa_tail (e00.trans e1) hw p3 p6 f tv cv hT1 hC1 o31 _ _ (e1.obj o6) c93 c94 clear6 false false clears6 rfl rfl _ (fun w v hw hf => headers_flw hw v f hf)
    · rw [hkk, k7, Option.getD_some] at hab
      injection hab with hab
      have hab := congrArg Array.toList hab
      simp only [List.cons.injEq, and_true] at hab
      obtain ⟨rfl, rfl⟩ := hab
      have hcl : clearK f = clear7 f := by unfold clearK; simp [hkk]
      have hcc : checkC (fs.take i) deps strs f = orC (needC (lastOf deps f.of).isSome 8) (sizedC (numR (fs.take i)) f) := by unfold checkC; simp [hkk]
      rw [hcl, hcc]
      exact exa_tail (e00.trans e1) hw p3 p6 f tv cv hT1 hC1 o31 _ _ (e1.obj o6) c95 c96 clear7 true false clears7 rfl rfl _ (fun w v hw hf => list_flw hw i hi hlt v f hf ht)
    · rw [hkk, k8, Option.getD_some] at hab
      injection hab with hab
      have hab := congrArg Array.toList hab
      simp only [List.cons.injEq, and_true] at hab
      obtain ⟨rfl, rfl⟩ := hab
      have hcl : clearK f = clear8 f := by unfold clearK; simp [hkk]
      have hcc : checkC (fs.take i) deps strs f = needC (lastOf deps f.of).isSome 8 := by unfold checkC; simp [hkk]
      rw [hcl, hcc]
      exact exa_tail (e00.trans e1) hw p3 p6 f tv cv hT1 hC1 o31 _ _ (e1.obj o6) c98 c99 clear8 false false clears8 rfl rfl _ (fun w v hw hf => message_flw hw v f hf)
    · rw [hkk, k9, Option.getD_some] at hab
      injection hab with hab
      have hab := congrArg Array.toList hab
      simp only [List.cons.injEq, and_true] at hab
      obtain ⟨rfl, rfl⟩ := hab
      have hcl : clearK f = clear9 f := by unfold clearK; simp [hkk]
      have hcc : checkC (fs.take i) deps strs f = casesC (fs.take i) deps f := by unfold checkC; simp [hkk]
      rw [hcl, hcc]
      exact exa_tail (e00.trans e1) hw p3 p6 f tv cv hT1 hC1 o31 _ _ (e1.obj o6) c100 c101 clear9 false true clears9 rfl rfl _ (fun w v hw hf => cases_flw hw i hi hlt v f hf)
    · rw [hkk, k10, Option.getD_some] at hab
      injection hab with hab
      have hab := congrArg Array.toList hab
      simp only [List.cons.injEq, and_true] at hab
      obtain ⟨rfl, rfl⟩ := hab
      have hcl : clearK f = clear10 f := by unfold clearK; simp [hkk]
      have hcc : checkC (fs.take i) deps strs f = needC (padB f) 6 := by unfold checkC; simp [hkk]
      rw [hcl, hcc]
      exact exa_tail (e00.trans e1) hw p3 p6 f tv cv hT1 hC1 o31 _ _ (e1.obj o6) c102 c103 clear10 false false clears10 rfl rfl _ (fun w v hw hf => pad_flw hw v f hf)
    · rw [hkk, k11, Option.getD_some] at hab
      injection hab with hab
      have hab := congrArg Array.toList hab
      simp only [List.cons.injEq, and_true] at hab
      obtain ⟨rfl, rfl⟩ := hab
      have hcl : clearK f = clear11 f := by unfold clearK; simp [hkk]
      have hcc : checkC (fs.take i) deps strs f = orC (withinC 3 1 [f.check]) (needC ((fs.take i).any fun o => decide (o.name = f.fr)) 8) := by unfold checkC; simp [hkk]
      rw [hcl, hcc]
      exact exa_tail (e00.trans e1) hw p3 p6 f tv cv hT1 hC1 o31 _ _ (e1.obj o6) c104 c105 clear11 false false clears11 rfl rfl _ (fun w v hw hf => check_flw hw i hi hlt v f hf)
    · rw [hkk, k12, Option.getD_some] at hab
      injection hab with hab
      have hab := congrArg Array.toList hab
      simp only [List.cons.injEq, and_true] at hab
      obtain ⟨rfl, rfl⟩ := hab
      have hcl : clearK f = clear12 f := by unfold clearK; simp [hkk]
      have hcc : checkC (fs.take i) deps strs f = orC (withinC 4294967295 0 [f.key]) (orC (needC (strB strs f.of) 8) (sizedC (numR (fs.take i)) f)) := by unfold checkC; simp [hkk]
      rw [hcl, hcc]
      exact exa_tail (e00.trans e1) hw p3 p6 f tv cv hT1 hC1 o31 _ _ (e1.obj o6) c106 c107 clear12 true false clears12 rfl rfl _ (fun w v hw hf => view_flw hw i hi hlt v f hf ht)
  · have hd : decide (1 ≤ f.kind ∧ f.kind ≤ 12) = false := by simpa using hk
    rw [hd]
    have hs : ok = false := by rw [hok, hn _ hk]; rfl
    subst hs
    refine callK_flw (need_flw h false 4 (by decide)) (fun w1 e1 h0 => absurd h0 (by decide)) (fun w1 e1 h0 => ?_)
    exact flwR_pan (e00.trans e1) rfl h0
end
end Go.Proofs.Ytiajhbbmgglmlaa
namespace Go.Proofs.Ytiajhbbmgglmlaa
open Sw
open Go.RowKit (intOf Below)
set_option maxRecDepth 100000
section
variable {w0 : World} {cb md ms : Nat} {deps strs : List (ByteArray × Value)} {at_ fld : Int} {fs : List FieldD}
theorem examine_flw (h : Chk w0 cb md ms deps strs at_ fld fs) (i : Nat) (hi : fld = i) (hlt : i < fs.length) (v : Value) (f : FieldD) (hf : FieldVal w0 v f) (ht : f.terms.length ≤ 1048576) :
    Calls Try.prog 75 #[.pointer (some ⟨cb, 0, none⟩), v] w0 (flwR w0 at_ fld (examineC (fs.take i) deps strs f)) := by
  obtain ⟨tv, cv, rfl, hT, hC, ht1, hc1⟩ := hf.op
  refine n_schema_checker_examine_sound ?_; unfold n_schema_checker_examine
  simp (disch := first | assumption | (simp only [ONE]; done) | rfl | (simp only [SZ]; done) | omega | (simp only [SZ] at *; omega)) only [↓PR, QR, Int.reduceBEq, Int.reduceBNe, Int.reduceLT, Int.reduceLE, Int.reduceGT, Int.reduceGE, Int.reduceNeg]
  generalize hW : World.alloc w0 _ = W
  have e0 : Ext w0 W := by rw [← hW]; exact ee
  have o3 : W.heap[w0.heap.size]? = some (.cells (fieldCells f tv cv).toArray 28 (0, 0)) := by rw [← hW]; simp (disch := first | assumption | (simp only [ONE]; done) | rfl | (simp only [SZ]; done) | omega | (simp only [SZ] at *; omega)) only [↓PR, QR, Int.reduceBEq, Int.reduceBNe, Int.reduceLT, Int.reduceLE, Int.reduceGT, Int.reduceGE, Int.reduceNeg]
  clear hW
  refine callK_ret (Name_ret _ f.name) ?_
  rintro _ w1 ⟨rfl, e1⟩
  have e01 := e0.trans e1
  unfold examineC
  refine callK_flw (need_flw (h.ext e01) _ 1 (by decide)) (fun w2 e2 h0 => ?_) (fun w2 e2 h0 => ?_)
  · rw [h0, orC_zero]
    have e02 := e01.trans e2
    have o32 := (e1.trans e2).obj o3
    refine drawK_intro ?_
    simp (disch := first | assumption | (simp only [ONE]; done) | rfl | (simp only [SZ]; done) | omega | (simp only [SZ] at *; omega)) only [↓PR, QR, Int.reduceBEq, Int.reduceBNe, Int.reduceLT, Int.reduceLE, Int.reduceGT, Int.reduceGE, Int.reduceNeg, ↓n_schema_checker_examine_c8, (cells_of_heap o32).1]
    have eD : Ext w0 w2.drew := e02.wdrew
    refine callK_ret (before_ret (h.ext eD) i hi hlt) ?_
    rintro bv w3 ⟨hB, e3⟩
    refine ⟨e3, ?_⟩
    have hb1 := SliceOf.oneCell hB
    simp (disch := first | assumption | (simp only [ONE]; done) | rfl | (simp only [SZ]; done) | omega | (simp only [SZ] at *; omega)) only [↓PR, QR, Int.reduceBEq, Int.reduceBNe, Int.reduceLT, Int.reduceLE, Int.reduceGT, Int.reduceGE, Int.reduceNeg]
    refine callK_ret (Field_ret w3 _ ⟨ByteArray.empty, fs.take i⟩ f.name ⟨bv, rfl, hB⟩) ?_
    rintro _ w4 ⟨rfl, e4⟩
    refine ⟨e3.trans e4, ?_⟩
    simp (disch := first | assumption | (simp only [ONE]; done) | rfl | (simp only [SZ]; done) | omega | (simp only [SZ] at *; omega)) only [↓PR, QR, Int.reduceBEq, Int.reduceBNe, Int.reduceLT, Int.reduceLE, Int.reduceGT, Int.reduceGE, Int.reduceNeg, ↓n_schema_checker_examine_c7]
    have e04 := eD.trans (e3.trans e4)
    have e24 : Ext w2 w4 := (Ext.refl w2).wdrew.trans (e3.trans e4)
    refine callK_flw (need_flw (h.ext e04) _ 2 (by decide)) (fun w5 e5 h0 => ?_) (fun w5 e5 h0 => ?_)
    · rw [h0, orC_zero]
      have e05 := e04.trans e5
      have o35 := (e24.trans e5).obj o32
      clear e24 e04 e3 e4 hB eD e02 e01 e1 e2 o32
      refine drawK_intro ?_
      simp (disch := first | assumption | (simp only [ONE]; done) | rfl | (simp only [SZ]; done) | omega | (simp only [SZ] at *; omega)) only [↓PR, QR, Int.reduceBEq, Int.reduceBNe, Int.reduceLT, Int.reduceLE, Int.reduceGT, Int.reduceGE, Int.reduceNeg, ↓n_schema_checker_examine_c6, (cells_of_heap o35).1]
      have eD : Ext w5 w5.drew := (Ext.refl _).wdrew
      have fin5 : ∀ (w' : World) (m p6 c : Nat) (L : List (Int × Value × Nat)) (u0 u1 : Value), Ext w5.drew w' → MapB w' m kindEnc L c → KindsIn L → w'.heap[p6]? = some (.cells #[u0, u1] 130 (0, 0)) → w5.heap.size ≤ p6 →
          n_schema_checker_examine_c5 (.pointer (some ⟨p6, 0, none⟩)) (.map (some m)) (.int .i64 f.kind) (KM w5.drew m kindEnc L c) (fun t5 t6 w => callK Try.prog 62 #[.pointer (some ⟨cb, 0, none⟩), t5, .int .i64 4] (panK (flwR w0 at_ fld (orC (needC (decide (1 ≤ f.kind ∧ f.kind ≤ 12)) 4) (orC (needC (decide (clearK f = bareF f)) 5) (checkC (fs.take i) deps strs f))))) w fun _ w => n_schema_checker_examine_c3 (.pointer (some ⟨cb, 0, none⟩)) (.pointer (some ⟨w0.heap.size, 0, none⟩)) t6 (flwR w0 at_ fld (orC (needC (decide (1 ≤ f.kind ∧ f.kind ≤ 12)) 4) (orC (needC (decide (clearK f = bareF f)) 5) (checkC (fs.take i) deps strs f)))) w)
            (flwR w0 at_ fld (orC (needC (decide (1 ≤ f.kind ∧ f.kind ≤ 12)) 4) (orC (needC (decide (clearK f = bareF f)) 5) (checkC (fs.take i) deps strs f)))) w' := by
        intro w' m p6 c L u0 u1 e' hM hL o6 hp6
        haveI : ClassNe (KM w5.drew m kindEnc L c) := ⟨⟨w', e', hM⟩⟩
        unfold n_schema_checker_examine_c5
        rw [qV_lookupKM Try.underlying132 (KeyOK.int Try.underlying22) ty130 ⟨w', e', hM⟩]
        obtain ⟨a, b, hab, ha, hb⟩ : ∃ a b, (Sw.look L f.kind).getD (.agg #[.nilFunc, .nilFunc]) = .agg #[a, b] ∧ a.oneCell' = true ∧ b.oneCell' = true := by
          obtain ⟨hn, k1, k2, k3, k4, k5, k6, k7, k8, k9, k10, k11, k12⟩ := hL
          by_cases hk : 1 ≤ f.kind ∧ f.kind ≤ 12
          · have this : f.kind = 1 ∨ f.kind = 2 ∨ f.kind = 3 ∨ f.kind = 4 ∨ f.kind = 5 ∨ f.kind = 6 ∨ f.kind = 7 ∨ f.kind = 8 ∨ f.kind = 9 ∨ f.kind = 10 ∨ f.kind = 11 ∨ f.kind = 12 := by omega
            rcases this with h | h | h | h | h | h | h | h | h | h | h | h <;> simp only [h, k1, k2, k3, k4, k5, k6, k7, k8, k9, k10, k11, k12, Option.getD_some] <;> exact ⟨_, _, rfl, rfl, rfl⟩
          · rw [hn _ hk]; exact ⟨_, _, rfl, rfl, rfl⟩
        rw [hab]
        simp (disch := first | assumption | (simp only [ONE]; done) | rfl | (simp only [SZ]; done) | omega | (simp only [SZ] at *; omega)) only [↓PR, QR, Int.reduceBEq, Int.reduceBNe, Int.reduceLT, Int.reduceLE, Int.reduceGT, Int.reduceGE, Int.reduceNeg, (cells_of_heap o6).1, (cells_of_heap o6).2]
        have e6 : Ext w5.drew ((w'.setCell ⟨p6, 0, none⟩ a).setCell ⟨p6, 1, none⟩ b) := (e'.setCell (show w5.drew.heap.size ≤ (⟨p6, 0, none⟩ : Addr).block from hp6) _).setCell (show w5.drew.heap.size ≤ (⟨p6, 1, none⟩ : Addr).block from hp6) _
        refine ⟨⟨e6, (hM.setCell _ _).setCell _ _⟩, ?_⟩
        have e06 := (e05.trans eD).trans e6
        have o6' := heap_set (o := 1) (heap_set (o := 0) o6 a) b
        exact exa_mid e06 (h.ext e06) i hi hlt _ p6 f tv cv ht (TermsOf.ext hT e06) (CasesOf.ext hC e06) ((eD.trans e6).obj o35) L hL a b _ hab rfl (by simpa using o6')
      refine ⟨?_, ?_⟩
      · refine callK_ret (kinds_ret _) ?_
        rintro _ w6 ⟨m, L, c, rfl, hm, hM, hL, e6⟩
        refine narrowK_KM e6 hM ?_
        have h9 := fin5 (w6.alloc (.cells #[.nilFunc, .nilFunc] 130)) m w6.heap.size c L _ _ (e6.alloc _) (hM.ext ((Ext.refl _).alloc _)) hL (heap_new _ _ _) (by have := e6.size; simpa using this)
        unfold n_schema_checker_examine_c5 at h9
        unfold n_schema_checker_examine_c4
        simp only [drew_wdrew]
        haveI : ClassNe (KM w5.drew m kindEnc L c) := ⟨⟨w6, e6, hM⟩⟩
        rw [qV_lookupKM Try.underlying132 (KeyOK.int Try.underlying22) ty130 ⟨w6, e6, hM⟩] at h9 ⊢
        simp (disch := first | assumption | (simp only [ONE]; done) | rfl | (simp only [SZ]; done) | omega | (simp only [SZ] at *; omega)) only [↓PR, QR, Int.reduceBEq, Int.reduceBNe, Int.reduceLT, Int.reduceLE, Int.reduceGT, Int.reduceGE, Int.reduceNeg]
        simp only [↓Sw.GENQ] at h9
        exact ⟨⟨e6.alloc _, hM.ext ((Ext.refl _).alloc _)⟩, h9⟩
      · refine ⟨(Ext.refl _).alloc _, ?_⟩
        refine callK_ret (kinds_ret _) ?_
        rintro _ w6 ⟨m, L, c, rfl, hm, hM, hL, e6⟩
        refine narrowK_KM (((Ext.refl _).alloc _).trans e6) hM ?_
        exact fin5 w6 m w5.heap.size c L _ _ (((Ext.refl _).alloc _).trans e6) hM hL (e6.obj (heap_new w5.drew _ _)) (Nat.le_refl _)
    · rw [orC_ne h0]
      exact flwR_pan (e04.trans e5) rfl h0
  · rw [orC_ne h0]
    exact flwR_pan (e01.trans e2) rfl h0
end
end Go.Proofs.Ytiajhbbmgglmlaa
namespace Go.Proofs.Ytiajhbbmgglmlaa
open Sw
def n_schema_Refers_c1 (t3 t29 t31 : Value) (next4 : Value → World → Prop) (R : Ending → World → Prop) (w : World) : Prop :=
 opV Try.prog (Instr.indexAt 26 t29 t31) (panK R) w fun t33 w =>
 opV Try.prog (Instr.loadAt 62 t33) (panK R) w fun t34 w =>
 opV Try.prog (Instr.alloc 62 true (.tuple #[])) (panK R) w fun t7 w =>
 opU Try.prog (Instr.storeAt 62 t7 t34) (panK R) w fun w =>
 opV Try.prog (Instr.loadAt 63 t3) (panK R) w fun t35 w =>
 opV Try.prog (Instr.fieldAt 62 t7 2) (panK R) w fun t36 w =>
 opV Try.prog (Instr.loadAt 9 t36) (panK R) w fun t37 w =>
 opV Try.prog (Instr.buildSlice 63 1 #[(0, t37)]) (panK R) w fun t38 w =>
 opV Try.prog (Builtin.append_ #[63, 63] 63 #[t35, t38]) (panK R) w fun t39 w =>
 opU Try.prog (Instr.storeAt 63 t3 t39) (panK R) w fun w =>
 opV Try.prog (binS .add 3 true t31 (.int .i64 1)) (panK R) w fun t40 w =>
 next4 t40 w
def n_schema_Refers_c2 (t3 t5 : Value) (K3 : World → Prop) (R : Ending → World → Prop) (w : World) : Prop :=
 opV Try.prog (Instr.fieldAt 28 t5 11) (panK R) w fun t28 w =>
 opV Try.prog (Instr.loadAt 26 t28) (panK R) w fun t29 w =>
 opV Try.prog (Builtin.len_ #[26] 3 #[t29]) (panK R) w fun t30 w =>
 loop1 (fun t31 w next4 =>
 opV Try.prog (binS .lss 3 false t31 t30) (panK R) w fun t32 w =>
 condP t32 (
 n_schema_Refers_c1 t3 t29 t31 next4 R w) (
 K3 w)) (.int .i64 0) w
def n_schema_Refers_c3 (t3 t5 : Value) (K3 : World → Prop) (R : Ending → World → Prop) (w : World) : Prop :=
 opV Try.prog (Instr.loadAt 63 t3) (panK R) w fun t21 w =>
 opV Try.prog (Instr.fieldAt 28 t5 8) (panK R) w fun t22 w =>
 opV Try.prog (Instr.loadAt 9 t22) (panK R) w fun t23 w =>
 opV Try.prog (Instr.buildSlice 63 1 #[(0, t23)]) (panK R) w fun t24 w =>
 opV Try.prog (Builtin.append_ #[63, 63] 63 #[t21, t24]) (panK R) w fun t25 w =>
 opU Try.prog (Instr.storeAt 63 t3 t25) (panK R) w fun w =>
 K3 w
def n_schema_Refers_c4 (t3 t5 t11 t16 t17 : Value) (next1 : Value → World → Prop) (R : Ending → World → Prop) (w : World) : Prop :=
 joinK (fun (w : World) =>
 opV Try.prog (binS .add 3 true t11 (.int .i64 1)) (panK R) w fun t41 w =>
 next1 t41 w) fun K3 =>
 condP t17 (
 n_schema_Refers_c3 t3 t5 K3 R w) (
 opV Try.prog (binS .eql 22 true t16 (.int .i64 9)) (panK R) w fun t27 w =>
 condP t27 (
 n_schema_Refers_c2 t3 t5 K3 R w) (
 K3 w))
def n_schema_Refers_c5 (t16 : Value) (K2 : Value → World → Prop) (R : Ending → World → Prop) (w : World) : Prop :=
 opV Try.prog (binS .eql 22 true t16 (.int .i64 8)) (panK R) w fun t19 w =>
 condP t19 (
 K2 t19 w) (
 opV Try.prog (binS .eql 22 true t16 (.int .i64 12)) (panK R) w fun t20 w =>
 K2 t20 w)
def n_schema_Refers_c6 (t3 t9 t11 : Value) (next1 : Value → World → Prop) (R : Ending → World → Prop) (w : World) : Prop :=
 opV Try.prog (Instr.indexAt 48 t9 t11) (panK R) w fun t13 w =>
 opV Try.prog (Instr.loadAt 28 t13) (panK R) w fun t14 w =>
 opV Try.prog (Instr.alloc 28 true (.tuple #[])) (panK R) w fun t5 w =>
 opU Try.prog (Instr.storeAt 28 t5 t14) (panK R) w fun w =>
 opV Try.prog (Instr.fieldAt 28 t5 1) (panK R) w fun t15 w =>
 opV Try.prog (Instr.loadAt 22 t15) (panK R) w fun t16 w =>
 opV Try.prog (binS .eql 22 true t16 (.int .i64 7)) (panK R) w fun t18 w =>
 joinK (fun (t17 : Value) (w : World) =>
 n_schema_Refers_c4 t3 t5 t11 t16 t17 next1 R w) fun K2 =>
 condP t18 (
 K2 t18 w) (
 n_schema_Refers_c5 t16 K2 R w)
def n_schema_Refers_c7 (t3 t9 t10 t11 : Value) (next1 : Value → World → Prop) (R : Ending → World → Prop) (w : World) : Prop :=
 opV Try.prog (binS .lss 3 false t11 t10) (panK R) w fun t12 w =>
 condP t12 (
 n_schema_Refers_c6 t3 t9 t11 next1 R w) (
 opV Try.prog (Instr.makeFunc (.func 45) #[] #[t3]) (panK R) w fun t42 w =>
 R (.returned t42) w)
def n_schema_Refers (t0 : Value) (R : Ending → World → Prop) (w : World) : Prop :=
 opV Try.prog (Instr.box 50 t0) (panK R) w fun t1 w =>
 opV Try.prog (Instr.alloc 63 true (.tuple #[])) (panK R) w fun t3 w =>
 opV Try.prog (Instr.fieldAt 50 t1 1) (panK R) w fun t8 w =>
 opV Try.prog (Instr.loadAt 48 t8) (panK R) w fun t9 w =>
 opV Try.prog (Builtin.len_ #[48] 3 #[t9]) (panK R) w fun t10 w =>
 loop1 (fun t11 w next1 =>
 n_schema_Refers_c7 t3 t9 t10 t11 next1 R w) (.int .i64 0) w
set_option maxRecDepth 100000 in
set_option maxHeartbeats 4000000 in
theorem n_schema_Refers_sound {t0 : Value} {R : Ending → World → Prop} {w : World} (h : n_schema_Refers t0 R w) : Calls Try.prog 24 #[t0] w R := by
  refine calls_of_den (args := [t0]) Try.func24 rfl (Nat.le_of_ble_eq_true rfl) ?_
  unfold n_schema_Refers at h
  refine zs <| zr ?_
  refine zv h fun t1 w h => ?_
  refine zm <| zn <| zk <| zs <| zr ?_
  refine zv h fun t3 w h => ?_
  refine zn <| zk <| zs <| zs <| zr ?_
  refine zv h fun t8 w h => ?_
  refine zv h fun t9 w h => ?_
  refine zx h fun t10 w h => ?_
  refine zm <| zn <| zk <| sim_block ?_
  obtain ⟨I, μ, h0, hr⟩ := h
  refine sim_loop [5, 7, 11, 12, 13, 14, 15, 16, 17, 18, 19, 20, 21, 22, 23, 24, 25, 26, 27, 28, 29, 30, 31, 32, 33, 34, 35, 36, 37, 38, 39, 40, 41] (by kernel_rfl) (fun ρ w => I (ρ 11) w) (fun ρ w => μ (ρ 11) w) h0 (fun σ w hI => ?_)
  have h := hr _ _ hI
  clear hr h0 hI
  refine zs <| zr ?_
  refine zb h fun t12 w h => ?_
  refine zn <| zk <| zs ?_
  refine sim_cond h rfl (fun h => ?_) (fun h => ?_)
  · refine sim_skip <| zk <| zs <| sim_block <| zs <| zr ?_
    refine zv h fun t13 w h => ?_
    refine zv h fun t14 w h => ?_
    refine zv h fun t5 w h => ?_
    refine zu h fun w h => ?_
    refine zn <| zk <| zs <| zr ?_
    refine zv h fun t15 w h => ?_
    refine zv h fun t16 w h => ?_
    refine zn <| zk <| sim_block <| zs <| zs <| zr ?_
    refine zb h fun t18 w h => ?_
    refine zm <| zn <| zk ?_
    refine joinK_elim h (fun K2 hK h => ?_)
    refine sim_joinQ [17, 19, 20] (fun ρ w => K2 (ρ 17) w) (fun _ hkK2 => ?_) (fun σ w h => ?_)
    · refine sim_cond h rfl (fun h => ?_) (fun h => ?_)
      · refine sim_skip <| zk ?_
        exact zt hkK2 h
      · refine zs <| zr ?_
        refine zb h fun t19 w h => ?_
        refine zm <| zn <| zk ?_
        refine sim_cond h rfl (fun h => ?_) (fun h => ?_)
        · refine sim_skip <| zk ?_
          exact zt hkK2 h
        · refine zr ?_
          refine zb h fun t20 w h => ?_
          refine zm <| zn <| zk ?_
          exact zt hkK2 h
    subst hK
    refine zk ?_
    refine joinK_elim h (fun K3 hK h => ?_)
    refine sim_joinQ [7, 21, 22, 23, 24, 25, 26, 27, 28, 29, 30, 31, 32, 33, 34, 35, 36, 37, 38, 39, 40] (fun ρ w => K3 w) (fun _ hkK3 => ?_) (fun σ w h => ?_)
    · refine sim_cond h rfl (fun h => ?_) (fun h => ?_)
      · refine zr ?_
        refine zv h fun t21 w h => ?_
        refine zv h fun t22 w h => ?_
        refine zv h fun t23 w h => ?_
        refine sim_buildSlice h rfl (fun _ _ h => ⟨rfl, h⟩) ?_; intro t24 w h
        refine zx h fun t25 w h => ?_
        refine zu h fun w h => ?_
        refine zn <| zk ?_
        exact zt hkK3 h
      · refine zs <| zr ?_
        refine zb h fun t27 w h => ?_
        refine zm <| zn <| zk ?_
        refine sim_cond h rfl (fun h => ?_) (fun h => ?_)
        · refine zs <| zr ?_
          refine zv h fun t28 w h => ?_
          refine zv h fun t29 w h => ?_
          refine zx h fun t30 w h => ?_
          refine zm <| zn <| zk <| sim_block ?_
          obtain ⟨I, μ, h0, hr⟩ := h
          refine sim_loop [7, 31, 32, 33, 34, 35, 36, 37, 38, 39, 40] (by kernel_rfl) (fun ρ w => I (ρ 31) w) (fun ρ w => μ (ρ 31) w) h0 (fun σ w hI => ?_)
          have h := hr _ _ hI
          clear hr h0 hI
          refine zs <| zr ?_
          refine zb h fun t32 w h => ?_
          refine zn <| zk <| zs ?_
          refine sim_cond h rfl (fun h => ?_) (fun h => ?_)
          · refine sim_skip <| zk <| zs <| sim_block <| zs <| zr ?_
            refine zv h fun t33 w h => ?_
            refine zv h fun t34 w h => ?_
            refine zv h fun t7 w h => ?_
            refine zu h fun w h => ?_
            refine zn <| zk <| zr ?_
            refine zv h fun t35 w h => ?_
            refine zv h fun t36 w h => ?_
            refine zv h fun t37 w h => ?_
            refine sim_buildSlice h rfl (fun _ _ h => ⟨rfl, h⟩) ?_; intro t38 w h
            refine zx h fun t39 w h => ?_
            refine zu h fun w h => ?_
            refine zn <| sim_block_normal <| zk <| zr ?_
            refine zb h fun t40 w h => ?_
            refine zm <| zn <| zk ?_
            exact ⟨rfl, h⟩
          · refine sim_exit <| sim_then_exit <| sim_then_exit <| sim_block_hit <| zk ?_
            exact zt hkK3 h
        · refine sim_skip <| zk ?_
          exact zt hkK3 h
    subst hK
    refine sim_block_normal <| sim_block_normal <| zk <| zr ?_
    refine zb h fun t41 w h => ?_
    refine zm <| zn <| zk ?_
    exact ⟨rfl, h⟩
  · refine sim_exit <| sim_then_exit <| sim_then_exit <| sim_block_hit <| zk <| zs <| zr ?_
    refine sim_makeFunc h rfl rfl (fun _ _ h => ⟨rfl, h⟩) ?_; intro t42 w h
    refine zm <| zn <| zk <| sim_ret ?_
    exact body_ret1 rfl rfl h
def n_schema_Check_c1 (t2 t9 : Value) (R : Ending → World → Prop) (w : World) : Prop :=
 opV Try.prog (Instr.extract t9 0) (panK R) w fun t10 w =>
 opV Try.prog (Instr.extract t9 1) (panK R) w fun t11 w =>
 opV Try.prog (Instr.extract t9 2) (panK R) w fun t12 w =>
 opV Try.prog (Instr.alloc 68 true (.tuple #[])) (panK R) w fun t5 w =>
 opU Try.prog (Instr.storeAt 68 t5 t11) (panK R) w fun w =>
 opV Try.prog (Instr.loadAt 68 t5) (panK R) w fun t13 w =>
 opU Try.prog (Instr.storeAt 68 t2 t13) (panK R) w fun w =>
 qW Try.prog 68 t2 w fun r0 =>
 R (.returned (.tuple #[r0, t12])) w
def n_schema_Check (t0 : Value) (R : Ending → World → Prop) (w : World) : Prop :=
 opV Try.prog (Instr.box 44 t0) (panK R) w fun t1 w =>
 opV Try.prog (Instr.alloc 68 true (.tuple #[])) (panK R) w fun t2 w =>
 opV Try.prog (Instr.loadAt 44 t1) (panK R) w fun t8 w =>
 callK Try.prog 47 #[t8] (panK R) w fun t9 w =>
 n_schema_Check_c1 t2 t9 R w
set_option maxRecDepth 100000 in
set_option maxHeartbeats 4000000 in
theorem n_schema_Check_sound {t0 : Value} {R : Ending → World → Prop} {w : World} (h : n_schema_Check t0 R w) : Calls Try.prog 26 #[t0] w R := by
  refine calls_of_den (args := [t0]) Try.func26 rfl (Nat.le_of_ble_eq_true rfl) ?_
  unfold n_schema_Check at h
  refine zs <| zr ?_
  refine zv h fun t1 w h => ?_
  refine zv h fun t2 w h => ?_
  refine zm <| zn <| zk <| zs <| zr ?_
  refine zv h fun t8 w h => ?_
  refine zc h c47 fun t9 w h => ?_
  refine zm ?_
  refine zv h fun t10 w h => ?_
  refine zv h fun t11 w h => ?_
  refine zv h fun t12 w h => ?_
  refine zv h fun t5 w h => ?_
  refine zm ?_
  refine zu h fun w h => ?_
  refine zm <| zn <| zk <| zs <| zr ?_
  refine zv h fun t13 w h => ?_
  refine zm ?_
  refine zu h fun w h => ?_
  refine zm <| zn <| zk <| sim_ret ?_
  exact body_retCT rfl rfl rfl h
def n_schema_Valid_c1 (t7 : Value) (R : Ending → World → Prop) (w : World) : Prop :=
 opV Try.prog (Instr.extract t7 0) (panK R) w fun t8 w =>
 opV Try.prog (Instr.extract t7 1) (panK R) w fun t9 w =>
 opV Try.prog (Instr.alloc 68 true (.tuple #[])) (panK R) w fun t3 w =>
 opU Try.prog (Instr.storeAt 68 t3 t8) (panK R) w fun w =>
 opV Try.prog (Op.unary .not t9) (panK R) w fun t11 w =>
 R (.returned t11) w
def n_schema_Valid (t0 : Value) (R : Ending → World → Prop) (w : World) : Prop :=
 opV Try.prog (Instr.box 44 t0) (panK R) w fun t1 w =>
 opV Try.prog (Instr.loadAt 44 t1) (panK R) w fun t6 w =>
 callK Try.prog 26 #[t6] (panK R) w fun t7 w =>
 n_schema_Valid_c1 t7 R w
set_option maxRecDepth 100000 in
set_option maxHeartbeats 4000000 in
theorem n_schema_Valid_sound {t0 : Value} {R : Ending → World → Prop} {w : World} (h : n_schema_Valid t0 R w) : Calls Try.prog 27 #[t0] w R := by
  refine calls_of_den (args := [t0]) Try.func27 rfl (Nat.le_of_ble_eq_true rfl) ?_
  unfold n_schema_Valid at h
  refine zs <| zr ?_
  refine zv h fun t1 w h => ?_
  refine zm <| zn <| zk <| zs <| zr ?_
  refine zv h fun t6 w h => ?_
  refine zc h c26 fun t7 w h => ?_
  refine zm ?_
  refine zv h fun t8 w h => ?_
  refine zv h fun t9 w h => ?_
  refine zv h fun t3 w h => ?_
  refine zu h fun w h => ?_
  refine zm <| zn <| zk <| zs <| zr <| zm ?_
  refine zv h fun t11 w h => ?_
  refine zm <| zn <| zk <| sim_ret ?_
  exact body_ret1 rfl rfl h
def n_phrasebookref04_Name_c1 (t0 t3 t28 t34 : Value) (next3 : Value → World → Prop) (R : Ending → World → Prop) (w : World) : Prop :=
 pickK t28 t34 (.bool false) fun t35 =>
 joinK (fun (t40 : Value) (w : World) =>
 pickK t35 t40 (.bool false) fun t41 =>
 condP t41 (
 R (.returned (.bool false)) w) (
 opV Try.prog (binS .add 3 true t3 (.int .i64 1)) (panK R) w fun t23 w =>
 next3 t23 w)) fun K5 =>
 guardP t35 true (
 opV Try.prog (Instr.index 9 t0 t3) (panK R) w fun t39 w =>
 opV Try.prog (binS .neq 5 true t39 (.int .u8 95)) (panK R) w fun t40 w =>
 K5 t40 w) (
 K5 undef w)
def n_phrasebookref04_Name_c2 (t0 t3 t27 : Value) (next3 : Value → World → Prop) (R : Ending → World → Prop) (w : World) : Prop :=
 opV Try.prog (Op.unary .not t27) (panK R) w fun t28 w =>
 joinK (fun (t34 : Value) (w : World) =>
 n_phrasebookref04_Name_c1 t0 t3 t28 t34 next3 R w) fun K4 =>
 guardP t28 true (
 opV Try.prog (Instr.index 9 t0 t3) (panK R) w fun t32 w =>
 callK Try.prog 49 #[t32] (panK R) w fun t33 w =>
 opV Try.prog (Op.unary .not t33) (panK R) w fun t34 w =>
 K4 t34 w) (
 K4 undef w)
def n_phrasebookref04_Name_c3 (t0 t3 : Value) (next3 : Value → World → Prop) (R : Ending → World → Prop) (w : World) : Prop :=
 opV Try.prog (Builtin.len_ #[9] 3 #[t0]) (panK R) w fun t20 w =>
 opV Try.prog (binS .lss 3 false t3 t20) (panK R) w fun t21 w =>
 condP t21 (
 opV Try.prog (Instr.index 9 t0 t3) (panK R) w fun t26 w =>
 callK Try.prog 48 #[t26] (panK R) w fun t27 w =>
 n_phrasebookref04_Name_c2 t0 t3 t27 next3 R w) (
 R (.returned (.bool true)) w)
def n_phrasebookref04_Name_c4 (t0 t6 t10 : Value) (R : Ending → World → Prop) (w : World) : Prop :=
 pickK t6 (.bool true) t10 fun t11 =>
 joinK (fun (t16 : Value) (w : World) =>
 pickK t11 (.bool true) t16 fun t17 =>
 condP t17 (
 R (.returned (.bool false)) w) (
 loop1 (fun t3 w next3 =>
 n_phrasebookref04_Name_c3 t0 t3 next3 R w) (.int .i64 0) w)) fun K2 =>
 guardP t11 false (
 opV Try.prog (Instr.index 9 t0 (.int .i64 0)) (panK R) w fun t14 w =>
 callK Try.prog 48 #[t14] (panK R) w fun t15 w =>
 opV Try.prog (Op.unary .not t15) (panK R) w fun t16 w =>
 K2 t16 w) (
 K2 undef w)
def n_phrasebookref04_Name (t0 : Value) (R : Ending → World → Prop) (w : World) : Prop :=
 opV Try.prog (Builtin.len_ #[9] 3 #[t0]) (panK R) w fun t5 w =>
 opV Try.prog (binS .lss 3 true t5 (.int .i64 1)) (panK R) w fun t6 w =>
 joinK (fun (t10 : Value) (w : World) =>
 n_phrasebookref04_Name_c4 t0 t6 t10 R w) fun K1 =>
 guardP t6 false (
 opV Try.prog (Builtin.len_ #[9] 3 #[t0]) (panK R) w fun t9 w =>
 opV Try.prog (binS .gtr 3 true t9 (.int .i64 32)) (panK R) w fun t10 w =>
 K1 t10 w) (
 K1 undef w)
set_option maxRecDepth 100000 in
set_option maxHeartbeats 4000000 in
theorem n_phrasebookref04_Name_sound {t0 : Value} {R : Ending → World → Prop} {w : World} (h : n_phrasebookref04_Name t0 R w) : Calls Try.prog 28 #[t0] w R := by
  refine calls_of_den (args := [t0]) Try.func28 rfl (Nat.le_of_ble_eq_true rfl) ?_
  unfold n_phrasebookref04_Name at h
  refine zs <| zr <| zm <| zn <| zk <| zs <| zs <| sim_regionG ?_
  refine sim_seg 4 rfl ?_
  refine zm ?_
  refine zx h fun t5 w h => ?_
  refine zb h fun t6 w h => ?_
  refine zm <| zn ?_
  refine joinK_elim h (fun K1 hK h => ?_)
  refine sim_groupJ 3 3 false [8, 9, 10] (fun ρ w => K1 (ρ 10) w) rfl rfl (fun T hT => guardP_mono h (fun h => ?_) (fun h => ?_)) (fun σ w h => ?_)
  · refine zm ?_
    refine zx h fun t9 w h => ?_
    refine zb h fun t10 w h => ?_
    refine zn ?_
    exact zt hT h
  · exact zt hT h
  subst hK
  refine sim_seg 2 rfl ?_
  refine sim_pick h rfl rfl rfl ?_; intro t11 h
  refine zm <| zn ?_
  refine joinK_elim h (fun K2 hK h => ?_)
  refine sim_groupJ 4 8 false [13, 14, 15, 16] (fun ρ w => K2 (ρ 16) w) rfl rfl (fun T hT => guardP_mono h (fun h => ?_) (fun h => ?_)) (fun σ w h => ?_)
  · refine zm ?_
    refine zv h fun t14 w h => ?_
    refine zc h c48 fun t15 w h => ?_
    refine zv h fun t16 w h => ?_
    refine zn ?_
    exact zt hT h
  · exact zt hT h
  subst hK
  refine sim_seg 1 rfl ?_
  refine sim_pick h rfl rfl rfl ?_; intro t17 h
  refine zn <| sim_end <| zk ?_
  refine sim_cond h rfl (fun h => ?_) (fun h => ?_)
  · refine zs <| zr <| zm <| zn <| zk <| sim_ret <| sim_then_ret ?_
    exact body_ret1 rfl rfl h
  · refine sim_skip <| zk <| zs <| zs <| zr <| zm <| zn <| zk <| sim_block ?_
    obtain ⟨I, μ, h0, hr⟩ := h
    refine sim_loop [2, 3, 18, 19, 20, 21, 22, 23, 24, 25, 26, 27, 28, 29, 30, 31, 32, 33, 34, 35, 36, 37, 38, 39, 40, 41] (by kernel_rfl) (fun ρ w => I (ρ 3) w) (fun ρ w => μ (ρ 3) w) h0 (fun σ w hI => ?_)
    have h := hr _ _ hI
    clear hr h0 hI
    refine zs <| zs <| zr <| zm <| zm ?_
    refine zx h fun t20 w h => ?_
    refine zb h fun t21 w h => ?_
    refine zn <| zk ?_
    refine sim_cond h rfl (fun h => ?_) (fun h => ?_)
    · refine sim_skip <| zk <| zs <| sim_block <| zs <| sim_regionG ?_
      refine sim_seg 6 rfl ?_
      refine zm <| zm ?_
      refine zv h fun t26 w h => ?_
      refine zc h c48 fun t27 w h => ?_
      refine zv h fun t28 w h => ?_
      refine zm <| zn ?_
      refine joinK_elim h (fun K4 hK h => ?_)
      refine sim_groupJ 5 5 true [30, 31, 32, 33, 34] (fun ρ w => K4 (ρ 34) w) rfl rfl (fun T hT => guardP_mono h (fun h => ?_) (fun h => ?_)) (fun σ w h => ?_)
      · refine zm <| zm ?_
        refine zv h fun t32 w h => ?_
        refine zc h c49 fun t33 w h => ?_
        refine zv h fun t34 w h => ?_
        refine zn ?_
        exact zt hT h
      · exact zt hT h
      subst hK
      refine sim_seg 2 rfl ?_
      refine sim_pick h rfl rfl rfl ?_; intro t35 h
      refine zm <| zn ?_
      refine joinK_elim h (fun K5 hK h => ?_)
      refine sim_groupJ 4 12 true [37, 38, 39, 40] (fun ρ w => K5 (ρ 40) w) rfl rfl (fun T hT => guardP_mono h (fun h => ?_) (fun h => ?_)) (fun σ w h => ?_)
      · refine zm <| zm ?_
        refine zv h fun t39 w h => ?_
        refine zb h fun t40 w h => ?_
        refine zn ?_
        exact zt hT h
      · exact zt hT h
      subst hK
      refine sim_seg 1 rfl ?_
      refine sim_pick h rfl rfl rfl ?_; intro t41 h
      refine zn <| sim_end <| zk ?_
      refine sim_cond h rfl (fun h => ?_) (fun h => ?_)
      · refine zs <| zr <| zm <| zn <| zk <| sim_ret <| sim_block_ret <| sim_then_ret <| sim_then_ret <| sim_block_ret <| sim_then_ret ?_
        exact body_ret1 rfl rfl h
      · refine sim_skip <| sim_block_normal <| zk <| zr <| zm ?_
        refine zb h fun t23 w h => ?_
        refine zm <| zn <| zk ?_
        exact ⟨rfl, h⟩
    · refine sim_exit <| sim_then_exit <| sim_then_exit <| sim_block_hit <| zk <| zs <| zr <| zm <| zn <| zk <| sim_ret ?_
      exact body_ret1 rfl rfl h
def n_schema_Depth (t0 t1 : Value) (R : Ending → World → Prop) (w : World) : Prop :=
 opV Try.prog (Instr.box 44 t0) (panK R) w fun t2 w =>
 opV Try.prog (Instr.loadAt 44 t2) (panK R) w fun t6 w =>
 callK Try.prog 50 #[t6, t1, (.func (.func 51) #[] #[])] (panK R) w fun t8 w =>
 opV Try.prog (Instr.extract t8 0) (panK R) w fun t9 w =>
 opV Try.prog (Instr.extract t8 1) (panK R) w fun t10 w =>
 R (.returned (.tuple #[t9, t10])) w
set_option maxRecDepth 100000 in
set_option maxHeartbeats 4000000 in
theorem n_schema_Depth_sound {t0 t1 : Value} {R : Ending → World → Prop} {w : World} (h : n_schema_Depth t0 t1 R w) : Calls Try.prog 29 #[t0, t1] w R := by
  refine calls_of_den (args := [t0, t1]) Try.func29 rfl (Nat.le_of_ble_eq_true rfl) ?_
  unfold n_schema_Depth at h
  refine zs <| zr ?_
  refine zv h fun t2 w h => ?_
  refine zm <| zm <| zn <| zk <| zs <| zr ?_
  refine zv h fun t6 w h => ?_
  refine zm ?_
  refine zc h c50 fun t8 w h => ?_
  refine zv h fun t9 w h => ?_
  refine zv h fun t10 w h => ?_
  refine zm <| zm <| zn <| zk <| sim_ret ?_
  exact body_ret2 rfl rfl rfl h
end Go.Proofs.Ytiajhbbmgglmlaa
namespace Go.Proofs.Ytiajhbbmgglmlaa
open Sw
open Go.RowKit (intOf Below)
set_option maxRecDepth 100000
def refsF (f : FieldD) : List ByteArray := if f.kind = 7 ∨ f.kind = 8 ∨ f.kind = 12 then [f.of] else if f.kind = 9 then f.cases.map (·.of) else []
def allRefs (l : List FieldD) : List ByteArray := l.flatMap refsF
abbrev strEnc (s : ByteArray) : List Value := [.string s]
theorem append_str {w : World} {QP : List PanicEntry → World → Prop} {k : Value → World → Prop} {base : Nat} {v : Value} {l : List ByteArray} (s : ByteArray) {b : Nat} (hown : OwnE w base 9 1 strEnc v l) (hc : w.cell? ⟨b, 0, none⟩ = some (.string s)) (hbase : base ≤ w.heap.size) (hl : l.length ≤ 1048576)
    (hk : ∀ v' w', OwnE w' base 9 1 strEnc v' (l ++ [s]) → w.grownBy w' v.ownBlock → k v' w') :
    opV Try.prog (Builtin.append_ #[63, 63] 63 #[v, .slice (some ⟨b, 0, none⟩) 1 1]) QP w k := by
  have hby := by9
  refine op_appendE (l' := [s]) Try.underlying63 ty9 rfl (by decide) (fun _ => rfl) (fun x _ u hu => by simp at hu; subst hu; rfl) hown (fun j x hx => ?_) hbase ?_ (by simp; omega) hk
  · cases j with
    | zero =>
      simp at hx; subst hx
      intro j v hv
      cases j with
      | zero => simp at hv; subst hv; simpa using hc
      | succ j => simp at hv
    | succ j => simp at hx
  · simp only [List.length_cons, List.length_nil]
    exact Nat.le_trans (Nat.mul_le_mul (Nat.add_le_add_right hl 1) hby) (by decide)
def StrsAt (w : World) (pb : Nat) (sv : Value) (l : List ByteArray) : Prop := w.cell? ⟨pb, 0, none⟩ = some sv ∧ SliceOf w 1 EStr sv l ∧ ∀ A m c, sv = .slice (some A) m c → pb < A.block
theorem StrsAt.ext {w w' : World} {pb : Nat} {sv : Value} {l : List ByteArray} (h : StrsAt w pb sv l) (e : Ext w w') : StrsAt w' pb sv l := ⟨e.cell h.1, h.2.1.ext keptStr e, h.2.2⟩
theorem append_cell {w0 w : World} {QP : List PanicEntry → World → Prop} {ku : World → Prop} {pb lo p : Nat} {sv : Value} {l : List ByteArray} (s : ByteArray) {T T' : TypeId} (hp : p = w.heap.size) (e : Ext w0 w) (h0 : w0.heap.size ≤ pb) (hlo : pb < lo) (o3 : w.heap[pb]? = some (.cells #[sv] T (0, 0))) (hO : OwnE w lo 9 1 strEnc sv l) (hs : lo ≤ w.heap.size) (hl : l.length ≤ 1048576)
    (hk : ∀ w' sv', Ext w0 w' → w'.heap[pb]? = some (.cells #[sv'] T (0, 0)) → OwnE w' lo 9 1 strEnc sv' (l ++ [s]) → lo ≤ w'.heap.size → ku w') :
    opV Try.prog (Builtin.append_ #[63, 63] 63 #[sv, .slice (some ⟨p, 0, none⟩) 1 1]) QP (w.alloc (.cells #[.string s] T')) (fun t w => opU Try.prog (Instr.storeAt 63 (.pointer (some ⟨pb, 0, none⟩)) t) QP w ku) := by
  subst hp
  have l3 : pb < w.heap.size := (Array.getElem?_eq_some_iff.1 o3).1
  have o3' := ((Ext.refl w).alloc (.cells #[.string s] T')).obj o3
  refine append_str s (hO.ext ((Ext.refl w).alloc _)) (by rw [cell_new]; rfl) (Nat.le_trans hs (by simp)) hl ?_
  intro v' w' hO' hg
  have hne : some pb ≠ sv.ownBlock := by
    intro h
    have := hO.lt pb h.symm
    omega
  have o3w : w'.heap[pb]? = some (.cells #[sv] T (0, 0)) := by rw [hg.block pb (by simp; omega) hne]; exact o3'
  have eg : Ext w0 w' := (e.alloc _).grown hg (fun k hk => by have := hO.lt k hk; omega)
  have hv := (hO'.slice (E := EStr) (fun _ => rfl) (fun _ _ => rfl)).oneCell
  rw [op_store1 ty63 hv ((cells_of_heap o3w).1 0) ((cells_of_heap o3w).2 0)]
  refine hk _ v' (eg.setCell h0 _) ?_ ((hO'.range.only (Only.setCell w' pb 0 v') (.inr (.inl hlo))).1) ?_
  · have := heap_set (o := 0) o3w v'
    simpa using this
  · have := hg.size
    simp at this ⊢
    omega
set_option maxHeartbeats 1600000 in
theorem Refers_ret (w0 : World) (v : Value) (m : MsgD) (hm : MsgVal w0 v m) (hb : (allRefs m.fields).length ≤ 1048576) :
    Ret Try.prog 24 #[v] w0 fun r w' => ∃ pb sv, r = .func (.func 45) #[] #[.pointer (some ⟨pb, 0, none⟩)] ∧ StrsAt w' pb sv (allRefs m.fields) ∧ w0.heap.size ≤ pb ∧ Ext w0 w' := by
  obtain ⟨fv, rfl, hF⟩ := hm
  obtain ⟨A, c, rfl, hlc, hcm, hlm, hel⟩ := SliceOf.open hF
  refine n_schema_Refers_sound (R := retR _) ?_; unfold n_schema_Refers
  simp (disch := first | assumption | (simp only [ONE]; done) | rfl | (simp only [SZ]; done) | omega | (simp only [SZ] at *; omega)) only [↓PR, QR, Int.reduceBEq, Int.reduceBNe, Int.reduceLT, Int.reduceLE, Int.reduceGT, Int.reduceGE, Int.reduceNeg]
  generalize hW : World.alloc (World.alloc w0 _) _ = W
  have e0 : Ext w0 W := by rw [← hW]; exact ee
  have hsz : W.heap.size = w0.heap.size + 1 + 1 := by rw [← hW]; simp only [World.size_alloc]
  have o3 : W.heap[w0.heap.size + 1]? = some (.cells #[.slice none 0 0] 63 (0, 0)) := by rw [← hW]; simp (disch := first | assumption | (simp only [ONE]; done) | rfl | (simp only [SZ]; done) | omega | (simp only [SZ] at *; omega)) only [↓PR, QR, Int.reduceBEq, Int.reduceBNe, Int.reduceLT, Int.reduceLE, Int.reduceGT, Int.reduceGE, Int.reduceNeg]
  clear hW
  refine loop1_intro (fun a0 w => ∃ (k : Nat) , a0 = .int .i64 (k : Int) ∧ k ≤ m.fields.length ∧ Ext w0 w ∧ (∃ sv, w.heap[w0.heap.size + 1]? = some (.cells #[sv] 63 (0, 0)) ∧ OwnE w W.heap.size 9 1 strEnc sv (allRefs (m.fields.take k)) ∧ W.heap.size ≤ w.heap.size)) (fun a0 _ => m.fields.length - (intOf a0).toNat) ⟨0, rfl, Nat.zero_le _, ee, ⟨_, o3, OwnE.nil _ _ _ _ _, Nat.le_refl _⟩⟩ ?_
  rintro _ w ⟨k, rfl, hk, e, hI⟩
  have se := e.size
  rcases drop_cases hk with ⟨x, hx, hd, hlt, hdec⟩ | ⟨hk, hd, hdec⟩
  · obtain ⟨sv, o3, hO, hsW⟩ := hI
    obtain ⟨b, o, cs, rfl, hl, hA, hE⟩ := hel k x hx
    obtain ⟨tv, cv, rfl, hT, hC, ht1, hc1⟩ := hE.op
    have hpre : (allRefs (m.fields.take (k + 1))) = allRefs (m.fields.take k) ++ refsF x := by unfold allRefs; rw [take_snoc hx, List.flatMap_append]; simp
    have hle : (allRefs (m.fields.take (k + 1))).length ≤ 1048576 := by
      refine Nat.le_trans ?_ hb
      have : m.fields = m.fields.take (k + 1) ++ m.fields.drop (k + 1) := (List.take_append_drop _ _).symm
      conv => rhs; rw [this]
      unfold allRefs
      rw [List.flatMap_append, List.length_append]
      omega
    rw [hpre, List.length_append] at hle
    have hsv := (hO.slice (E := EStr) (fun _ => rfl) (fun _ _ => rfl)).oneCell
    simp (disch := first | assumption | (simp only [ONE]; done) | rfl | (simp only [SZ]; done) | omega | (simp only [SZ] at *; omega)) only [↓PR, QR, Int.reduceBEq, Int.reduceBNe, Int.reduceLT, Int.reduceLE, Int.reduceGT, Int.reduceGE, Int.reduceNeg, ↓n_schema_Refers_c1, ↓n_schema_Refers_c2, ↓n_schema_Refers_c3, ↓n_schema_Refers_c4, ↓n_schema_Refers_c5, ↓n_schema_Refers_c6, ↓n_schema_Refers_c7, hdec, hA.c15]
    generalize hW1 : World.alloc w _ = w1
    have e1 : Ext w w1 := by rw [← hW1]; exact ee
    have o5 : w1.heap[w.heap.size]? = some (.cells (fieldCells x tv cv).toArray 28 (0, 0)) := by rw [← hW1]; simp (disch := first | assumption | (simp only [ONE]; done) | rfl | (simp only [SZ]; done) | omega | (simp only [SZ] at *; omega)) only [↓PR, QR, Int.reduceBEq, Int.reduceBNe, Int.reduceLT, Int.reduceLE, Int.reduceGT, Int.reduceGE, Int.reduceNeg]
    clear hW1
    have s1 := e1.size
    have e01 := e.trans e1
    have o31 := e1.obj o3
    have hO1 := hO.ext e1
    have l5 : w.heap.size < w1.heap.size := (Array.getElem?_eq_some_iff.1 o5).1
    have l3 : w0.heap.size + 1 < w1.heap.size := (Array.getElem?_eq_some_iff.1 o31).1
    by_cases hr : x.kind = 7 ∨ x.kind = 8 ∨ x.kind = 12
    · have hrf : refsF x = [x.of] := by unfold refsF; rw [if_pos hr]
      rw [hrf] at hpre hle
      have key : ∀ b, b = true → n_schema_Refers_c4 (.pointer (some ⟨w0.heap.size + 1, 0, none⟩)) (.pointer (some ⟨w.heap.size, 0, none⟩)) (.int .i64 (k : Int)) (.int .i64 x.kind) (.bool b) (fun a0' w' => (∃ k : Nat, a0' = Value.int IntKind.i64 (k : Int) ∧ k ≤ m.fields.length ∧ Ext w0 w' ∧ ∃ sv, w'.heap[w0.heap.size + 1]? = some (.cells #[sv] 63 (0, 0)) ∧ OwnE w' W.heap.size 9 1 strEnc sv (allRefs (m.fields.take k)) ∧ W.heap.size ≤ w'.heap.size) ∧ m.fields.length - (intOf a0').toNat < m.fields.length - (intOf (Value.int IntKind.i64 (k : Int))).toNat)
          (retR fun r w' => ∃ pb sv, r = .func (.func 45) #[] #[.pointer (some ⟨pb, 0, none⟩)] ∧ StrsAt w' pb sv (allRefs m.fields) ∧ w0.heap.size ≤ pb ∧ Ext w0 w') w1 := by
        rintro b rfl
        simp (disch := first | assumption | (simp only [ONE]; done) | rfl | (simp only [SZ]; done) | omega | (simp only [SZ] at *; omega)) only [↓PR, QR, Int.reduceBEq, Int.reduceBNe, Int.reduceLT, Int.reduceLE, Int.reduceGT, Int.reduceGE, Int.reduceNeg, ↓n_schema_Refers_c1, ↓n_schema_Refers_c2, ↓n_schema_Refers_c3, ↓n_schema_Refers_c4, ↓n_schema_Refers_c5, ↓n_schema_Refers_c6, ↓n_schema_Refers_c7, (cells_of_heap o31).1, (cells_of_heap o5).1]
        refine append_cell x.of rfl e01 (by omega) (by omega) o31 hO1 (by omega) (by simp at hle; omega) ?_
        intro w2 sv2 e2 o32 hO2 hs2
        rw [← hpre] at hO2
        simp (disch := first | assumption | (simp only [ONE]; done) | rfl | (simp only [SZ]; done) | omega | (simp only [SZ] at *; omega)) only [↓PR, QR, Int.reduceBEq, Int.reduceBNe, Int.reduceLT, Int.reduceLE, Int.reduceGT, Int.reduceGE, Int.reduceNeg]
        exact ⟨⟨k + 1, rfl, by omega, ee, ⟨sv2, o32, hO2, hs2⟩⟩, meas_lt hlt⟩
      simp only [World.size_alloc]
      rcases hr with h | h | h
      · rw [h] at key ⊢
        simp (disch := first | assumption | (simp only [ONE]; done) | rfl | (simp only [SZ]; done) | omega | (simp only [SZ] at *; omega)) only [↓PR, QR, Int.reduceBEq, Int.reduceBNe, Int.reduceLT, Int.reduceLE, Int.reduceGT, Int.reduceGE, Int.reduceNeg]
        exact key true rfl
      · rw [h] at key ⊢
        simp (disch := first | assumption | (simp only [ONE]; done) | rfl | (simp only [SZ]; done) | omega | (simp only [SZ] at *; omega)) only [↓PR, QR, Int.reduceBEq, Int.reduceBNe, Int.reduceLT, Int.reduceLE, Int.reduceGT, Int.reduceGE, Int.reduceNeg, ↓n_schema_Refers_c5]
        exact key true rfl
      · rw [h] at key ⊢
        simp (disch := first | assumption | (simp only [ONE]; done) | rfl | (simp only [SZ]; done) | omega | (simp only [SZ] at *; omega)) only [↓PR, QR, Int.reduceBEq, Int.reduceBNe, Int.reduceLT, Int.reduceLE, Int.reduceGT, Int.reduceGE, Int.reduceNeg, ↓n_schema_Refers_c5]
        exact key true rfl
    · have h7 : (x.kind == 7) = false := by simp; omega
      have h8 : (x.kind == 8) = false := by simp; omega
      have h12 : (x.kind == 12) = false := by simp; omega
      simp only [World.size_alloc]
      by_cases h9 : x.kind = 9
      · have h9' : (x.kind == 9) = true := by simp [h9]
        have hrf : refsF x = x.cases.map (·.of) := by unfold refsF; rw [if_neg hr, if_pos h9]
        rw [hrf] at hpre hle
        obtain ⟨A', c', rfl, hlc', hcm', hlm', hel'⟩ := SliceOf.open hC
        simp (disch := first | assumption | (simp only [ONE]; done) | rfl | (simp only [SZ]; done) | omega | (simp only [SZ] at *; omega)) only [↓PR, QR, Int.reduceBEq, Int.reduceBNe, Int.reduceLT, Int.reduceLE, Int.reduceGT, Int.reduceGE, Int.reduceNeg, ↓n_schema_Refers_c1, ↓n_schema_Refers_c2, ↓n_schema_Refers_c3, ↓n_schema_Refers_c4, ↓n_schema_Refers_c5, ↓n_schema_Refers_c6, ↓n_schema_Refers_c7, h7, h8, h12, h9', (cells_of_heap o5).1]
        refine loop1_intro (fun a0 wa => ∃ (ka : Nat) , a0 = .int .i64 (ka : Int) ∧ ka ≤ x.cases.length ∧ Ext w0 wa ∧ (∃ sv, wa.heap[w0.heap.size + 1]? = some (.cells #[sv] 63 (0, 0)) ∧ OwnE wa W.heap.size 9 1 strEnc sv (allRefs (m.fields.take k) ++ (x.cases.take ka).map (·.of)) ∧ W.heap.size ≤ wa.heap.size)) (fun a0 _ => x.cases.length - (intOf a0).toNat) ⟨0, rfl, Nat.zero_le _, ee, ⟨sv, o31, by simpa using hO1, by omega⟩⟩ ?_
        rintro _ wa ⟨ka, rfl, hka, ea, hIa⟩
        have sea := ea.size
        rcases drop_cases hka with ⟨xa, hxa, hda, hlta, hdeca⟩ | ⟨hka, hda, hdeca⟩
        · obtain ⟨sva, oa, hOa, hsa⟩ := hIa
          obtain ⟨b', o', cs', rfl, _, hA', rfl⟩ := hel' ka xa hxa
          have la : w0.heap.size + 1 < wa.heap.size := (Array.getElem?_eq_some_iff.1 oa).1
          have oa' := ((Ext.refl wa).alloc (.cells #[.int .i64 xa.low, .int .i64 xa.high, .string xa.of] 62)).obj oa
          have hla : (x.cases.take ka).length ≤ x.cases.length := by rw [List.length_take]; omega
          simp (disch := first | assumption | (simp only [ONE]; done) | rfl | (simp only [SZ]; done) | omega | (simp only [SZ] at *; omega)) only [↓PR, QR, Int.reduceBEq, Int.reduceBNe, Int.reduceLT, Int.reduceLE, Int.reduceGT, Int.reduceGE, Int.reduceNeg, ↓n_schema_Refers_c1, ↓n_schema_Refers_c2, ↓n_schema_Refers_c3, ↓n_schema_Refers_c4, ↓n_schema_Refers_c5, ↓n_schema_Refers_c6, ↓n_schema_Refers_c7, hdeca, hA'.c3, (cells_of_heap oa').1, (cells_of_heap oa).1]
          refine append_cell xa.of (by simp only [World.size_alloc]) (ea.alloc _) (by omega) (by omega) oa' (hOa.ext ((Ext.refl wa).alloc _)) (by simp; omega) (by simp at hle hla ⊢; omega) ?_
          intro w2 sv2 e2 o32 hO2 hs2
          simp (disch := first | assumption | (simp only [ONE]; done) | rfl | (simp only [SZ]; done) | omega | (simp only [SZ] at *; omega)) only [↓PR, QR, Int.reduceBEq, Int.reduceBNe, Int.reduceLT, Int.reduceLE, Int.reduceGT, Int.reduceGE, Int.reduceNeg]
          have hO3 : OwnE w2 W.heap.size 9 1 strEnc sv2 (allRefs (m.fields.take k) ++ (x.cases.take (ka + 1)).map (·.of)) := by
            rw [take_snoc hxa, List.map_append, ← List.append_assoc]; exact hO2
          exact ⟨⟨ka + 1, rfl, by omega, ee, ⟨sv2, o32, hO3, hs2⟩⟩, meas_lt hlta⟩
        · subst hka
          obtain ⟨sva, oa, hOa, hsa⟩ := hIa
          rw [List.take_length, ← hpre] at hOa
          simp (disch := first | assumption | (simp only [ONE]; done) | rfl | (simp only [SZ]; done) | omega | (simp only [SZ] at *; omega)) only [↓PR, QR, Int.reduceBEq, Int.reduceBNe, Int.reduceLT, Int.reduceLE, Int.reduceGT, Int.reduceGE, Int.reduceNeg, ↓n_schema_Refers_c1, ↓n_schema_Refers_c2, ↓n_schema_Refers_c3, ↓n_schema_Refers_c4, ↓n_schema_Refers_c5, ↓n_schema_Refers_c6, ↓n_schema_Refers_c7, hdeca]
          exact ⟨⟨k + 1, rfl, by omega, ee, ⟨sva, oa, hOa, hsa⟩⟩, meas_lt hlt⟩
      · have h9' : (x.kind == 9) = false := by simp; omega
        have hrf : refsF x = [] := by unfold refsF; rw [if_neg hr, if_neg h9]
        rw [hrf, List.append_nil] at hpre
        rw [← hpre] at hO1
        simp (disch := first | assumption | (simp only [ONE]; done) | rfl | (simp only [SZ]; done) | omega | (simp only [SZ] at *; omega)) only [↓PR, QR, Int.reduceBEq, Int.reduceBNe, Int.reduceLT, Int.reduceLE, Int.reduceGT, Int.reduceGE, Int.reduceNeg, ↓n_schema_Refers_c1, ↓n_schema_Refers_c2, ↓n_schema_Refers_c3, ↓n_schema_Refers_c4, ↓n_schema_Refers_c5, ↓n_schema_Refers_c6, ↓n_schema_Refers_c7, h7, h8, h12, h9', (cells_of_heap o5).1]
        exact ⟨⟨k + 1, rfl, by omega, ee, ⟨sv, o31, hO1, by omega⟩⟩, meas_lt hlt⟩
  · subst hk
    obtain ⟨sv, o3, hO, hsW⟩ := hI
    rw [List.take_length] at hO
    simp (disch := first | assumption | (simp only [ONE]; done) | rfl | (simp only [SZ]; done) | omega | (simp only [SZ] at *; omega)) only [↓PR, QR, Int.reduceBEq, Int.reduceBNe, Int.reduceLT, Int.reduceLE, Int.reduceGT, Int.reduceGE, Int.reduceNeg, ↓n_schema_Refers_c1, ↓n_schema_Refers_c2, ↓n_schema_Refers_c3, ↓n_schema_Refers_c4, ↓n_schema_Refers_c5, ↓n_schema_Refers_c6, ↓n_schema_Refers_c7, hdec]
    have hS := hO.slice (E := EStr) (fun _ => rfl) (fun _ _ => rfl)
    exact ⟨_, sv, rfl, ⟨(cells_of_heap o3).1 0, hS, fun A m c e => by subst e; have := hO.lt A.block rfl; omega⟩, by omega, e⟩
theorem Index_string_ret (w0 : World) (v : Value) (l : List ByteArray) (s : ByteArray) (hs : SliceOf w0 1 EStr v l) :
    Ret Try.prog 60 #[v, .string s] w0 fun r w' => r = .int .i64 (idx (fun y => decide (s = y)) l) ∧ Ext w0 w' := by
  obtain ⟨A, c, rfl, hlc, hcm, hlm, hel⟩ := SliceOf.open hs
  refine n_slices_Index_string_sound (R := retR _) ?_; unfold n_slices_Index_string
  simp (disch := first | assumption | (simp only [ONE]; done) | rfl | (simp only [SZ]; done) | omega | (simp only [SZ] at *; omega)) only [↓PR, QR, Int.reduceBEq, Int.reduceBNe, Int.reduceLT, Int.reduceLE, Int.reduceGT, Int.reduceGE, Int.reduceNeg]
  refine loop1_intro (fun a0 w => ∃ (k : Nat) , a0 = .int .i64 (k : Int) ∧ k ≤ l.length ∧ Ext w0 w ∧ ∀ (j : Nat) y, j < k → l[j]? = some y → decide (s = y) = false) (fun a0 _ => l.length - (intOf a0).toNat) ⟨0, rfl, Nat.zero_le _, ee, fun j y h => by omega⟩ ?_
  rintro _ w ⟨k, rfl, hk, e, hI⟩
  have se := e.size
  rcases drop_cases hk with ⟨x, hx, hd, hlt, hdec⟩ | ⟨hk, hd, hdec⟩
  · obtain ⟨b, o, cs, rfl, hl, hA, rfl⟩ := hel k x hx
    simp (disch := first | assumption | (simp only [ONE]; done) | rfl | (simp only [SZ]; done) | omega | (simp only [SZ] at *; omega)) only [↓PR, QR, Int.reduceBEq, Int.reduceBNe, Int.reduceLT, Int.reduceLE, Int.reduceGT, Int.reduceGE, Int.reduceNeg, hdec, hA.c1, ↓n_slices_Index_string_c1]
    cases hp : decide (s = x) with
    | true =>
      simp (disch := first | assumption | (simp only [ONE]; done) | rfl | (simp only [SZ]; done) | omega | (simp only [SZ] at *; omega)) only [↓PR, QR, Int.reduceBEq, Int.reduceBNe, Int.reduceLT, Int.reduceLE, Int.reduceGT, Int.reduceGE, Int.reduceNeg]
      exact ⟨by rw [idx_here hx hp hI], e⟩
    | false =>
      simp (disch := first | assumption | (simp only [ONE]; done) | rfl | (simp only [SZ]; done) | omega | (simp only [SZ] at *; omega)) only [↓PR, QR, Int.reduceBEq, Int.reduceBNe, Int.reduceLT, Int.reduceLE, Int.reduceGT, Int.reduceGE, Int.reduceNeg]
      exact ⟨⟨k + 1, rfl, by omega, ee, before_succ hI hx hp⟩, meas_lt hlt⟩
  · subst hk
    simp (disch := first | assumption | (simp only [ONE]; done) | rfl | (simp only [SZ]; done) | omega | (simp only [SZ] at *; omega)) only [↓PR, QR, Int.reduceBEq, Int.reduceBNe, Int.reduceLT, Int.reduceLE, Int.reduceGT, Int.reduceGE, Int.reduceNeg, hdec, ↓n_slices_Index_string_c1]
    exact ⟨by rw [idx_none fun j y hy => hI j y (List.getElem?_eq_some_iff.1 hy).1 hy], e⟩
theorem Contains_string_ret (w0 : World) (v : Value) (l : List ByteArray) (s : ByteArray) (hs : SliceOf w0 1 EStr v l) :
    Ret Try.prog 46 #[v, .string s] w0 fun r w' => r = .bool (l.any fun y => decide (s = y)) ∧ Ext w0 w' := by
  refine n_slices_Contains_string_sound (R := retR _) ?_; unfold n_slices_Contains_string
  refine callK_ret (Index_string_ret _ _ l s hs) ?_
  rintro r w' ⟨rfl, e⟩
  simp (disch := first | assumption | (simp only [ONE]; done) | rfl | (simp only [SZ]; done) | omega | (simp only [SZ] at *; omega)) only [↓PR, QR, Int.reduceBEq, Int.reduceBNe, Int.reduceLT, Int.reduceLE, Int.reduceGT, Int.reduceGE, Int.reduceNeg, Sw.joinK_eq]
  exact ⟨by rw [idx_neg], e⟩
def dedupA : List ByteArray → List ByteArray → List ByteArray
  | _, [] => []
  | seen, s :: l => if seen.any (fun y => decide (s = y)) then dedupA (seen ++ [s]) l else s :: dedupA (seen ++ [s]) l
def strX (l : List ByteArray) (k : Nat) : Value := match l[k]? with
  | some s => .string s
  | none => undef
theorem Refers_seq (pb : Nat) (sv : Value) (l : List ByteArray) : SeqIt Try.prog 45 #[.pointer (some ⟨pb, 0, none⟩)] (dedupA [] l).length (strX (dedupA [] l)) (fun w => StrsAt w pb sv l) := by
  intro yv J Jx Jp w hFP hJe hJx hstep h0
  obtain ⟨hc, hT, _⟩ := hFP 0 w h0
  obtain ⟨A, c, rfl, hlc, hcm, hlm, hel⟩ := SliceOf.open hT
  refine n_schema_Refers_1_sound (t0 := yv) (t1 := .pointer (some ⟨pb, 0, none⟩)) ?_
  unfold n_schema_Refers_1
  simp (disch := first | assumption | (simp only [ONE]; done) | rfl | (simp only [SZ]; done) | omega | (simp only [SZ] at *; omega)) only [↓PR, QR, Int.reduceBEq, Int.reduceBNe, Int.reduceLT, Int.reduceLE, Int.reduceGT, Int.reduceGE, Int.reduceNeg, hc]
  refine loop1_intro (fun i w => ∃ k j : Nat, i = .int .i64 k ∧ k ≤ l.length ∧ J j w ∧ j ≤ (dedupA [] l).length ∧ (dedupA [] l).drop j = dedupA (l.take k) (l.drop k)) (fun i _ => l.length - (intOf i).toNat) ⟨0, 0, rfl, by omega, h0, by omega, rfl⟩ ?_
  rintro i w' ⟨k, j, rfl, hk, hJ, hj, hD⟩
  rcases drop_cases hk with ⟨x, hx, hd, hlt, hdec⟩ | ⟨hk, hd, hdec⟩
  · obtain ⟨hc', hT', _⟩ := hFP j w' hJ
    obtain ⟨A', c', hv, _, hcm', _, hel'⟩ := SliceOf.open hT'
    injection hv with hv _ hv'
    subst hv hv'
    obtain ⟨b, o, cs, rfl, hl, hA, rfl⟩ := hel' k x hx
    have er := Ext.refl w'
    rw [hd] at hD
    simp only [dedupA] at hD
    simp (disch := first | assumption | (simp only [ONE]; done) | rfl | (simp only [SZ]; done) | omega | (simp only [SZ] at *; omega)) only [↓PR, QR, Int.reduceBEq, Int.reduceBNe, Int.reduceLT, Int.reduceLE, Int.reduceGT, Int.reduceGE, Int.reduceNeg, ↓n_schema_Refers_1_c1, ↓n_schema_Refers_1_c2, hdec, hA.c1, hc']
    rw [op_sliceTo Try.underlying63 ty9 b o l.length c .i64 k (by omega)]
    have hlen : (l.take k).length = k := by rw [List.length_take]; omega
    have hpre : SliceOf w' 1 EStr (.slice (some ⟨b, o, none⟩) k c) (l.take k) := by
      refine ⟨_, c, by rw [hlen], by rw [hlen]; omega, hcm, fun _ => ⟨b, o, rfl, fun i y hy => ?_⟩⟩
      rw [List.getElem?_take] at hy
      split at hy
      · obtain ⟨b', o', cs, hA', h1, h2, h3⟩ := hel' i y hy
        injection hA' with hA'
        injection hA' with h5 h6
        subst h5 h6
        exact ⟨cs, h1, h2, h3⟩
      · cases hy
    refine callK_ret (Contains_string_ret w' _ _ x hpre) ?_
    rintro _ w2 ⟨rfl, e2⟩
    have hJ2 := hJe j w' w2 hJ e2
    have htk : l.take (k + 1) = l.take k ++ [x] := take_snoc hx
    cases hany : (l.take k).any (fun y => decide (x = y)) with
    | true =>
      rw [hany, if_pos rfl, ← htk] at hD
      simp (disch := first | assumption | (simp only [ONE]; done) | rfl | (simp only [SZ]; done) | omega | (simp only [SZ] at *; omega)) only [↓PR, QR, Int.reduceBEq, Int.reduceBNe, Int.reduceLT, Int.reduceLE, Int.reduceGT, Int.reduceGE, Int.reduceNeg, ↓n_schema_Refers_1_c1, ↓n_schema_Refers_1_c2]
      exact ⟨⟨k + 1, j, rfl, by omega, hJ2, hj, hD⟩, meas_lt hlt⟩
    | false =>
      rw [hany, if_neg (by simp), ← htk] at hD
      have hjl : j < (dedupA [] l).length := by
        have := congrArg List.length hD
        simp at this
        omega
      have hxj : (dedupA [] l)[j]? = some x := by
        have := congrArg (fun l => l[0]?) hD
        simpa using this
      have hD2 : (dedupA [] l).drop (j + 1) = dedupA (l.take (k + 1)) (l.drop (k + 1)) := by
        rw [← List.tail_drop, hD]; rfl
      have hs := hstep j hjl w2 hJ2
      rw [show strX (dedupA [] l) j = .string x by unfold strX; rw [hxj]] at hs
      simp (disch := first | assumption | (simp only [ONE]; done) | rfl | (simp only [SZ]; done) | omega | (simp only [SZ] at *; omega)) only [↓PR, QR, Int.reduceBEq, Int.reduceBNe, Int.reduceLT, Int.reduceLE, Int.reduceGT, Int.reduceGE, Int.reduceNeg, ↓n_schema_Refers_1_c1, ↓n_schema_Refers_1_c2]
      refine callV_mono hs (fun ch w h => h) ?_
      rintro v w3 (⟨rfl, h2⟩ | ⟨rfl, h2⟩)
      · simp (disch := first | assumption | (simp only [ONE]; done) | rfl | (simp only [SZ]; done) | omega | (simp only [SZ] at *; omega)) only [↓PR, QR, Int.reduceBEq, Int.reduceBNe, Int.reduceLT, Int.reduceLE, Int.reduceGT, Int.reduceGE, Int.reduceNeg, ↓n_schema_Refers_1_c1, ↓n_schema_Refers_1_c2]
        exact ⟨⟨k + 1, j + 1, rfl, by omega, h2, hjl, hD2⟩, meas_lt hlt⟩
      · simp (disch := first | assumption | (simp only [ONE]; done) | rfl | (simp only [SZ]; done) | omega | (simp only [SZ] at *; omega)) only [↓PR, QR, Int.reduceBEq, Int.reduceBNe, Int.reduceLT, Int.reduceLE, Int.reduceGT, Int.reduceGE, Int.reduceNeg, ↓n_schema_Refers_1_c1, ↓n_schema_Refers_1_c2]
        exact .inr h2
  · subst hk
    simp (disch := first | assumption | (simp only [ONE]; done) | rfl | (simp only [SZ]; done) | omega | (simp only [SZ] at *; omega)) only [↓PR, QR, Int.reduceBEq, Int.reduceBNe, Int.reduceLT, Int.reduceLE, Int.reduceGT, Int.reduceGE, Int.reduceNeg, ↓n_schema_Refers_1_c1, ↓n_schema_Refers_1_c2, hdec]
    rw [hd] at hD
    have hjl : j = (dedupA [] l).length := by
      have := congrArg List.length hD
      simp [dedupA] at this
      omega
    rw [← hjl]
    exact .inl hJ
end Go.Proofs.Ytiajhbbmgglmlaa
namespace Go.Proofs.Ytiajhbbmgglmlaa
open Sw
open Go.RowKit (intOf Below)
set_option maxRecDepth 100000
def lastP {β : Type} (l : List (ByteArray × β)) (s : ByteArray) : Option β := (l.reverse.find? (fun p => decide (p.1 = s))).map (·.2)
theorem lastP_snoc {β : Type} (ps : List (ByteArray × β)) (p : ByteArray × β) (s : ByteArray) : lastP (ps ++ [p]) s = if p.1 = s then some p.2 else lastP ps s := by
  unfold lastP
  rw [List.reverse_append, List.reverse_singleton, List.singleton_append, List.find?_cons]
  by_cases h : p.1 = s <;> simp [h]
theorem lastP_mem {β : Type} {ps : List (ByteArray × β)} {s : ByteArray} {v : β} (h : lastP ps s = some v) : (s, v) ∈ ps := by
  unfold lastP at h
  obtain ⟨q, hq, rfl⟩ := Option.map_eq_some_iff.1 h
  have h1 := List.find?_some hq
  have h2 := List.mem_of_find?_eq_some hq
  simp only [decide_eq_true_eq] at h1
  subst h1
  exact List.mem_reverse.1 h2
def vI (l : List (ByteArray × Int)) : List (ByteArray × Value) := l.map fun p => (p.1, .int .i64 p.2)
def vB (l : List (ByteArray × Bool)) : List (ByteArray × Value) := l.map fun p => (p.1, .bool p.2)
theorem lastOf_map {β : Type} (g : β → Value) (l : List (ByteArray × β)) (s : ByteArray) : lastOf (l.map fun p => (p.1, g p.2)) s = (lastP l s).map g := by
  unfold lastOf lastP
  rw [← List.map_reverse, List.find?_map]
  simp only [Option.map_map]
  rfl
theorem lastOf_vI (l : List (ByteArray × Int)) (s : ByteArray) : lastOf (vI l) s = (lastP l s).map fun n => .int .i64 n := lastOf_map _ l s
theorem lastOf_vB (l : List (ByteArray × Bool)) (s : ByteArray) : lastOf (vB l) s = (lastP l s).map Value.bool := lastOf_map _ l s
theorem strB_vB (l : List (ByteArray × Bool)) (s : ByteArray) : strB (vB l) s = (lastP l s).getD false := by
  unfold strB; rw [lastOf_vB]; cases lastP l s <;> rfl
structure CkO (a0 w : World) (cb md ms : Nat) (deps : List (ByteArray × Int)) (strs : List (ByteArray × Bool)) (at_ fld : Int) (fs : List FieldD) : Prop where
  ext : Ext a0 w
  obj : ∃ dn mv ds mn fv, w.heap[cb]? = some (.cells #[.string dn, mv, .string ds, .map (some md), .map (some ms), .int .i64 at_, .int .i64 fld, .string mn, fv] 101 (0, 0)) ∧ FieldsOf a0 fv fs
  mdeps : MapOf w md (vI deps)
  mstrs : MapOf w ms (vB strs)
  lcb : a0.heap.size ≤ cb
  lmd : a0.heap.size ≤ md
  lms : a0.heap.size ≤ ms
  ne : md ≠ ms
section
variable {a0 w w' : World} {cb md ms : Nat} {deps : List (ByteArray × Int)} {strs : List (ByteArray × Bool)} {at_ fld : Int} {fs : List FieldD}
theorem CkO.chk (h : CkO a0 w cb md ms deps strs at_ fld fs) : Chk w cb md ms (vI deps) (vB strs) at_ fld fs := by
  obtain ⟨dn, mv, ds, mn, fv, h1, h2⟩ := h.obj
  refine ⟨⟨dn, mv, ds, mn, fv, h1, h2.ext h.ext⟩, h.mdeps, h.mstrs, fun k v hv => ?_, fun k v hv => ?_⟩
  · rw [lastOf_vI] at hv; obtain ⟨n, _, rfl⟩ := Option.map_eq_some_iff.1 hv; exact ⟨n, rfl⟩
  · rw [lastOf_vB] at hv; obtain ⟨n, _, rfl⟩ := Option.map_eq_some_iff.1 hv; exact ⟨n, rfl⟩
theorem CkO.nd (h : CkO a0 w cb md ms deps strs at_ fld fs) : cb ≠ md ∧ cb ≠ ms ∧ cb < w.heap.size ∧ md < w.heap.size ∧ ms < w.heap.size := by
  obtain ⟨dn, mv, ds, mn, fv, h1, h2⟩ := h.obj
  refine ⟨?_, ?_, (Array.getElem?_eq_some_iff.1 h1).1, h.mdeps.lt, h.mstrs.lt⟩
  · rintro rfl; have := h.mdeps.obj; rw [h1] at this; cases this
  · rintro rfl; have := h.mstrs.obj; rw [h1] at this; cases this
theorem CkO.go (h : CkO a0 w cb md ms deps strs at_ fld fs) (e : Ext w w') : CkO a0 w' cb md ms deps strs at_ fld fs := by
  obtain ⟨dn, mv, ds, mn, fv, h1, h2⟩ := h.obj
  exact ⟨h.ext.trans e, ⟨dn, mv, ds, mn, fv, e.obj h1, h2⟩, h.mdeps.ext e, h.mstrs.ext e, h.lcb, h.lmd, h.lms, h.ne⟩
theorem CkO.other (h : CkO a0 w cb md ms deps strs at_ fld fs) {b o : Nat} (hb : a0.heap.size ≤ b) (hn : b ≠ cb) (v : Value) : CkO a0 (w.setCell ⟨b, o, none⟩ v) cb md ms deps strs at_ fld fs := by
  obtain ⟨dn, mv, ds, mn, fv, h1, h2⟩ := h.obj
  refine ⟨h.ext.setCell hb v, ⟨dn, mv, ds, mn, fv, ?_, h2⟩, h.mdeps.setCell _ _, h.mstrs.setCell _ _, h.lcb, h.lmd, h.lms, h.ne⟩
  rw [Only.setCell w b o v cb (fun e => hn e.symm)]; exact h1
theorem CkO.setFld (h : CkO a0 w cb md ms deps strs at_ fld fs) (n : Int) : CkO a0 (w.setCell ⟨cb, 6, none⟩ (.int .i64 n)) cb md ms deps strs at_ n fs := by
  obtain ⟨dn, mv, ds, mn, fv, h1, h2⟩ := h.obj
  exact ⟨h.ext.setCell h.lcb _, ⟨dn, mv, ds, mn, fv, heap_set h1 _, h2⟩, h.mdeps.setCell _ _, h.mstrs.setCell _ _, h.lcb, h.lmd, h.lms, h.ne⟩
theorem CkO.setAt (h : CkO a0 w cb md ms deps strs at_ fld fs) (n : Int) : CkO a0 (w.setCell ⟨cb, 5, none⟩ (.int .i64 n)) cb md ms deps strs n fld fs := by
  obtain ⟨dn, mv, ds, mn, fv, h1, h2⟩ := h.obj
  exact ⟨h.ext.setCell h.lcb _, ⟨dn, mv, ds, mn, fv, heap_set h1 _, h2⟩, h.mdeps.setCell _ _, h.mstrs.setCell _ _, h.lcb, h.lmd, h.lms, h.ne⟩
theorem CkO.setMsg (h : CkO a0 w cb md ms deps strs at_ fld fs) (s : ByteArray) (fv' : Value) (fs' : List FieldD) (hf : FieldsOf a0 fv' fs') : CkO a0 ((w.setCell ⟨cb, 7, none⟩ (.string s)).setCell ⟨cb, 8, none⟩ fv') cb md ms deps strs at_ fld fs' := by
  obtain ⟨dn, mv, ds, mn, fv, h1, h2⟩ := h.obj
  exact ⟨(h.ext.setCell h.lcb _).setCell h.lcb _, ⟨dn, mv, ds, s, fv', heap_set (heap_set h1 _) _, hf⟩, (h.mdeps.setCell _ _).setCell _ _, (h.mstrs.setCell _ _).setCell _ _, h.lcb, h.lmd, h.lms, h.ne⟩
theorem CkO.putOther (h : CkO a0 w cb md ms deps strs at_ fld fs) {B : Nat} (o : Obj) (hB : a0.heap.size ≤ B) (h1 : B ≠ cb) (h2 : B ≠ md) (h3 : B ≠ ms) : CkO a0 (w.putObj B o) cb md ms deps strs at_ fld fs := by
  obtain ⟨dn, mv, ds, mn, fv, h4, h5⟩ := h.obj
  exact ⟨h.ext.putObj hB o, ⟨dn, mv, ds, mn, fv, (World.putObj_heap_other (fun e => h1 e.symm)).trans h4, h5⟩, MapB.putOther h.mdeps (fun e => h2 e.symm) o, MapB.putOther h.mstrs (fun e => h3 e.symm) o, h.lcb, h.lmd, h.lms, h.ne⟩
theorem CkO.unmark (h : CkO a0 w cb md ms deps strs at_ fld fs) {B : Nat} (hm : MarkAt B w) (hB : a0.heap.size ≤ B) : CkO a0 (w.putObj B (.deferred none)) cb md ms deps strs at_ fld fs := by
  obtain ⟨dn, mv, ds, mn, fv, h4, h5⟩ := h.obj
  refine h.putOther _ hB ?_ ?_ ?_
  · rintro rfl; unfold MarkAt at hm; rw [h4] at hm; cases hm
  · rintro rfl; unfold MarkAt at hm; have := h.mdeps.obj; rw [hm] at this; cases this
  · rintro rfl; unfold MarkAt at hm; have := h.mstrs.obj; rw [hm] at this; cases this
theorem CkO.lasts {B : Nat} (hB : a0.heap.size ≤ B) : Lasts B (fun w => CkO a0 w cb md ms deps strs at_ fld fs) := by
  refine ⟨fun w w' h e => h.go e, fun w l r r' hl h hr => ?_⟩
  obtain ⟨dn, mv, ds, mn, fv, h4, h5⟩ := h.obj
  refine h.putOther _ (by omega) ?_ ?_ ?_
  · rintro rfl; rw [h4] at hr; cases hr
  · rintro rfl; have := h.mdeps.obj; rw [hr] at this; cases this
  · rintro rfl; have := h.mstrs.obj; rw [hr] at this; cases this
theorem CkO.turn (h : CkO a0 w cb md ms deps strs at_ fld fs) {o : Obj} {r : Nat} (hr : r = md ∨ r = ms) : CkO a0 w cb md ms deps strs at_ fld fs := h
theorem StrsAt.lasts (B pb : Nat) (sv : Value) (l : List ByteArray) : Lasts B (fun w => StrsAt w pb sv l) :=
  Lasts.and (Lasts.cell B) (Lasts.and ⟨fun _ _ h e => h.ext keptStr e, fun _ _ _ _ _ h hl => SliceOf.putLoop (fun _ _ h => h) hl h⟩ (Lasts.const _ _))
theorem StrsAt.set {w : World} {pb : Nat} {sv : Value} {l : List ByteArray} (h : StrsAt w pb sv l) {b o : Nat} (hb : b < pb) (u : Value) : StrsAt (w.setCell ⟨b, o, none⟩ u) pb sv l :=
  ⟨by rw [cell_set_other (by omega)]; exact h.1, SliceOf.setOther h.2.1 u (fun A m c e => by have := h.2.2 A m c e; omega) (fun _ _ h => h), h.2.2⟩
end
def refsM (m : MsgD) : List ByteArray := dedupA [] (allRefs m.fields)
def fieldsP (deps : List (ByteArray × Int)) (strs : List (ByteArray × Bool)) (bef : List FieldD) : List FieldD → Int × Int
  | [] => (-1, 0)
  | f :: l => if examineC bef (vI deps) (vB strs) f = 0 then fieldsP deps strs (bef ++ [f]) l else (bef.length, examineC bef (vI deps) (vB strs) f)
def maxI (a b : Int) : Int := if b > a then b else a
def depthM (deps : List (ByteArray × Int)) (m : MsgD) : Int := (refsM m).foldl (fun d s => maxI d ((lastP deps s).getD 0)) 0
def strictM (strs : List (ByteArray × Bool)) (m : MsgD) : Bool := (m.fields.all fun f => !f.loose) && (refsM m).all fun s => (lastP strs s).getD false
def tailP (deps : List (ByteArray × Int)) (m : MsgD) (r : Int × Int) : Int × Int := if r.2 = 0 then (if depthM deps m < 16 then (-1, 0) else (-1, 10)) else r
def nextP (deps : List (ByteArray × Int)) (strs : List (ByteArray × Bool)) (m : MsgD) : Int × Int :=
  if nameB m.name then (if (lastP deps m.name).isSome then (-1, 2) else (if 1 ≤ m.fields.length ∧ m.fields.length ≤ 40 then tailP deps m (fieldsP deps strs [] m.fields) else (-1, 3))) else (-1, 1)
def nxtR (a0 : World) (at_ : Int) (r : Int × Int) (K : World → Prop) : Ending → World → Prop := fun e w' => Ext a0 w' ∧ (r.2 = 0 ∧ e = .returned (.tuple #[]) ∧ K w' ∨ r.2 ≠ 0 ∧ e = .panicked [flawEntry at_ r.1 r.2])
theorem nxtR_ret {a0 w' : World} {at_ : Int} {r : Int × Int} {K : World → Prop} (e : Ext a0 w') (h : r.2 = 0) (hK : K w') : nxtR a0 at_ r K (.returned (.tuple #[])) w' := ⟨e, .inl ⟨h, rfl, hK⟩⟩
theorem nxtR_pan {a0 w' : World} {at_ a b : Int} {r : Int × Int} {K : World → Prop} (e : Ext a0 w') (h : r = (a, b)) (h0 : b ≠ 0) : nxtR a0 at_ r K (.panicked [flawEntry at_ a b]) w' := by subst h; exact ⟨e, .inr ⟨h0, rfl⟩⟩
theorem qV_loadG {P : Program} {C : World → Prop} [ClassNe C] {T : TypeId} {a : Addr} {v : Value} {k : Value → Prop} (h : ∀ w', C w' → Loads P w' T a v) : qV P C (Instr.loadAt T (.pointer (some a))) k = k v :=
  qV_eqC fun w' e => run_of_op fun QP k => op_load (h w' e)
section
variable {a0 w : World} {cb md ms : Nat} {deps : List (ByteArray × Int)} {strs : List (ByteArray × Bool)} {at_ fld : Int} {fs : List FieldD}
theorem nxt_end (h : CkO a0 w cb md ms deps strs at_ (-1) fs) (p2 p3 p6 p9 B : Nat) (m : MsgD) (fv : Value) (st : Bool) (dp : Int) (hd0 : 0 ≤ dp) (hd1 : dp ≤ 1000)
    (o2 : w.heap[p2]? = some (.cells #[.pointer (some ⟨cb, 0, none⟩)] 93 (0, 0))) (o3 : w.heap[p3]? = some (.cells (msgCells m fv).toArray 50 (0, 0))) (o6 : w.heap[p6]? = some (.cells #[.bool st] 4 (0, 0))) (o9 : w.heap[p9]? = some (.cells #[.int .i64 dp] 3 (0, 0)))
    (hmk : MarkAt B w) (hB : a0.heap.size ≤ B) (r : Int × Int) (hr : r = if dp < 16 then (-1, 0) else (-1, 10)) (K : World → Prop)
    (hK : ∀ w', CkO a0 w' cb md ms (deps ++ [(m.name, dp + 1)]) (strs ++ [(m.name, st)]) at_ (-1) fs → K w') :
    drawK w fun C12 w => n_schema_checker_next_c8 (.pointer (some ⟨p2, 0, none⟩)) (.pointer (some ⟨p3, 0, none⟩)) (.pointer (some ⟨p6, 0, none⟩)) (.pointer (some ⟨p9, 0, none⟩)) C12 [Sw.mark B] (nxtR a0 at_ r K) w := by
  obtain ⟨n1, n2, l1, l2, l3⟩ := h.nd
  have hne := h.ne
  obtain ⟨dn, mv, ds, mn, fv', h1, h2⟩ := h.obj
  have m2 : p2 ≠ md := by rintro rfl; have := h.mdeps.obj; rw [o2] at this; cases this
  have m3 : p3 ≠ md := by rintro rfl; have := h.mdeps.obj; rw [o3] at this; cases this
  have m6 : p6 ≠ md := by rintro rfl; have := h.mdeps.obj; rw [o6] at this; cases this
  have m9 : p9 ≠ md := by rintro rfl; have := h.mdeps.obj; rw [o9] at this; cases this
  have q2 : p2 ≠ ms := by rintro rfl; have := h.mstrs.obj; rw [o2] at this; cases this
  have q3 : p3 ≠ ms := by rintro rfl; have := h.mstrs.obj; rw [o3] at this; cases this
  have q6 : p6 ≠ ms := by rintro rfl; have := h.mstrs.obj; rw [o6] at this; cases this
  have q9 : p9 ≠ ms := by rintro rfl; have := h.mstrs.obj; rw [o9] at this; cases this
  refine drawK_introB (w1 := w) md ms (fun _ _ _ _ => rfl) ?_
  unfold n_schema_checker_next_c8
  simp (disch := first | assumption | (simp only [ONE]; done) | rfl | (simp only [SZ]; done) | omega | (simp only [SZ] at *; omega)) only [↓PR, QR, Int.reduceBEq, Int.reduceBNe, Int.reduceLT, Int.reduceLE, Int.reduceGT, Int.reduceGE, Int.reduceNeg, (cells_of_heap h1).1, (cells_of_heap o2).1, (cells_of_heap o3).1, (cells_of_heap o6).1, (cells_of_heap o9).1]
  have eD : Ext w w.drew := (Ext.refl w).drew
  have hmd : MapOf w.drew md (vI deps) := h.mdeps.ext eD
  rw [op_mapEntryS Try.underlying98 Try.underlying9 ty3 hmd m.name]
  refine ⟨fun b hb b1 b2 => (World.putObj_heap_other b1), ?_⟩
  unfold n_schema_checker_next_c7
  simp (disch := first | assumption | (simp only [ONE]; done) | rfl | (simp only [SZ]; done) | omega | (simp only [SZ] at *; omega)) only [↓PR, QR, Int.reduceBEq, Int.reduceBNe, Int.reduceLT, Int.reduceLE, Int.reduceGT, Int.reduceGE, Int.reduceNeg]
  rw [op_entryStore (MapB.ent hmd m.name _) (hasK_ent _ _), ent_put, putObj_putObj]
  have hw1 : w.drew.putObj md (mapObj (fun s : ByteArray => Value.string s) (putL (bld (vI deps)).1 (bld (vI deps)).2 m.name (.int .i64 (IntKind.i64.wrap (dp + 1)))) (putC (bld (vI deps)).1 (bld (vI deps)).2 m.name)) = putW w.drew md (vI deps) m.name (.int .i64 (IntKind.i64.wrap (dp + 1))) := by
    unfold putW; rw [bld_snoc]
  rw [hw1]
  have hms : MapOf (putW w.drew md (vI deps) m.name (.int .i64 (IntKind.i64.wrap (dp + 1)))) ms (vB strs) := MapB.putOther (h.mstrs.ext eD) (fun e => hne e.symm) _
  refine ⟨fun b hb b1 b2 => (World.putObj_heap_other b1), ?_⟩
  rw [op_mapEntryS Try.underlying99 Try.underlying9 ty4 hms m.name]
  refine ⟨fun b hb b1 b2 => (World.putObj_heap_other b2).trans (World.putObj_heap_other b1), ?_⟩
  unfold n_schema_checker_next_c6
  simp (disch := first | assumption | (simp only [ONE]; done) | rfl | (simp only [SZ]; done) | omega | (simp only [SZ] at *; omega)) only [↓PR, QR, Int.reduceBEq, Int.reduceBNe, Int.reduceLT, Int.reduceLE, Int.reduceGT, Int.reduceGE, Int.reduceNeg]
  rw [op_entryStore (MapB.ent hms m.name _) (hasK_ent _ _), ent_put, putObj_putObj]
  have hw2 : (putW w.drew md (vI deps) m.name (.int .i64 (IntKind.i64.wrap (dp + 1)))).putObj ms (mapObj (fun s : ByteArray => Value.string s) (putL (bld (vB strs)).1 (bld (vB strs)).2 m.name (.bool st)) (putC (bld (vB strs)).1 (bld (vB strs)).2 m.name)) = putW (putW w.drew md (vI deps) m.name (.int .i64 (IntKind.i64.wrap (dp + 1)))) ms (vB strs) m.name (.bool st) := by
    unfold putW; rw [bld_snoc, bld_snoc]
  rw [hw2]
  have hwr : IntKind.i64.wrap (dp + 1) = dp + 1 := wrap_ok (by omega) (by omega)
  rw [hwr]
  have hC2 : CkO a0 (putW (putW w.drew md (vI deps) m.name (.int .i64 (dp + 1))) ms (vB strs) m.name (.bool st)) cb md ms (deps ++ [(m.name, dp + 1)]) (strs ++ [(m.name, st)]) at_ (-1) fs := by
    refine ⟨(h.ext.drew.putObj h.lmd _).putObj h.lms _, ⟨dn, mv, ds, mn, fv', ((World.putObj_heap_other n2).trans (World.putObj_heap_other n1)).trans h1, h2⟩, ?_, ?_, h.lcb, h.lmd, h.lms, hne⟩
    · have := MapB.putOther (hmd.put m.name (.int .i64 (dp + 1))) hne (mapObjS (bld (vB strs ++ [(m.name, .bool st)])).1 (bld (vB strs ++ [(m.name, .bool st)])).2)
      unfold vI at this ⊢
      rw [List.map_append]
      exact this
    · rw [hwr] at hms
      have := hms.put m.name (.bool st)
      unfold vB at this ⊢
      rw [List.map_append]
      exact this
  have hk2 : MarkAt B (putW (putW w.drew md (vI deps) m.name (.int .i64 (dp + 1))) ms (vB strs) m.name (.bool st)) := by
    have b1 : B ≠ md := by rintro rfl; have := h.mdeps.obj; unfold MarkAt at hmk; rw [hmk] at this; cases this
    have b2 : B ≠ ms := by rintro rfl; have := h.mstrs.obj; unfold MarkAt at hmk; rw [hmk] at this; cases this
    exact ((World.putObj_heap_other b2).trans (World.putObj_heap_other b1)).trans hmk
  have o2' : (putW (putW w.drew md (vI deps) m.name (.int .i64 (dp + 1))) ms (vB strs) m.name (.bool st)).heap[p2]? = some (.cells #[.pointer (some ⟨cb, 0, none⟩)] 93 (0, 0)) := ((World.putObj_heap_other q2).trans (World.putObj_heap_other m2)).trans o2
  have o9' : (putW (putW w.drew md (vI deps) m.name (.int .i64 (dp + 1))) ms (vB strs) m.name (.bool st)).heap[p9]? = some (.cells #[.int .i64 dp] 3 (0, 0)) := ((World.putObj_heap_other q9).trans (World.putObj_heap_other m9)).trans o9
  generalize putW (putW w.drew md (vI deps) m.name (.int .i64 (dp + 1))) ms (vB strs) m.name (.bool st) = W at hC2 hk2 o2' o9' ⊢
  refine turnK_intro ?_
  unfold n_schema_checker_next_c5
  simp (disch := first | assumption | (simp only [ONE]; done) | rfl | (simp only [SZ]; done) | omega | (simp only [SZ] at *; omega)) only [↓PR, QR, Int.reduceBEq, Int.reduceBNe, Int.reduceLT, Int.reduceLE, Int.reduceGT, Int.reduceGE, Int.reduceNeg, (cells_of_heap o2').1, (cells_of_heap o9').1]
  refine callK_flw (need_flw hC2.chk _ 10 (by decide)) (fun w' e h0 => ?_) (fun w' e h0 => ?_)
  · refine outX_mark (hk2.ext e) ?_
    rw [outX_nil]
    have hC3 := (hC2.go e).unmark (hk2.ext e) hB
    refine nxtR_ret hC3.ext ?_ (hK _ hC3)
    rw [hr]
    by_cases hdp : dp < 16
    · rw [if_pos hdp]
    · rw [decide_eq_false hdp] at h0; exact absurd h0 (by decide)
  · refine outQ_mark (hk2.ext e) ?_
    rw [outQ_nil]
    have hC3 := (hC2.go e).unmark (hk2.ext e) hB
    by_cases hdp : dp < 16
    · rw [decide_eq_true hdp] at h0; exact absurd rfl h0
    · rw [decide_eq_false hdp]
      rw [if_neg hdp] at hr
      exact nxtR_pan hC3.ext hr (by decide)
theorem maxI_le {a b c : Int} (h1 : a ≤ c) (h2 : b ≤ c) : maxI a b ≤ c := by unfold maxI; split <;> assumption
theorem le_maxI (a b : Int) : a ≤ maxI a b := by unfold maxI; split <;> omega
theorem foldl_maxI (g : ByteArray → Int) : ∀ (l : List ByteArray) (d : Int), 0 ≤ d → (∀ s ∈ l, 0 ≤ g s ∧ g s ≤ 16) → d ≤ 16 → 0 ≤ l.foldl (fun d s => maxI d (g s)) d ∧ l.foldl (fun d s => maxI d (g s)) d ≤ 16
  | [], d, h0, _, h1 => ⟨h0, h1⟩
  | s :: l, d, h0, h, h1 => foldl_maxI g l _ (Int.le_trans h0 (le_maxI _ _)) (fun u hu => h u (List.mem_cons_of_mem _ hu)) (maxI_le h1 (h s (List.mem_cons_self ..)).2)
def Low (deps : List (ByteArray × Int)) : Prop := ∀ p ∈ deps, 0 ≤ p.2 ∧ p.2 ≤ 16
theorem Low.get {deps : List (ByteArray × Int)} (h : Low deps) (s : ByteArray) : 0 ≤ (lastP deps s).getD 0 ∧ (lastP deps s).getD 0 ≤ 16 := by
  cases hl : lastP deps s with
  | none => exact ⟨by decide, by decide⟩
  | some n => exact h _ (lastP_mem hl)
theorem nxt_range (hlow : Low deps) (h : CkO a0 w cb md ms deps strs at_ fld fs) (p2 p3 p6 : Nat) (m : MsgD) (fv : Value) (st : Bool) (hst : st = m.fields.all fun f => !f.loose) (hF : FieldsOf a0 fv m.fields) (hb : (allRefs m.fields).length ≤ 1048576) (hp2 : a0.heap.size ≤ p2) (hp3 : a0.heap.size ≤ p3) (hp6 : a0.heap.size ≤ p6) (h26 : p2 < p6) (h36 : p3 < p6)
    (o2 : w.heap[p2]? = some (.cells #[.pointer (some ⟨cb, 0, none⟩)] 93 (0, 0))) (o3 : w.heap[p3]? = some (.cells (msgCells m fv).toArray 50 (0, 0))) (o6 : w.heap[p6]? = some (.cells #[.bool st] 4 (0, 0)))
    (r : Int × Int) (hr : r = if depthM deps m < 16 then (-1, 0) else (-1, 10)) (K : World → Prop)
    (hK : ∀ w', CkO a0 w' cb md ms (deps ++ [(m.name, depthM deps m + 1)]) (strs ++ [(m.name, strictM strs m)]) at_ (-1) fs → K w') :
    n_schema_checker_next_c10 (.pointer (some ⟨p2, 0, none⟩)) (.pointer (some ⟨p3, 0, none⟩)) (.pointer (some ⟨p6, 0, none⟩)) [] (nxtR a0 at_ r K) w := by
  obtain ⟨n1, n2, l1, l2, l3⟩ := h.nd
  obtain ⟨dn, mv, ds, mn, fv', h1, h2⟩ := h.obj
  have c2 : p2 ≠ cb := by rintro rfl; rw [o2] at h1; cases h1
  have c3 : p3 ≠ cb := by rintro rfl; rw [o3] at h1; cases h1
  have c6 : p6 ≠ cb := by rintro rfl; rw [o6] at h1; cases h1
  have lp6 : p6 < w.heap.size := (Array.getElem?_eq_some_iff.1 o6).1
  have lp3 : p3 < w.heap.size := (Array.getElem?_eq_some_iff.1 o3).1
  unfold n_schema_checker_next_c10
  simp (disch := first | assumption | (simp only [ONE]; done) | rfl | (simp only [SZ]; done) | omega | (simp only [SZ] at *; omega)) only [↓PR, QR, Int.reduceBEq, Int.reduceBNe, Int.reduceLT, Int.reduceLE, Int.reduceGT, Int.reduceGE, Int.reduceNeg, (cells_of_heap h1).1, (cells_of_heap h1).2, (cells_of_heap o2).1, (cells_of_heap o3).1]
  have hC1 := h.setFld (-1)
  have o2' : (w.setCell ⟨cb, 6, none⟩ (.int .i64 (-1))).heap[p2]? = some (.cells #[.pointer (some ⟨cb, 0, none⟩)] 93 (0, 0)) := by rw [Only.setCell w cb 6 _ p2 c2]; exact o2
  have o3' : (w.setCell ⟨cb, 6, none⟩ (.int .i64 (-1))).heap[p3]? = some (.cells (msgCells m fv).toArray 50 (0, 0)) := by rw [Only.setCell w cb 6 _ p3 c3]; exact o3
  have o6' : (w.setCell ⟨cb, 6, none⟩ (.int .i64 (-1))).heap[p6]? = some (.cells #[.bool st] 4 (0, 0)) := by rw [Only.setCell w cb 6 _ p6 c6]; exact o6
  simp only [World.size_setCell]
  have eW := hC1.go ((Ext.refl (w.setCell ⟨cb, 6, none⟩ (.int .i64 (-1)))).alloc (Obj.cells #[.int .i64 0] 3))
  have x2 := ((Ext.refl (w.setCell ⟨cb, 6, none⟩ (.int .i64 (-1)))).alloc (Obj.cells #[.int .i64 0] 3)).obj o2'
  have x3 := ((Ext.refl (w.setCell ⟨cb, 6, none⟩ (.int .i64 (-1)))).alloc (Obj.cells #[.int .i64 0] 3)).obj o3'
  have x6 := ((Ext.refl (w.setCell ⟨cb, 6, none⟩ (.int .i64 (-1)))).alloc (Obj.cells #[.int .i64 0] 3)).obj o6'
  have x9 := heap_new (w.setCell ⟨cb, 6, none⟩ (.int .i64 (-1))) #[.int .i64 0] 3
  rw [World.size_setCell] at x9
  generalize hW : World.alloc (w.setCell ⟨cb, 6, none⟩ (.int .i64 (-1))) _ = W at eW x2 x3 x6 x9
  have hsz : W.heap.size = w.heap.size + 1 := by rw [← hW]; simp only [World.size_alloc, World.size_setCell]
  clear hW hC1 o2 o3 o6 o2' o3' o6' h
  have lW : a0.heap.size ≤ W.heap.size := eW.ext.size
  refine callK_ret (Refers_ret W _ m ⟨fv, rfl, hF.ext eW.ext⟩ hb) ?_
  rintro _ w7 ⟨pb, sv, rfl, hS, hpb, e7⟩
  have s7 := e7.size
  unfold n_schema_checker_next_c9
  let rs := refsM m
  let I : Nat → World → Prop := fun k w' => CkO a0 w' cb md ms deps strs at_ (-1) fs ∧ StrsAt w' pb sv (allRefs m.fields) ∧ w'.heap[p2]? = some (.cells #[.pointer (some ⟨cb, 0, none⟩)] 93 (0, 0)) ∧ w'.heap[p3]? = some (.cells (msgCells m fv).toArray 50 (0, 0)) ∧
    w'.heap[p6]? = some (.cells #[.bool (st && (rs.take k).all fun s => (lastP strs s).getD false)] 4 (0, 0)) ∧ w'.heap[w.heap.size]? = some (.cells #[.int .i64 ((rs.take k).foldl (fun d s => maxI d ((lastP deps s).getD 0)) 0)] 3 (0, 0))
  have hLI : ∀ k, Lasts w7.heap.size (I k) := fun k => Lasts.and (CkO.lasts (by omega)) (Lasts.and (StrsAt.lasts _ _ _ _) (Lasts.and (Lasts.has _ (by simp)) (Lasts.and (Lasts.has _ (by simp)) (Lasts.and (Lasts.has _ (by simp)) (Lasts.has _ (by simp))))))
  refine ⟨_, _, rs.length, strX rs, fun w => StrsAt w pb sv (allRefs m.fields), I, fun _ _ => False, fun _ _ => False, rfl, c45, Refers_seq pb sv _, ⟨eW.go e7, hS, e7.obj x2, e7.obj x3, ?_, e7.obj x9⟩, fun k w h => h.2.1, hLI, fun _ => Lasts.const _ _, ?_, ?_, ?_, ?_⟩
  · have := e7.obj x6
    rw [this]; simp
  · intro rec j w3 hj hI3 hrec hready
    refine ⟨hready, fun w4 hbz => ?_⟩
    have hrec4 := hrec.busied hbz
    have hI4 := (hLI j).busied hbz (Nat.le_succ _) hI3
    clear hI3 hrec hready hbz
    obtain ⟨hC4, hS4, y2, y3, y6, y9⟩ := hI4
    obtain ⟨s, hx⟩ := getElem?_lt hj
    have hrs : rs[j]? = some s := hx
    rw [show strX rs j = .string s by unfold strX; rw [hrs]]
    obtain ⟨dn, mv, ds, mn, fv', h1, h2⟩ := hC4.obj
    have l9 : w.heap.size < w4.heap.size := (Array.getElem?_eq_some_iff.1 y9).1
    have hstep : rs.take (j + 1) = rs.take j ++ [s] := take_snoc hrs
    refine drawK_intro ?_
    unfold n_schema_checker_next_c4
    simp (disch := first | assumption | (simp only [ONE]; done) | rfl | (simp only [SZ]; done) | omega | (simp only [SZ] at *; omega)) only [↓PR, QR, Int.reduceBEq, Int.reduceBNe, Int.reduceLT, Int.reduceLE, Int.reduceGT, Int.reduceGE, Int.reduceNeg, (cells_of_heap y9).1, (cells_of_heap y2).1, (cells_of_heap h1).1]
    rw [qV_lookup1E Try.underlying98 Try.underlying9 ty3 (hC4.mdeps.ext ((Ext.refl w4).wdrew)) s]
    have hg : (lastOf (vI deps) s).getD (.int .i64 0) = .int .i64 ((lastP deps s).getD 0) := by rw [lastOf_vI]; cases lastP deps s <;> rfl
    rw [hg]
    simp (disch := first | assumption | (simp only [ONE]; done) | rfl | (simp only [SZ]; done) | omega | (simp only [SZ] at *; omega)) only [↓PR, QR, Int.reduceBEq, Int.reduceBNe, Int.reduceLT, Int.reduceLE, Int.reduceGT, Int.reduceGE, Int.reduceNeg, (cells_of_heap y9).1, (cells_of_heap y9).2]
    refine turnK_intro ?_
    have e4 : Ext w4 w4.drew := (Ext.refl w4).wdrew
    have hC5 := (hC4.go e4).other (b := w.heap.size) (o := 0) (by omega) (by omega) (.int .i64 (if (lastP deps s).getD 0 > (rs.take j).foldl (fun d s => maxI d ((lastP deps s).getD 0)) 0 then (lastP deps s).getD 0 else (rs.take j).foldl (fun d s => maxI d ((lastP deps s).getD 0)) 0))
    have hS5 : StrsAt (w4.drew.setCell ⟨w.heap.size, 0, none⟩ (.int .i64 (if (lastP deps s).getD 0 > (rs.take j).foldl (fun d s => maxI d ((lastP deps s).getD 0)) 0 then (lastP deps s).getD 0 else (rs.take j).foldl (fun d s => maxI d ((lastP deps s).getD 0)) 0))) pb sv (allRefs m.fields) := (hS4.ext e4).set (by omega) _
    have hrec5 : RecAt rec w7.heap.size (w4.drew.setCell ⟨w.heap.size, 0, none⟩ (.int .i64 (if (lastP deps s).getD 0 > (rs.take j).foldl (fun d s => maxI d ((lastP deps s).getD 0)) 0 then (lastP deps s).getD 0 else (rs.take j).foldl (fun d s => maxI d ((lastP deps s).getD 0)) 0))) := hrec4.drew.setCell _ _
    have z2 := (Only.setCell w4.drew w.heap.size 0 (.int .i64 (if (lastP deps s).getD 0 > (rs.take j).foldl (fun d s => maxI d ((lastP deps s).getD 0)) 0 then (lastP deps s).getD 0 else (rs.take j).foldl (fun d s => maxI d ((lastP deps s).getD 0)) 0)) p2 (by omega)).trans y2
    have z3 := (Only.setCell w4.drew w.heap.size 0 (.int .i64 (if (lastP deps s).getD 0 > (rs.take j).foldl (fun d s => maxI d ((lastP deps s).getD 0)) 0 then (lastP deps s).getD 0 else (rs.take j).foldl (fun d s => maxI d ((lastP deps s).getD 0)) 0)) p3 (by omega)).trans y3
    have z6 := (Only.setCell w4.drew w.heap.size 0 (.int .i64 (if (lastP deps s).getD 0 > (rs.take j).foldl (fun d s => maxI d ((lastP deps s).getD 0)) 0 then (lastP deps s).getD 0 else (rs.take j).foldl (fun d s => maxI d ((lastP deps s).getD 0)) 0)) p6 (by omega)).trans y6
    have z9 := heap_set (w := w4.drew) (o := 0) y9 (.int .i64 (if (lastP deps s).getD 0 > (rs.take j).foldl (fun d s => maxI d ((lastP deps s).getD 0)) 0 then (lastP deps s).getD 0 else (rs.take j).foldl (fun d s => maxI d ((lastP deps s).getD 0)) 0))
    rw [show (#[Value.int .i64 ((rs.take j).foldl (fun d s => maxI d ((lastP deps s).getD 0)) 0)] : Array Value).setIfInBounds 0 (.int .i64 (if (lastP deps s).getD 0 > (rs.take j).foldl (fun d s => maxI d ((lastP deps s).getD 0)) 0 then (lastP deps s).getD 0 else (rs.take j).foldl (fun d s => maxI d ((lastP deps s).getD 0)) 0)) = #[.int .i64 ((rs.take (j + 1)).foldl (fun d s => maxI d ((lastP deps s).getD 0)) 0)] from by rw [hstep, List.foldl_append]; rfl] at z9
    generalize w4.drew.setCell ⟨w.heap.size, 0, none⟩ _ = w5 at hC5 hS5 hrec5 z2 z3 z6 z9 ⊢
    clear hC4 hS4 hrec4 y2 y3 y6 y9 h1 hg
    obtain ⟨dn, mv, ds, mn, fv', h1, h2⟩ := hC5.obj
    have hall : (st && (rs.take (j + 1)).all fun s => (lastP strs s).getD false) = ((st && (rs.take j).all fun s => (lastP strs s).getD false) && (lastP strs s).getD false) := by
      rw [hstep, List.all_append, Bool.and_assoc]; simp
    have fin : ∀ b, b = (st && (rs.take (j + 1)).all fun s => (lastP strs s).getD false) → RecAt rec w7.heap.size (w5.setCell ⟨p6, 0, none⟩ (.bool b)) ∧ I (j + 1) (w5.setCell ⟨p6, 0, none⟩ (.bool b)) := by
      rintro b rfl
      refine ⟨hrec5.setCell _ _, hC5.other hp6 c6 _, hS5.set (by omega) _, (Only.setCell w5 p6 0 _ p2 (by omega)).trans z2, (Only.setCell w5 p6 0 _ p3 (by omega)).trans z3, ?_, (Only.setCell w5 p6 0 _ w.heap.size (by omega)).trans z9⟩
      have := heap_set (o := 0) z6 (.bool (st && (rs.take (j + 1)).all fun s => (lastP strs s).getD false))
      simpa using this
    rw [hall] at fin
    generalize (st && (rs.take j).all fun s => (lastP strs s).getD false) = sj at z6 fin
    unfold n_schema_checker_next_c3
    have hg : (lastOf (vB strs) s).getD (.bool false) = .bool ((lastP strs s).getD false) := by rw [lastOf_vB]; cases lastP strs s <;> rfl
    cases sj with
    | false =>
      simp (disch := first | assumption | (simp only [ONE]; done) | rfl | (simp only [SZ]; done) | omega | (simp only [SZ] at *; omega)) only [↓PR, QR, Int.reduceBEq, Int.reduceBNe, Int.reduceLT, Int.reduceLE, Int.reduceGT, Int.reduceGE, Int.reduceNeg, (cells_of_heap z6).1, (cells_of_heap z6).2, ↓n_schema_checker_next_c1, ↓n_schema_checker_next_c2, ↓n_schema_checker_next_c3, ↓n_schema_checker_next_c4, ↓n_schema_checker_next_c5, ↓n_schema_checker_next_c6, ↓n_schema_checker_next_c7, ↓n_schema_checker_next_c8, ↓n_schema_checker_next_c9, ↓n_schema_checker_next_c10, ↓n_schema_checker_next_c11, ↓n_schema_checker_next_c12, ↓n_schema_checker_next_c13, ↓n_schema_checker_next_c14, ↓n_schema_checker_next_c15, ↓n_schema_checker_next_c16, ↓n_schema_checker_next_c17, ↓n_schema_checker_next_c18]
      exact fin false rfl
    | true =>
      simp (disch := first | assumption | (simp only [ONE]; done) | rfl | (simp only [SZ]; done) | omega | (simp only [SZ] at *; omega)) only [↓PR, QR, Int.reduceBEq, Int.reduceBNe, Int.reduceLT, Int.reduceLE, Int.reduceGT, Int.reduceGE, Int.reduceNeg, (cells_of_heap z6).1, (cells_of_heap z6).2, (cells_of_heap z2).1, (cells_of_heap h1).1]
      rw [op_lookup1O Try.underlying99 Try.underlying9 ty4 hC5.mstrs s, hg]
      generalize (lastP strs s).getD false = b at fin
      simp (disch := first | assumption | (simp only [ONE]; done) | rfl | (simp only [SZ]; done) | omega | (simp only [SZ] at *; omega)) only [↓PR, QR, Int.reduceBEq, Int.reduceBNe, Int.reduceLT, Int.reduceLE, Int.reduceGT, Int.reduceGE, Int.reduceNeg, (cells_of_heap z6).1, (cells_of_heap z6).2, n_schema_checker_next_c1]
      exact fin b (by cases b <;> rfl)
  · rintro w3 hI3 hmk
    obtain ⟨hC3, hS3, y2, y3, y6, y9⟩ := hI3
    rw [List.take_length] at y6 y9
    have hfold := foldl_maxI (fun s => (lastP deps s).getD 0) rs 0 (by decide) (fun s _ => hlow.get s) (by decide)
    refine nxt_end hC3 p2 p3 p6 w.heap.size w7.heap.size m fv _ _ hfold.1 (by have := hfold.2; omega) y2 y3 y6 y9 hmk (by omega) r hr K ?_
    rw [hst]
    exact hK
  · rintro c w3 h
    exact h.elim
  · rintro ch w3 h
    exact h.elim
end
section
variable {a0 w : World} {cb md ms : Nat} {deps : List (ByteArray × Int)} {strs : List (ByteArray × Bool)} {at_ fld : Int} {m : MsgD}
theorem nxt_loop (hlow : Low deps) (h : CkO a0 w cb md ms deps strs at_ fld m.fields) (p2 p3 : Nat) (fv : Value) (hF : FieldsOf a0 fv m.fields) (hb : (allRefs m.fields).length ≤ 1048576) (ht : ∀ f ∈ m.fields, f.terms.length ≤ 1048576) (hp2 : a0.heap.size ≤ p2) (hp3 : a0.heap.size ≤ p3)
    (o2 : w.heap[p2]? = some (.cells #[.pointer (some ⟨cb, 0, none⟩)] 93 (0, 0))) (o3 : w.heap[p3]? = some (.cells (msgCells m fv).toArray 50 (0, 0)))
    (r : Int × Int) (hr : r = tailP deps m (fieldsP deps strs [] m.fields)) (K : World → Prop)
    (hK : ∀ w', CkO a0 w' cb md ms (deps ++ [(m.name, depthM deps m + 1)]) (strs ++ [(m.name, strictM strs m)]) at_ (-1) m.fields → K w') :
    n_schema_checker_next_c13 (.pointer (some ⟨p2, 0, none⟩)) (.pointer (some ⟨p3, 0, none⟩)) [] (nxtR a0 at_ r K) w := by
  obtain ⟨n1, n2, l1, l2, l3⟩ := h.nd
  have lp2 : p2 < w.heap.size := (Array.getElem?_eq_some_iff.1 o2).1
  have lp3 : p3 < w.heap.size := (Array.getElem?_eq_some_iff.1 o3).1
  have lw := h.ext.size
  obtain ⟨A, c, rfl, hlc, hcm, hlm, hel⟩ := SliceOf.open hF
  unfold n_schema_checker_next_c13
  simp (disch := first | assumption | (simp only [ONE]; done) | rfl | (simp only [SZ]; done) | omega | (simp only [SZ] at *; omega)) only [↓PR, QR, Int.reduceBEq, Int.reduceBNe, Int.reduceLT, Int.reduceLE, Int.reduceGT, Int.reduceGE, Int.reduceNeg, (cells_of_heap o3).1]
  refine loop1_intro (fun i w' => ∃ (k : Nat) (fld' : Int), i = .int .i64 k ∧ k ≤ m.fields.length ∧ CkO a0 w' cb md ms deps strs at_ fld' m.fields ∧ w'.heap[p2]? = some (.cells #[.pointer (some ⟨cb, 0, none⟩)] 93 (0, 0)) ∧ w'.heap[p3]? = some (.cells (msgCells m (.slice A m.fields.length c)).toArray 50 (0, 0)) ∧
    w'.heap[w.heap.size]? = some (.cells #[.bool ((m.fields.take k).all fun f => !f.loose)] 4 (0, 0)) ∧ r = tailP deps m (fieldsP deps strs (m.fields.take k) (m.fields.drop k))) (fun i _ => m.fields.length - (intOf i).toNat) ⟨0, fld, rfl, by omega, h.go ((Ext.refl _).alloc _), ((Ext.refl _).alloc _).obj o2, ((Ext.refl _).alloc _).obj o3, heap_new w #[.bool true] 4, hr⟩ ?_
  rintro i w' ⟨k, fld', rfl, hk, hC, y2, y3, y6, hrk⟩
  have l6 : w.heap.size < w'.heap.size := (Array.getElem?_eq_some_iff.1 y6).1
  have lw' := hC.ext.size
  obtain ⟨dn, mv, ds, mn, fv', h1, h2⟩ := hC.obj
  have c2 : p2 ≠ cb := by rintro rfl; rw [y2] at h1; cases h1
  have c3 : p3 ≠ cb := by rintro rfl; rw [y3] at h1; cases h1
  rcases drop_cases hk with ⟨x, hx, hd, hlt, hdec⟩ | ⟨hk, hd, hdec⟩
  · obtain ⟨b, o, cs, rfl, hl, hA, hE⟩ := hel k x hx
    obtain ⟨tv, cv, rfl, hT, hCa, ht1, hc1⟩ := hE.op
    have hA' := hA.ext hC.ext
    rw [hd] at hrk
    simp only [fieldsP] at hrk
    unfold n_schema_checker_next_c12
    simp (disch := first | assumption | (simp only [ONE]; done) | rfl | (simp only [SZ]; done) | omega | (simp only [SZ] at *; omega)) only [↓PR, QR, Int.reduceBEq, Int.reduceBNe, Int.reduceLT, Int.reduceLE, Int.reduceGT, Int.reduceGE, Int.reduceNeg, hdec]
    unfold n_schema_checker_next_c11
    rw [op_indexN Try.underlying48 ty28 _ _ _ _ _ k hlt, op_load (hA'.loads ty28 rfl)]
    simp (disch := first | assumption | (simp only [ONE]; done) | rfl | (simp only [SZ]; done) | omega | (simp only [SZ] at *; omega)) only [↓PR, QR, Int.reduceBEq, Int.reduceBNe, Int.reduceLT, Int.reduceLE, Int.reduceGT, Int.reduceGE, Int.reduceNeg, (cells_of_heap y2).1, (cells_of_heap h1).1, (cells_of_heap h1).2]
    have hCw := (hC.setFld (k : Int)).go ((Ext.refl _).alloc (Obj.cells (fieldCells x tv cv).toArray 28))
    have z2 := ((Ext.refl _).alloc (Obj.cells (fieldCells x tv cv).toArray 28)).obj ((Only.setCell w' cb 6 (.int .i64 (k : Int)) p2 c2).trans y2)
    have z3 := ((Ext.refl _).alloc (Obj.cells (fieldCells x tv cv).toArray 28)).obj ((Only.setCell w' cb 6 (.int .i64 (k : Int)) p3 c3).trans y3)
    have z6 := ((Ext.refl _).alloc (Obj.cells (fieldCells x tv cv).toArray 28)).obj ((Only.setCell w' cb 6 (.int .i64 (k : Int)) w.heap.size (by omega)).trans y6)
    have z8 := heap_new (w'.setCell ⟨cb, 6, none⟩ (.int .i64 (k : Int))) (fieldCells x tv cv).toArray 28
    rw [World.size_setCell] at z8
    generalize (World.alloc (w'.setCell ⟨cb, 6, none⟩ (.int .i64 (k : Int))) (Obj.cells (fieldCells x tv cv).toArray 28)) = W at hCw z2 z3 z6 z8 ⊢
    have hkt : (m.fields.take k).length = k := by rw [List.length_take]; omega
    refine callK_flw (examine_flw hCw.chk k rfl hlt _ x ⟨tv, cv, rfl, TermsOf.ext hT hCw.ext, CasesOf.ext hCa hCw.ext⟩ (ht x (List.mem_of_getElem? hx))) (fun w5 e5 h0 => ?_) (fun w5 e5 h0 => ?_)
    · rw [if_pos h0] at hrk
      have q6 := e5.obj z6
      have q8 := e5.obj z8
      have hC5 := hCw.go e5
      have l5 : w'.heap.size < w5.heap.size := (Array.getElem?_eq_some_iff.1 q8).1
      have htk := take_snoc hx
      rw [← htk] at hrk
      have hall : ((m.fields.take (k + 1)).all fun f => !f.loose) = (((m.fields.take k).all fun f => !f.loose) && !x.loose) := by rw [htk, List.all_append]; simp
      have fin : ∀ b' w6, Ext w5 w6 → b' = ((m.fields.take (k + 1)).all fun f => !f.loose) → (∃ (k' : Nat) (fld' : Int), Value.int .i64 ((k + 1 : Nat) : Int) = .int .i64 k' ∧ k' ≤ m.fields.length ∧ CkO a0 (w6.setCell ⟨w.heap.size, 0, none⟩ (.bool b')) cb md ms deps strs at_ fld' m.fields ∧ w6.heap[p2]? = some (.cells #[.pointer (some ⟨cb, 0, none⟩)] 93 (0, 0)) ∧ w6.heap[p3]? = some (.cells (msgCells m (.slice (some ⟨b, o, none⟩) m.fields.length c)).toArray 50 (0, 0)) ∧
          (w6.setCell ⟨w.heap.size, 0, none⟩ (.bool b')).heap[w.heap.size]? = some (.cells #[.bool ((m.fields.take k').all fun f => !f.loose)] 4 (0, 0)) ∧ r = tailP deps m (fieldsP deps strs (m.fields.take k') (m.fields.drop k'))) ∧ m.fields.length - (intOf (Value.int .i64 ((k + 1 : Nat) : Int))).toNat < m.fields.length - (intOf (Value.int IntKind.i64 k)).toNat := by
        rintro b' w6 e6 rfl
        refine ⟨⟨k + 1, k, rfl, by omega, (hC5.go e6).other (by omega) (by omega) _, e6.obj (e5.obj z2), e6.obj (e5.obj z3), ?_, hrk⟩, meas_lt hlt⟩
        have := heap_set (o := 0) (e6.obj q6) (.bool ((m.fields.take (k + 1)).all fun f => !f.loose))
        simpa using this
      unfold n_schema_checker_next_c2
      rw [hall] at fin
      generalize ((m.fields.take k).all fun f => !f.loose) = sj at q6 fin
      cases sj with
      | true =>
        generalize hxl : x.loose = xl at fin
        simp (disch := first | assumption | (simp only [ONE]; done) | rfl | (simp only [SZ]; done) | omega | (simp only [SZ] at *; omega)) only [↓PR, QR, Int.reduceBEq, Int.reduceBNe, Int.reduceLT, Int.reduceLE, Int.reduceGT, Int.reduceGE, Int.reduceNeg, (cells_of_heap q6).1, (cells_of_heap q6).2, (cells_of_heap q8).1, n_schema_checker_next_c1, hxl]
        simp only [Bool.true_and] at fin
        exact fin _ w5 (Ext.refl _) rfl
      | false =>
        simp (disch := first | assumption | (simp only [ONE]; done) | rfl | (simp only [SZ]; done) | omega | (simp only [SZ] at *; omega)) only [↓PR, QR, Int.reduceBEq, Int.reduceBNe, Int.reduceLT, Int.reduceLE, Int.reduceGT, Int.reduceGE, Int.reduceNeg, (cells_of_heap q6).1, (cells_of_heap q6).2, (cells_of_heap q8).1, n_schema_checker_next_c1]
        simp only [Bool.false_and] at fin
        exact fin _ w5 (Ext.refl _) rfl
    · rw [if_neg h0] at hrk
      have hr2 : r = ((k : Int), examineC (m.fields.take k) (vI deps) (vB strs) x) := by
        rw [hrk, hkt]; unfold tailP; rw [if_neg h0]
      show outQ _ _ _ _ _ _
      rw [outQ_nil]
      exact nxtR_pan (hCw.ext.trans e5) hr2 h0
  · subst hk
    rw [hd] at hrk
    rw [List.take_length] at y6
    unfold n_schema_checker_next_c12
    simp (disch := first | assumption | (simp only [ONE]; done) | rfl | (simp only [SZ]; done) | omega | (simp only [SZ] at *; omega)) only [↓PR, QR, Int.reduceBEq, Int.reduceBNe, Int.reduceLT, Int.reduceLE, Int.reduceGT, Int.reduceGE, Int.reduceNeg, hdec]
    refine nxt_range hlow hC p2 p3 w.heap.size m _ _ rfl hF hb hp2 hp3 lw lp2 lp3 y2 y3 y6 r ?_ K hK
    rw [hrk]
    rfl
theorem next_flw {w0 : World} {fs0 : List FieldD} (hlow : Low deps) (h : CkO a0 w0 cb md ms deps strs at_ fld fs0) (v : Value) (hm : MsgVal a0 v m) (hb : (allRefs m.fields).length ≤ 1048576) (ht : ∀ f ∈ m.fields, f.terms.length ≤ 1048576) (K : World → Prop)
    (hK : ∀ w', CkO a0 w' cb md ms (deps ++ [(m.name, depthM deps m + 1)]) (strs ++ [(m.name, strictM strs m)]) at_ (-1) m.fields → K w') :
    Calls Try.prog 64 #[.pointer (some ⟨cb, 0, none⟩), v] w0 (nxtR a0 at_ (nextP deps strs m) K) := by
  obtain ⟨fv, rfl, hF⟩ := hm
  obtain ⟨n1, n2, l1, l2, l3⟩ := h.nd
  have lw := h.ext.size
  have hf1 := SliceOf.oneCell hF
  refine n_schema_checker_next_sound ?_; unfold n_schema_checker_next
  simp (disch := first | assumption | (simp only [ONE]; done) | rfl | (simp only [SZ]; done) | omega | (simp only [SZ] at *; omega)) only [↓PR, QR, Int.reduceBEq, Int.reduceBNe, Int.reduceLT, Int.reduceLE, Int.reduceGT, Int.reduceGE, Int.reduceNeg]
  have hC := h.go (((Ext.refl w0).alloc (Obj.cells #[.pointer (some ⟨cb, 0, none⟩)] 93)).alloc (Obj.cells (msgCells m fv).toArray 50))
  have z3 := heap_new (w0.alloc (Obj.cells #[.pointer (some ⟨cb, 0, none⟩)] 93)) (msgCells m fv).toArray 50
  have z2 := ((Ext.refl (w0.alloc (Obj.cells #[.pointer (some ⟨cb, 0, none⟩)] 93))).alloc (Obj.cells (msgCells m fv).toArray 50)).obj (heap_new w0 _ _)
  simp only [World.size_alloc] at z3 ⊢
  generalize (World.alloc (World.alloc w0 _) _) = W at hC z2 z3 ⊢
  clear h
  obtain ⟨dn, mv, ds, mn, fv', h1, h2⟩ := hC.obj
  refine drawK_introB (w1 := W) cb cb (fun _ _ _ _ => rfl) ?_
  unfold n_schema_checker_next_c18
  simp (disch := first | assumption | (simp only [ONE]; done) | rfl | (simp only [SZ]; done) | omega | (simp only [SZ] at *; omega)) only [↓PR, QR, Int.reduceBEq, Int.reduceBNe, Int.reduceLT, Int.reduceLE, Int.reduceGT, Int.reduceGE, Int.reduceNeg, (cells_of_heap z2).1]
  have L3 : ∀ w', KB W cb cb w' → Loads Try.prog w' 50 ⟨w0.heap.size + 1, 0, none⟩ (.agg (msgCells m fv).toArray) := fun w' hw' => Loads.many ty50 rfl (fun j u hu => by
    rw [Addr.add_lit]
    exact KB.cell (b := w0.heap.size + 1) hw' (by omega) (by omega) (by rw [(cells_of_heap z3).1]; simpa using hu))
  rw [qV_loadG L3]
  simp (disch := first | assumption | (simp only [ONE]; done) | rfl | (simp only [SZ]; done) | omega | (simp only [SZ] at *; omega)) only [↓PR, QR, Int.reduceBEq, Int.reduceBNe, Int.reduceLT, Int.reduceLE, Int.reduceGT, Int.reduceGE, Int.reduceNeg, (cells_of_heap h1).1, (cells_of_heap h1).2]
  have eD : Ext W W.drew := (Ext.refl W).wdrew
  have hC1 := (hC.go eD).setMsg m.name fv m.fields hF
  have y2 := (Only.setCell (W.drew.setCell ⟨cb, 7, none⟩ (.string m.name)) cb 8 fv w0.heap.size (by omega)).trans ((Only.setCell W.drew cb 7 (.string m.name) w0.heap.size (by omega)).trans (eD.obj z2))
  have y3 := (Only.setCell (W.drew.setCell ⟨cb, 7, none⟩ (.string m.name)) cb 8 fv (w0.heap.size + 1) (by omega)).trans ((Only.setCell W.drew cb 7 (.string m.name) (w0.heap.size + 1) (by omega)).trans (eD.obj z3))
  refine ⟨fun b hb b1 _ => (Only.setCell _ cb 8 fv b b1).trans (Only.setCell W.drew cb 7 (.string m.name) b b1), ?_⟩
  show n_schema_checker_next_c17 _ _ _ _ _ _ ((W.drew.setCell ⟨cb, 7, none⟩ (.string m.name)).setCell ⟨cb, 8, none⟩ fv)
  generalize ((W.drew.setCell ⟨cb, 7, none⟩ (.string m.name)).setCell ⟨cb, 8, none⟩ fv) = W1 at hC1 y2 y3 ⊢
  clear hC z2 z3 h1
  obtain ⟨dn, mv, ds, mn, fv', h1, h2'⟩ := hC1.obj
  unfold n_schema_checker_next_c17
  simp (disch := first | assumption | (simp only [ONE]; done) | rfl | (simp only [SZ]; done) | omega | (simp only [SZ] at *; omega)) only [↓PR, QR, Int.reduceBEq, Int.reduceBNe, Int.reduceLT, Int.reduceLE, Int.reduceGT, Int.reduceGE, Int.reduceNeg, (cells_of_heap h1).1, (cells_of_heap h1).2]
  have hC2 := hC1.setFld (-1)
  have x2 := (Only.setCell W1 cb 6 (.int .i64 (-1)) w0.heap.size (by omega)).trans y2
  have x3 := (Only.setCell W1 cb 6 (.int .i64 (-1)) (w0.heap.size + 1) (by omega)).trans y3
  generalize (W1.setCell ⟨cb, 6, none⟩ (.int .i64 (-1))) = W2 at hC2 x2 x3 ⊢
  clear hC1 y2 y3 h1
  refine turnK_intro ?_
  refine drawK_intro ?_
  unfold n_schema_checker_next_c16
  simp (disch := first | assumption | (simp only [ONE]; done) | rfl | (simp only [SZ]; done) | omega | (simp only [SZ] at *; omega)) only [↓PR, QR, Int.reduceBEq, Int.reduceBNe, Int.reduceLT, Int.reduceLE, Int.reduceGT, Int.reduceGE, Int.reduceNeg, (cells_of_heap x2).1, (cells_of_heap x3).1]
  refine callK_ret (Name_ret _ m.name) ?_
  rintro _ w3 ⟨rfl, e3⟩
  have e3' : Ext W2 w3 := (Ext.refl W2).wdrew.trans e3
  refine ⟨e3, ?_⟩
  generalize hr : nextP deps strs m = r
  unfold nextP at hr
  refine callK_flw (need_flw (hC2.go e3').chk _ 1 (by decide)) (fun w4 e4 h0 => ?_) (fun w4 e4 h0 => ?_)
  · have e4' := e3'.trans e4
    have hn : nameB m.name = true := needC_zero (by decide) h0
    rw [if_pos hn] at hr
    refine ⟨e3.trans e4, ?_⟩
    have hC4 := hC2.go e4'
    have x2' := e4'.obj x2
    have x3' := e4'.obj x3
    obtain ⟨dn, mv, ds, mn, fv', h1, h2'⟩ := hC4.obj
    refine drawK_intro ?_
    unfold n_schema_checker_next_c15
    simp (disch := first | assumption | (simp only [ONE]; done) | rfl | (simp only [SZ]; done) | omega | (simp only [SZ] at *; omega)) only [↓PR, QR, Int.reduceBEq, Int.reduceBNe, Int.reduceLT, Int.reduceLE, Int.reduceGT, Int.reduceGE, Int.reduceNeg, (cells_of_heap x2').1, (cells_of_heap x3').1, (cells_of_heap h1).1]
    have eD4 : Ext w4 w4.drew := (Ext.refl w4).wdrew
    rw [qV_lookupE Try.underlying98 Try.underlying9 ty3 (hC4.mdeps.ext eD4) m.name]
    have hsome : (lastOf (vI deps) m.name).isSome = (lastP deps m.name).isSome := by rw [lastOf_vI, Option.isSome_map]
    rw [hsome]
    simp (disch := first | assumption | (simp only [ONE]; done) | rfl | (simp only [SZ]; done) | omega | (simp only [SZ] at *; omega)) only [↓PR, QR, Int.reduceBEq, Int.reduceBNe, Int.reduceLT, Int.reduceLE, Int.reduceGT, Int.reduceGE, Int.reduceNeg, (cells_of_heap x2').1]
    refine callK_flw (need_flw (hC4.go eD4).chk _ 2 (by decide)) (fun w5 e5 h0 => ?_) (fun w5 e5 h0 => ?_)
    · have hs : (lastP deps m.name).isSome = false := by have := needC_zero (by decide) h0; simpa using this
      rw [hs, if_neg (by simp)] at hr
      have hC5 := hC4.go (eD4.trans e5)
      have x2'' := (eD4.trans e5).obj x2'
      have x3'' := (eD4.trans e5).obj x3'
      have fin : ∀ b, b = decide (1 ≤ m.fields.length ∧ m.fields.length ≤ 40) → callK Try.prog 62 #[.pointer (some ⟨cb, 0, none⟩), .bool b, .int .i64 3] (outQ Try.prog [] [] (nxtR a0 at_ r K)) w5 (fun _ w => n_schema_checker_next_c13 (.pointer (some ⟨w0.heap.size, 0, none⟩)) (.pointer (some ⟨w0.heap.size + 1, 0, none⟩)) [] (nxtR a0 at_ r K) w) := by
        rintro b rfl
        refine callK_flw (need_flw hC5.chk _ 3 (by decide)) (fun w6 e6 h0 => ?_) (fun w6 e6 h0 => ?_)
        · have hl := needC_zero (by decide) h0
          simp only [decide_eq_true_eq] at hl
          rw [if_pos hl] at hr
          exact nxt_loop hlow (hC5.go e6) w0.heap.size (w0.heap.size + 1) fv hF hb ht (by omega) (by omega) (e6.obj x2'') (e6.obj x3'') r hr.symm K hK
        · by_cases hl : 1 ≤ m.fields.length ∧ m.fields.length ≤ 40
          · rw [decide_eq_true hl] at h0; exact absurd rfl h0
          · rw [if_neg hl] at hr
            rw [decide_eq_false hl]
            show outQ _ _ _ _ _ _
            rw [outQ_nil]
            exact nxtR_pan (hC5.ext.trans e6) hr.symm (by decide)
      obtain ⟨A, c, rfl, hlc, hcm, hlm, hel⟩ := SliceOf.open hF
      unfold n_schema_checker_next_c14
      by_cases h1l : 1 ≤ m.fields.length
      · have d1 : decide ((m.fields.length : Int) ≥ 1) = true := by simp; omega
        by_cases h2l : m.fields.length ≤ 40
        · have d2 : decide ((m.fields.length : Int) ≤ 40) = true := by simp; omega
          simp (disch := first | assumption | (simp only [ONE]; done) | rfl | (simp only [SZ]; done) | omega | (simp only [SZ] at *; omega)) only [↓PR, QR, Int.reduceBEq, Int.reduceBNe, Int.reduceLT, Int.reduceLE, Int.reduceGT, Int.reduceGE, Int.reduceNeg, (cells_of_heap x2'').1, (cells_of_heap x3'').1, d1, d2]
          exact fin _ (by simp [h1l, h2l])
        · have d2 : decide ((m.fields.length : Int) ≤ 40) = false := by simp; omega
          simp (disch := first | assumption | (simp only [ONE]; done) | rfl | (simp only [SZ]; done) | omega | (simp only [SZ] at *; omega)) only [↓PR, QR, Int.reduceBEq, Int.reduceBNe, Int.reduceLT, Int.reduceLE, Int.reduceGT, Int.reduceGE, Int.reduceNeg, (cells_of_heap x2'').1, (cells_of_heap x3'').1, d1, d2]
          exact fin _ (by simp [h2l])
      · have d1 : decide ((m.fields.length : Int) ≥ 1) = false := by simp; omega
        simp (disch := first | assumption | (simp only [ONE]; done) | rfl | (simp only [SZ]; done) | omega | (simp only [SZ] at *; omega)) only [↓PR, QR, Int.reduceBEq, Int.reduceBNe, Int.reduceLT, Int.reduceLE, Int.reduceGT, Int.reduceGE, Int.reduceNeg, (cells_of_heap x2'').1, (cells_of_heap x3'').1, d1]
        exact fin _ (by simp [h1l])
    · have hs : (lastP deps m.name).isSome = true := by
        cases hq : (lastP deps m.name).isSome with
        | true => rfl
        | false => rw [hq] at h0; exact absurd rfl h0
      rw [hs, if_pos rfl] at hr
      rw [hs]
      show outQ _ _ _ _ _ _
      rw [outQ_nil]
      exact nxtR_pan (hC4.ext.trans (eD4.trans e5)) hr.symm (by decide)
  · have hn : nameB m.name = false := by
      cases hq : nameB m.name with
      | false => rfl
      | true => rw [hq] at h0; exact absurd rfl h0
    rw [hn, if_neg (by simp)] at hr
    rw [hn]
    show outQ _ _ _ _ _ _
    rw [outQ_nil]
    exact nxtR_pan (hC2.ext.trans (e3'.trans e4)) hr.symm (by decide)
end
end Go.Proofs.Ytiajhbbmgglmlaa
namespace Go.Proofs.Ytiajhbbmgglmlaa
open Sw
open Go.RowKit (intOf Below)
set_option maxRecDepth 100000
def stepD (deps : List (ByteArray × Int)) (m : MsgD) : List (ByteArray × Int) := deps ++ [(m.name, depthM deps m + 1)]
def stepS (strs : List (ByteArray × Bool)) (m : MsgD) : List (ByteArray × Bool) := strs ++ [(m.name, strictM strs m)]
def depsOf (l : List MsgD) : List (ByteArray × Int) := l.foldl stepD []
def strsOf (l : List MsgD) : List (ByteArray × Bool) := l.foldl stepS []
def msgsP (deps : List (ByteArray × Int)) (strs : List (ByteArray × Bool)) (at_ : Nat) : List MsgD → Int × Int × Int
  | [] => (0, 0, 0)
  | m :: l => if (nextP deps strs m).2 = 0 then msgsP (stepD deps m) (stepS strs m) (at_ + 1) l else (at_, nextP deps strs m)
def endP (d : DefD) (r : Int × Int × Int) : Int × Int × Int := if r.2.2 = 0 then (if (lastP (depsOf d.msgs) d.start).isSome then (0, 0, 0) else (-1, -1, 11)) else r
def checkP (d : DefD) : Int × Int × Int :=
  if nameB d.name then (if 1 ≤ d.msgs.length ∧ d.msgs.length ≤ 60 then endP d (msgsP [] [] 0 d.msgs) else (-1, -1, 3)) else (-1, -1, 1)
theorem tailP_low {deps : List (ByteArray × Int)} {m : MsgD} {r : Int × Int} (h : (tailP deps m r).2 = 0) : depthM deps m < 16 := by
  unfold tailP at h
  split at h
  · split at h
    · assumption
    · exact absurd h (by decide)
  · contradiction
theorem nextP_low {deps : List (ByteArray × Int)} {strs : List (ByteArray × Bool)} {m : MsgD} (h : (nextP deps strs m).2 = 0) : depthM deps m < 16 := by
  unfold nextP at h
  split at h
  · split at h
    · exact absurd h (by decide)
    · split at h
      · exact tailP_low h
      · exact absurd h (by decide)
  · exact absurd h (by decide)
theorem Low.step {deps : List (ByteArray × Int)} {strs : List (ByteArray × Bool)} {m : MsgD} (hl : Low deps) (h : (nextP deps strs m).2 = 0) : Low (stepD deps m) := by
  intro p hp
  rcases List.mem_append.1 hp with hp | hp
  · exact hl p hp
  · simp only [List.mem_singleton] at hp
    subst hp
    have h1 := nextP_low h
    have h2 := (foldl_maxI (fun s => (lastP deps s).getD 0) (refsM m) 0 (by decide) (fun s _ => hl.get s) (by decide)).1
    exact ⟨by show 0 ≤ depthM deps m + 1; unfold depthM; omega, by show depthM deps m + 1 ≤ 16; omega⟩
def calm (d : DefD) : Prop := ∀ m ∈ d.msgs, (allRefs m.fields).length ≤ 1048576 ∧ ∀ f ∈ m.fields, f.terms.length ≤ 1048576
abbrev catchD (p3 p4 : Nat) : Deferred := { target := .fn (.func 61) #[.pointer (some ⟨p3, 0, none⟩), .pointer (some ⟨p4, 0, none⟩)], args := #[] }
theorem catch_ret {p3 p4 : Nat} {w : World} {k : FrameMode → World → Prop} (h : k .returning w) : outM Try.prog [catchD p3 p4] .returning w k := by
  refine ⟨by simp, .inr ⟨.func 61, _, 61, #[.pointer (some ⟨p3, 0, none⟩), .pointer (some ⟨p4, 0, none⟩)], rfl, ?_, ?_⟩⟩
  · exact callFunc_run c61 _ w
  · refine n_schema_examined_1_sound ?_
    unfold n_schema_examined_1
    show opV _ (binS .neq _ true .nilIface .nilIface) _ _ _
    rw [op_neqNil_none Try.underlying20]
    simp (disch := first | assumption | (simp only [ONE]; done) | rfl | (simp only [SZ]; done) | omega | (simp only [SZ] at *; omega)) only [↓PR, QR, Int.reduceBEq, Int.reduceBNe, Int.reduceLT, Int.reduceLE, Int.reduceGT, Int.reduceGE, Int.reduceNeg]
    exact h
theorem catch_pan {p3 p4 : Nat} {w : World} {k : FrameMode → World → Prop} {a f c : Int} {x0 x1 x2 y : Value} (o3 : w.heap[p3]? = some (.cells #[x0, x1, x2] 68 (0, 0))) (o4 : w.heap[p4]? = some (.cells #[y] 4 (0, 0)))
    (h : k .returning ((((w.setCell ⟨p3, 0, none⟩ (.int .i64 a)).setCell ⟨p3, 1, none⟩ (.int .i64 f)).setCell ⟨p3, 2, none⟩ (.int .i64 c)).setCell ⟨p4, 0, none⟩ (.bool true))) : outM Try.prog [catchD p3 p4] (.panicking [flawEntry a f c]) w k := by
  have hne : p3 ≠ p4 := by rintro rfl; rw [o3] at o4; cases o4
  refine ⟨by simp, .inr ⟨.func 61, _, 61, #[.pointer (some ⟨p3, 0, none⟩), .pointer (some ⟨p4, 0, none⟩)], rfl, ?_, ?_⟩⟩
  · exact callFunc_run c61 _ w
  · refine n_schema_examined_1_sound ?_
    rw [show recM (.panicking [flawEntry a f c]) = (.iface 68 (flawVal a f c), .panicking [{ v := .iface 68 (flawVal a f c), recovered := true }]) from rfl]
    unfold n_schema_examined_1
    rw [op_neqNil_some Try.underlying20]
    simp (disch := first | assumption | (simp only [ONE]; done) | rfl | (simp only [SZ]; done) | omega | (simp only [SZ] at *; omega)) only [↓PR, QR, Int.reduceBEq, Int.reduceBNe, Int.reduceLT, Int.reduceLE, Int.reduceGT, Int.reduceGE, Int.reduceNeg]
    unfold n_schema_examined_1_c1
    rw [op_assert_ok Try.underlying68 rfl]
    simp (disch := first | assumption | (simp only [ONE]; done) | rfl | (simp only [SZ]; done) | omega | (simp only [SZ] at *; omega)) only [↓PR, QR, Int.reduceBEq, Int.reduceBNe, Int.reduceLT, Int.reduceLE, Int.reduceGT, Int.reduceGE, Int.reduceNeg, (cells_of_heap o3).1, (cells_of_heap o3).2, (cells_of_heap o4).1, (cells_of_heap o4).2]
    exact h
section
variable {w0 : World}
def CkE (w : World) (cb : Nat) (deps : List (ByteArray × Int)) (strs : List (ByteArray × Bool)) : Prop := ∃ md ms dn mv ds at_ fld mn fv, w.heap[cb]? = some (.cells #[.string dn, mv, .string ds, .map (some md), .map (some ms), .int .i64 at_, .int .i64 fld, .string mn, fv] 101 (0, 0)) ∧ MapOf w md (vI deps) ∧ MapOf w ms (vB strs)
theorem CkE.other {w : World} {cb b o : Nat} {deps : List (ByteArray × Int)} {strs : List (ByteArray × Bool)} (h : CkE w cb deps strs) (hn : b ≠ cb) (v : Value) : CkE (w.setCell ⟨b, o, none⟩ v) cb deps strs := by
  obtain ⟨md, ms, dn, mv, ds, at_, fld, mn, fv, h1, h2, h3⟩ := h
  exact ⟨md, ms, dn, mv, ds, at_, fld, mn, fv, (Only.setCell w b o v cb (fun e => hn e.symm)).trans h1, h2.setCell _ _, h3.setCell _ _⟩
theorem CkE.go {w w' : World} {cb : Nat} {deps : List (ByteArray × Int)} {strs : List (ByteArray × Bool)} (h : CkE w cb deps strs) (e : Ext w w') : CkE w' cb deps strs := by
  obtain ⟨md, ms, dn, mv, ds, at_, fld, mn, fv, h1, h2, h3⟩ := h
  exact ⟨md, ms, dn, mv, ds, at_, fld, mn, fv, e.obj h1, h2.ext e, h3.ext e⟩
theorem CkO.left {a0 w : World} {cb md ms : Nat} {deps : List (ByteArray × Int)} {strs : List (ByteArray × Bool)} {at_ fld : Int} {fs : List FieldD} (h : CkO a0 w cb md ms deps strs at_ fld fs) : CkE w cb deps strs := by
  obtain ⟨dn, mv, ds, mn, fv, h1, _⟩ := h.obj
  exact ⟨md, ms, dn, mv, ds, at_, fld, mn, fv, h1, h.mdeps, h.mstrs⟩
def examK (w0 : World) (d : DefD) (r : Value) (w' : World) : Prop := Ext w0 w' ∧ ∃ cb, r = .tuple #[.pointer (some ⟨cb, 0, none⟩), flawVal (checkP d).1 (checkP d).2.1 (checkP d).2.2, .bool (decide ((checkP d).2.2 ≠ 0))] ∧
  ((checkP d).2.2 = 0 → CkE w' cb (depsOf d.msgs) (strsOf d.msgs))
abbrev resL (cb p3 p4 : Nat) : List (Option TypeId × Value) := [(none, .pointer (some ⟨cb, 0, none⟩)), (some 68, .pointer (some ⟨p3, 0, none⟩)), (some 4, .pointer (some ⟨p4, 0, none⟩))]
theorem exm_pan {w : World} {d : DefD} {cb p3 p4 : Nat} {a f c : Int} {x0 x1 x2 y : Value} (e : Ext w0 w) (h3 : w0.heap.size ≤ p3) (h4 : w0.heap.size ≤ p4) (o3 : w.heap[p3]? = some (.cells #[x0, x1, x2] 68 (0, 0))) (o4 : w.heap[p4]? = some (.cells #[y] 4 (0, 0)))
    (h : checkP d = (a, f, c)) (hc : c ≠ 0) : outQ Try.prog [catchD p3 p4] (resL cb p3 p4) (retR (examK w0 d)) [flawEntry a f c] w := by
  have hne : p3 ≠ p4 := by rintro rfl; rw [o3] at o4; cases o4
  unfold outQ
  refine catch_pan o3 o4 ?_
  have q3 := heap_set (o := 2) (heap_set (o := 1) (heap_set (o := 0) o3 (.int .i64 a)) (.int .i64 f)) (.int .i64 c)
  have e1 : Ext w0 ((((w.setCell ⟨p3, 0, none⟩ (.int .i64 a)).setCell ⟨p3, 1, none⟩ (.int .i64 f)).setCell ⟨p3, 2, none⟩ (.int .i64 c)).setCell ⟨p4, 0, none⟩ (.bool true)) := (((e.setCell h3 _).setCell h3 _).setCell h3 _).setCell h4 _
  have q4 := heap_set (o := 0) ((Only.setCell ((w.setCell ⟨p3, 0, none⟩ (.int .i64 a)).setCell ⟨p3, 1, none⟩ (.int .i64 f)) p3 2 (.int .i64 c) p4 (by omega)).trans ((Only.setCell (w.setCell ⟨p3, 0, none⟩ (.int .i64 a)) p3 1 (.int .i64 f) p4 (by omega)).trans ((Only.setCell w p3 0 (.int .i64 a) p4 (by omega)).trans o4))) (.bool true)
  have q3' := (Only.setCell _ p4 0 (.bool true) p3 hne).trans q3
  simp only [List.setIfInBounds_toArray, List.set_cons_zero, List.set_cons_succ] at q3' q4
  generalize ((((w.setCell ⟨p3, 0, none⟩ (.int .i64 a)).setCell ⟨p3, 1, none⟩ (.int .i64 f)).setCell ⟨p3, 2, none⟩ (.int .i64 c)).setCell ⟨p4, 0, none⟩ (.bool true)) = W at e1 q3' q4 ⊢
  unfold endM retV resOne resL
  simp only
  simp (disch := first | assumption | (simp only [ONE]; done) | rfl | (simp only [SZ]; done) | omega | (simp only [SZ] at *; omega)) only [↓PR, QR, Int.reduceBEq, Int.reduceBNe, Int.reduceLT, Int.reduceLE, Int.reduceGT, Int.reduceGE, Int.reduceNeg, (cells_of_heap q3').1, (cells_of_heap q4).1]
  refine ⟨e1, cb, ?_, fun h0 => ?_⟩
  · rw [h]; simp [hc]
  · rw [h] at h0; exact absurd h0 hc
theorem exm_fine {w : World} {d : DefD} {cb p3 p4 : Nat} (e : Ext w0 w) (hC : CkE w cb (depsOf d.msgs) (strsOf d.msgs)) (o3 : w.heap[p3]? = some (.cells #[.int .i64 0, .int .i64 0, .int .i64 0] 68 (0, 0))) (o4 : w.heap[p4]? = some (.cells #[.bool false] 4 (0, 0)))
    (h : checkP d = (0, 0, 0)) : outX Try.prog [catchD p3 p4] (resL cb p3 p4) (retR (examK w0 d)) w := by
  unfold outX
  refine catch_ret ?_
  unfold endM retV resOne resL
  simp only
  simp (disch := first | assumption | (simp only [ONE]; done) | rfl | (simp only [SZ]; done) | omega | (simp only [SZ] at *; omega)) only [↓PR, QR, Int.reduceBEq, Int.reduceBNe, Int.reduceLT, Int.reduceLE, Int.reduceGT, Int.reduceGE, Int.reduceNeg, (cells_of_heap o3).1, (cells_of_heap o4).1]
  refine ⟨e, cb, ?_, fun h0 => hC⟩
  rw [h]; simp
theorem callK_nxt {f : FuncId} {args : Array Value} {QP : List PanicEntry → World → Prop} {a0 w : World} {k : Value → World → Prop} {at_ : Int} {r : Int × Int} {K : World → Prop} (h : Calls Try.prog f args w (nxtR a0 at_ r K)) (hk : ∀ w', r.2 = 0 → K w' → k (.tuple #[]) w') (hp : ∀ w', Ext a0 w' → r.2 ≠ 0 → QP [flawEntry at_ r.1 r.2] w') : callK Try.prog f args QP w k :=
  callK_calls h (fun v w' h => by rcases h with ⟨e, ⟨h1, h2, h3⟩ | ⟨_, h2⟩⟩ <;> cases h2; exact hk w' h1 h3) (fun ch w' h => by rcases h with ⟨e, ⟨_, h2, _⟩ | ⟨h1, h2⟩⟩ <;> cases h2; exact hp w' e h1) (fun w' h => by rcases h with ⟨_, ⟨_, h2, _⟩ | ⟨_, h2⟩⟩ <;> cases h2)
theorem foldl_take {α β : Type} (g : β → α → β) {l : List α} {k : Nat} {x : α} (b : β) (hx : l[k]? = some x) : (l.take (k + 1)).foldl g b = g ((l.take k).foldl g b) x := by rw [take_snoc hx, List.foldl_append]; rfl
theorem exm_loop {A0 w : World} {d : DefD} {cb p1 p3 p4 md ms : Nat} {fs : List FieldD} {mv : Value} (ea : Ext w0 A0) (hM : MsgsOf A0 mv d.msgs) (ht : calm d) (hC : CkO A0 w cb md ms [] [] (-1) (-1) fs) (o1 : A0.heap[p1]? = some (.cells (defCells d mv).toArray 44 (0, 0)))
    (o3 : A0.heap[p3]? = some (.cells #[.int .i64 0, .int .i64 0, .int .i64 0] 68 (0, 0))) (o4 : A0.heap[p4]? = some (.cells #[.bool false] 4 (0, 0))) (h3 : w0.heap.size ≤ p3) (h4 : w0.heap.size ≤ p4) (hr : checkP d = endP d (msgsP [] [] 0 d.msgs)) :
    n_schema_examined_c6 (.pointer (some ⟨p1, 0, none⟩)) (.pointer (some ⟨p3, 0, none⟩)) (.pointer (some ⟨p4, 0, none⟩)) (.pointer (some ⟨cb, 0, none⟩)) [catchD p3 p4] (retR (examK w0 d)) w := by
  have pan : ∀ w' a f c, Ext A0 w' → checkP d = (a, f, c) → c ≠ 0 → outQ Try.prog [catchD p3 p4] (resL cb p3 p4) (retR (examK w0 d)) [flawEntry a f c] w' := fun w' a f c e h h0 => exm_pan (ea.trans e) h3 h4 (e.obj o3) (e.obj o4) h h0
  obtain ⟨A, c, rfl, hlc, hcm, hlm, hel⟩ := SliceOf.open hM
  unfold n_schema_examined_c6
  simp (disch := first | assumption | (simp only [ONE]; done) | rfl | (simp only [SZ]; done) | omega | (simp only [SZ] at *; omega)) only [↓PR, QR, Int.reduceBEq, Int.reduceBNe, Int.reduceLT, Int.reduceLE, Int.reduceGT, Int.reduceGE, Int.reduceNeg, (cells_of_heap (hC.ext.obj o1)).1]
  refine loop1_intro (fun i w' => ∃ (k : Nat) (at' : Int) (fs' : List FieldD), i = .int .i64 k ∧ k ≤ d.msgs.length ∧ CkO A0 w' cb md ms (depsOf (d.msgs.take k)) (strsOf (d.msgs.take k)) at' (-1) fs' ∧ Low (depsOf (d.msgs.take k)) ∧ checkP d = endP d (msgsP (depsOf (d.msgs.take k)) (strsOf (d.msgs.take k)) k (d.msgs.drop k))) (fun i _ => d.msgs.length - (intOf i).toNat) ⟨0, -1, fs, rfl, by omega, hC, (fun _ h => by cases h), hr⟩ ?_
  rintro i w' ⟨k, at', fs', rfl, hk, hC', hlow, hrk⟩
  have lw' := hC'.ext.size
  obtain ⟨dn, mv, ds, mn, fv', x1, x2⟩ := hC'.obj
  obtain ⟨n1, n2, l1, l2, l3⟩ := hC'.nd
  rcases drop_cases hk with ⟨x, hx, hd, hlt, hdec⟩ | ⟨hk, hd, hdec⟩
  · obtain ⟨b, o, cs, rfl, hl, hA, fv, rfl, hF⟩ := hel k x hx
    have hf1 := SliceOf.oneCell hF
    rw [hd] at hrk
    simp only [msgsP] at hrk
    unfold n_schema_examined_c5
    simp (disch := first | assumption | (simp only [ONE]; done) | rfl | (simp only [SZ]; done) | omega | (simp only [SZ] at *; omega)) only [↓PR, QR, Int.reduceBEq, Int.reduceBNe, Int.reduceLT, Int.reduceLE, Int.reduceGT, Int.reduceGE, Int.reduceNeg, hdec]
    unfold n_schema_examined_c4
    simp (disch := first | assumption | (simp only [ONE]; done) | rfl | (simp only [SZ]; done) | omega | (simp only [SZ] at *; omega)) only [↓PR, QR, Int.reduceBEq, Int.reduceBNe, Int.reduceLT, Int.reduceLE, Int.reduceGT, Int.reduceGE, Int.reduceNeg, (hA.c2 hC'.ext).1, (hA.c2 hC'.ext).2, (cells_of_heap x1).1, (cells_of_heap x1).2]
    have hCw := (hC'.setAt (k : Int)).go ((Ext.refl _).alloc (Obj.cells (msgCells x fv).toArray 50))
    refine callK_nxt (next_flw (m := x) hlow hCw _ ⟨fv, rfl, hF⟩ (ht x (List.mem_of_getElem? hx)).1 (ht x (List.mem_of_getElem? hx)).2 (fun w' => CkO A0 w' cb md ms (stepD (depsOf (d.msgs.take k)) x) (stepS (strsOf (d.msgs.take k)) x) k (-1) x.fields) (fun w' h => h)) (fun w5 h0 hC5 => ?_) (fun w5 e5 h0 => ?_)
    · rw [if_pos h0] at hrk
      have hd1 : depsOf (d.msgs.take (k + 1)) = stepD (depsOf (d.msgs.take k)) x := foldl_take stepD [] hx
      have hs1 : strsOf (d.msgs.take (k + 1)) = stepS (strsOf (d.msgs.take k)) x := foldl_take stepS [] hx
      rw [← hd1, ← hs1] at hrk hC5
      have hlow' : Low (depsOf (d.msgs.take (k + 1))) := by rw [hd1]; exact hlow.step h0
      simp (disch := first | assumption | (simp only [ONE]; done) | rfl | (simp only [SZ]; done) | omega | (simp only [SZ] at *; omega)) only [↓PR, QR, Int.reduceBEq, Int.reduceBNe, Int.reduceLT, Int.reduceLE, Int.reduceGT, Int.reduceGE, Int.reduceNeg]
      exact ⟨⟨k + 1, k, x.fields, rfl, by omega, hC5, hlow', hrk⟩, meas_lt hlt⟩
    · rw [if_neg h0] at hrk
      refine pan _ _ _ _ e5 ?_ h0
      rw [hrk]
      unfold endP
      rw [if_neg h0]
  · subst hk
    rw [hd] at hrk
    rw [List.take_length] at hC' hrk
    unfold n_schema_examined_c5
    simp (disch := first | assumption | (simp only [ONE]; done) | rfl | (simp only [SZ]; done) | omega | (simp only [SZ] at *; omega)) only [↓PR, QR, Int.reduceBEq, Int.reduceBNe, Int.reduceLT, Int.reduceLE, Int.reduceGT, Int.reduceGE, Int.reduceNeg, hdec]
    unfold n_schema_examined_c3
    simp (disch := first | assumption | (simp only [ONE]; done) | rfl | (simp only [SZ]; done) | omega | (simp only [SZ] at *; omega)) only [↓PR, QR, Int.reduceBEq, Int.reduceBNe, Int.reduceLT, Int.reduceLE, Int.reduceGT, Int.reduceGE, Int.reduceNeg, (cells_of_heap x1).1, (cells_of_heap x1).2]
    have hC2 := hC'.setAt (-1)
    generalize (w'.setCell ⟨cb, 5, none⟩ (.int .i64 (-1))) = W at hC2 ⊢
    clear x1 x2 hC'
    obtain ⟨dn, mv, ds, mn, fv', x1, x2⟩ := hC2.obj
    refine drawK_intro ?_
    have eD : Ext W W.drew := (Ext.refl W).wdrew
    unfold n_schema_examined_c2
    simp (disch := first | assumption | (simp only [ONE]; done) | rfl | (simp only [SZ]; done) | omega | (simp only [SZ] at *; omega)) only [↓PR, QR, Int.reduceBEq, Int.reduceBNe, Int.reduceLT, Int.reduceLE, Int.reduceGT, Int.reduceGE, Int.reduceNeg, (cells_of_heap x1).1, (cells_of_heap (hC2.ext.obj o1)).1]
    rw [qV_lookupE Try.underlying98 Try.underlying9 ty3 (hC2.mdeps.ext eD) d.start]
    have hsome : (lastOf (vI (depsOf d.msgs)) d.start).isSome = (lastP (depsOf d.msgs) d.start).isSome := by rw [lastOf_vI, Option.isSome_map]
    rw [hsome]
    simp only [msgsP, endP, if_true] at hrk
    simp (disch := first | assumption | (simp only [ONE]; done) | rfl | (simp only [SZ]; done) | omega | (simp only [SZ] at *; omega)) only [↓PR, QR, Int.reduceBEq, Int.reduceBNe, Int.reduceLT, Int.reduceLE, Int.reduceGT, Int.reduceGE, Int.reduceNeg]
    refine callK_flw (need_flw (hC2.go eD).chk _ 11 (by decide)) (fun w5 e5 h0 => ?_) (fun w5 e5 h0 => ?_)
    · have hs := needC_zero (by decide) h0
      rw [hs, if_pos rfl] at hrk
      have hC5 := hC2.go (eD.trans e5)
      have y3 := hC5.ext.obj o3
      have y4 := hC5.ext.obj o4
      have ne34 : p3 ≠ p4 := by rintro rfl; rw [o3] at o4; cases o4
      unfold n_schema_examined_c1
      simp (disch := first | assumption | (simp only [ONE]; done) | rfl | (simp only [SZ]; done) | omega | (simp only [SZ] at *; omega)) only [↓PR, QR, Int.reduceBEq, Int.reduceBNe, Int.reduceLT, Int.reduceLE, Int.reduceGT, Int.reduceGE, Int.reduceNeg, (cells_of_heap y3).1, (cells_of_heap y3).2, (cells_of_heap y4).1, (cells_of_heap y4).2]
      have c3 : p3 ≠ cb := by have := hC5.lcb; have := (Array.getElem?_eq_some_iff.1 o3).1; omega
      have c4 : p4 ≠ cb := by have := hC5.lcb; have := (Array.getElem?_eq_some_iff.1 o4).1; omega
      have q3 := heap_set (o := 2) (heap_set (o := 1) (heap_set (o := 0) y3 (.int .i64 0)) (.int .i64 0)) (.int .i64 0)
      have q4 := heap_set (o := 0) ((Only.setCell ((w5.setCell ⟨p3, 0, none⟩ (.int .i64 0)).setCell ⟨p3, 1, none⟩ (.int .i64 0)) p3 2 (.int .i64 0) p4 (by omega)).trans ((Only.setCell (w5.setCell ⟨p3, 0, none⟩ (.int .i64 0)) p3 1 (.int .i64 0) p4 (by omega)).trans ((Only.setCell w5 p3 0 (.int .i64 0) p4 (by omega)).trans y4))) (.bool false)
      have q3' := (Only.setCell _ p4 0 (.bool false) p3 ne34).trans q3
      exact exm_fine (((((ea.trans hC5.ext).setCell h3 _).setCell h3 _).setCell h3 _).setCell h4 _) ((((hC5.left.other c3 _).other c3 _).other c3 _).other c4 _) (by simpa using q3') (by simpa using q4) hrk
    · have hs : (lastP (depsOf d.msgs) d.start).isSome = false := by
        cases hq : (lastP (depsOf d.msgs) d.start).isSome with
        | false => rfl
        | true => rw [hq] at h0; exact absurd rfl h0
      rw [hs, if_neg (by simp)] at hrk
      rw [hs]
      exact pan _ _ _ _ (hC2.ext.trans (eD.trans e5)) hrk (by decide)
theorem examined_ret (v : Value) (d : DefD) (hd : DefVal w0 v d) (ht : calm d) : Ret Try.prog 47 #[v] w0 (examK w0 d) := by
  obtain ⟨mv, rfl, hM⟩ := hd
  have hm1 := SliceOf.oneCell hM
  refine n_schema_examined_sound (R := retR _) ?_; unfold n_schema_examined
  simp (disch := first | assumption | (simp only [ONE]; done) | rfl | (simp only [SZ]; done) | omega | (simp only [SZ] at *; omega)) only [↓PR, QR, Int.reduceBEq, Int.reduceBNe, Int.reduceLT, Int.reduceLE, Int.reduceGT, Int.reduceGE, Int.reduceNeg]
  refine ⟨catchD (w0.heap.size + 1) (w0.heap.size + 1 + 1), _, rfl, ?_⟩
  simp only [World.size_alloc]
  generalize hA0 : ((w0.alloc (Obj.cells (defCells d mv).toArray 44)).alloc (Obj.cells #[.int .i64 0, .int .i64 0, .int .i64 0] 68)).alloc (Obj.cells #[.bool false] 4) = A0
  have ea : Ext w0 A0 := by rw [← hA0]; exact ee
  have o1 : A0.heap[w0.heap.size]? = some (.cells (defCells d mv).toArray 44 (0, 0)) := by rw [← hA0]; simp (disch := first | assumption | (simp only [ONE]; done) | rfl | (simp only [SZ]; done) | omega | (simp only [SZ] at *; omega)) only [↓PR, QR, Int.reduceBEq, Int.reduceBNe, Int.reduceLT, Int.reduceLE, Int.reduceGT, Int.reduceGE, Int.reduceNeg]
  have o3 : A0.heap[w0.heap.size + 1]? = some (.cells #[.int .i64 0, .int .i64 0, .int .i64 0] 68 (0, 0)) := by rw [← hA0]; simp (disch := first | assumption | (simp only [ONE]; done) | rfl | (simp only [SZ]; done) | omega | (simp only [SZ] at *; omega)) only [↓PR, QR, Int.reduceBEq, Int.reduceBNe, Int.reduceLT, Int.reduceLE, Int.reduceGT, Int.reduceGE, Int.reduceNeg]
  have o4 : A0.heap[w0.heap.size + 1 + 1]? = some (.cells #[.bool false] 4 (0, 0)) := by rw [← hA0]; simp (disch := first | assumption | (simp only [ONE]; done) | rfl | (simp only [SZ]; done) | omega | (simp only [SZ] at *; omega)) only [↓PR, QR, Int.reduceBEq, Int.reduceBNe, Int.reduceLT, Int.reduceLE, Int.reduceGT, Int.reduceGE, Int.reduceNeg]
  have hsz : A0.heap.size = w0.heap.size + 1 + 1 + 1 := by rw [← hA0]; simp only [World.size_alloc]
  clear hA0
  have hC : CkO A0 (((A0.alloc (Obj.map #[] 0)).alloc (Obj.map #[] 0)).alloc (Obj.cells #[.string d.name, mv, .string d.start, .map (some (w0.heap.size + 1 + 1 + 1)), .map (some (w0.heap.size + 1 + 1 + 1 + 1)), .int .i64 (-1), .int .i64 (-1), .string ByteArray.empty, .slice none 0 0] 101)) (w0.heap.size + 1 + 1 + 1 + 1 + 1) (w0.heap.size + 1 + 1 + 1) (w0.heap.size + 1 + 1 + 1 + 1) [] [] (-1) (-1) [] := by
    refine ⟨ee, ⟨d.name, mv, d.start, ByteArray.empty, .slice none 0 0, ?_, SliceOf.nil _ _ _⟩, ?_, ?_, by omega, by omega, by omega, by omega⟩
    · have := heap_new ((A0.alloc (Obj.map #[] 0)).alloc (Obj.map #[] 0)) #[.string d.name, mv, .string d.start, .map (some (w0.heap.size + 1 + 1 + 1)), .map (some (w0.heap.size + 1 + 1 + 1 + 1)), .int .i64 (-1), .int .i64 (-1), .string ByteArray.empty, .slice none 0 0] 101
      simp only [World.size_alloc, hsz] at this
      exact this
    · have := (MapOf.new A0).ext (((Ext.refl _).alloc (Obj.map #[] 0)).alloc (Obj.cells #[.string d.name, mv, .string d.start, .map (some (w0.heap.size + 1 + 1 + 1)), .map (some (w0.heap.size + 1 + 1 + 1 + 1)), .int .i64 (-1), .int .i64 (-1), .string ByteArray.empty, .slice none 0 0] 101))
      simp only [World.size_alloc, hsz] at this
      exact this
    · have := (MapOf.new (A0.alloc (Obj.map #[] 0))).ext ((Ext.refl _).alloc (Obj.cells #[.string d.name, mv, .string d.start, .map (some (w0.heap.size + 1 + 1 + 1)), .map (some (w0.heap.size + 1 + 1 + 1 + 1)), .int .i64 (-1), .int .i64 (-1), .string ByteArray.empty, .slice none 0 0] 101))
      simp only [World.size_alloc, hsz] at this
      exact this
  generalize (((A0.alloc (Obj.map #[] 0)).alloc (Obj.map #[] 0)).alloc (Obj.cells #[.string d.name, mv, .string d.start, .map (some (w0.heap.size + 1 + 1 + 1)), .map (some (w0.heap.size + 1 + 1 + 1 + 1)), .int .i64 (-1), .int .i64 (-1), .string ByteArray.empty, .slice none 0 0] 101)) = W at hC ⊢
  generalize hcb : w0.heap.size + 1 + 1 + 1 + 1 + 1 = cb at hC ⊢
  generalize hmd : w0.heap.size + 1 + 1 + 1 = md at hC hsz
  generalize hms : w0.heap.size + 1 + 1 + 1 + 1 = ms at hC
  generalize hp3 : w0.heap.size + 1 + 1 = p4 at o4 ⊢
  generalize hp4 : w0.heap.size + 1 = p3 at o3 ⊢
  have l3 : w0.heap.size ≤ p3 := by omega
  have l4 : w0.heap.size ≤ p4 := by omega
  simp (disch := first | assumption | (simp only [ONE]; done) | rfl | (simp only [SZ]; done) | omega | (simp only [SZ] at *; omega)) only [↓PR, QR, Int.reduceBEq, Int.reduceBNe, Int.reduceLT, Int.reduceLE, Int.reduceGT, Int.reduceGE, Int.reduceNeg, (cells_of_heap (hC.ext.obj o1)).1]
  refine callK_ret (Name_ret _ d.name) ?_
  rintro _ w1 ⟨rfl, e1⟩
  have hC1 := hC.go e1
  have pan : ∀ w' a f c, Ext A0 w' → checkP d = (a, f, c) → c ≠ 0 → outQ Try.prog [catchD p3 p4] (resL cb p3 p4) (retR (examK w0 d)) [flawEntry a f c] w' := fun w' a f c e h h0 => exm_pan (ea.trans e) l3 l4 (e.obj o3) (e.obj o4) h h0
  generalize hr : checkP d = r
  have hr' := hr
  unfold checkP at hr
  refine callK_flw (need_flw hC1.chk _ 1 (by decide)) (fun w2 e2 h0 => ?_) (fun w2 e2 h0 => ?_)
  · have hn : nameB d.name = true := needC_zero (by decide) h0
    rw [if_pos hn] at hr
    have hC2 := hC1.go e2
    have fin : ∀ b, b = decide (1 ≤ d.msgs.length ∧ d.msgs.length ≤ 60) → callK Try.prog 62 #[.pointer (some ⟨cb, 0, none⟩), .bool b, .int .i64 3] (outQ Try.prog [catchD p3 p4] (resL cb p3 p4) (retR (examK w0 d))) w2 (fun _ w => n_schema_examined_c6 (.pointer (some ⟨w0.heap.size, 0, none⟩)) (.pointer (some ⟨p3, 0, none⟩)) (.pointer (some ⟨p4, 0, none⟩)) (.pointer (some ⟨cb, 0, none⟩)) [catchD p3 p4] (retR (examK w0 d)) w) := by
      rintro b rfl
      refine callK_flw (need_flw hC2.chk _ 3 (by decide)) (fun w3 e3 h0 => ?_) (fun w3 e3 h0 => ?_)
      · have hl := needC_zero (by decide) h0
        simp only [decide_eq_true_eq] at hl
        rw [if_pos hl] at hr
        exact exm_loop ea (hM.ext ea) ht (hC2.go e3) o1 o3 o4 l3 l4 (hr'.trans hr.symm)
      · by_cases hl : 1 ≤ d.msgs.length ∧ d.msgs.length ≤ 60
        · rw [decide_eq_true hl] at h0; exact absurd rfl h0
        · rw [if_neg hl] at hr
          rw [decide_eq_false hl]
          exact pan _ _ _ _ (hC2.ext.trans e3) (hr'.trans hr.symm) (by decide)
    obtain ⟨A, c, rfl, hlc, hcm, hlm, hel⟩ := SliceOf.open hM
    have x1 := hC2.ext.obj o1
    unfold n_schema_examined_c9
    by_cases h1l : 1 ≤ d.msgs.length
    · have d1 : decide ((d.msgs.length : Int) ≥ 1) = true := by simp; omega
      by_cases h2l : d.msgs.length ≤ 60
      · have d2 : decide ((d.msgs.length : Int) ≤ 60) = true := by simp; omega
        simp (disch := first | assumption | (simp only [ONE]; done) | rfl | (simp only [SZ]; done) | omega | (simp only [SZ] at *; omega)) only [↓PR, QR, Int.reduceBEq, Int.reduceBNe, Int.reduceLT, Int.reduceLE, Int.reduceGT, Int.reduceGE, Int.reduceNeg, (cells_of_heap x1).1, d1, d2, ↓n_schema_examined_c1, ↓n_schema_examined_c2, ↓n_schema_examined_c3, ↓n_schema_examined_c4, ↓n_schema_examined_c5, ↓n_schema_examined_c6, ↓n_schema_examined_c7, ↓n_schema_examined_c8, ↓n_schema_examined_c9]
        exact fin _ (by simp [h1l, h2l])
      · have d2 : decide ((d.msgs.length : Int) ≤ 60) = false := by simp; omega
        simp (disch := first | assumption | (simp only [ONE]; done) | rfl | (simp only [SZ]; done) | omega | (simp only [SZ] at *; omega)) only [↓PR, QR, Int.reduceBEq, Int.reduceBNe, Int.reduceLT, Int.reduceLE, Int.reduceGT, Int.reduceGE, Int.reduceNeg, (cells_of_heap x1).1, d1, d2, ↓n_schema_examined_c1, ↓n_schema_examined_c2, ↓n_schema_examined_c3, ↓n_schema_examined_c4, ↓n_schema_examined_c5, ↓n_schema_examined_c6, ↓n_schema_examined_c7, ↓n_schema_examined_c8, ↓n_schema_examined_c9]
        exact fin _ (by simp [h2l])
    · have d1 : decide ((d.msgs.length : Int) ≥ 1) = false := by simp; omega
      simp (disch := first | assumption | (simp only [ONE]; done) | rfl | (simp only [SZ]; done) | omega | (simp only [SZ] at *; omega)) only [↓PR, QR, Int.reduceBEq, Int.reduceBNe, Int.reduceLT, Int.reduceLE, Int.reduceGT, Int.reduceGE, Int.reduceNeg, (cells_of_heap x1).1, d1, ↓n_schema_examined_c1, ↓n_schema_examined_c2, ↓n_schema_examined_c3, ↓n_schema_examined_c4, ↓n_schema_examined_c5, ↓n_schema_examined_c6, ↓n_schema_examined_c7, ↓n_schema_examined_c8, ↓n_schema_examined_c9]
      exact fin _ (by simp [h1l])
  · have hn : nameB d.name = false := by
      cases hq : nameB d.name with
      | false => rfl
      | true => rw [hq] at h0; exact absurd rfl h0
    rw [hn, if_neg (by simp)] at hr
    rw [hn]
    exact pan _ _ _ _ (hC1.ext.trans e2) (hr'.trans hr.symm) (by decide)
end
end Go.Proofs.Ytiajhbbmgglmlaa
namespace Go.Proofs.Ytiajhbbmgglmlaa
open Sw
open Go.RowKit (intOf Below)
set_option maxRecDepth 100000
section
variable {w0 : World}
abbrev flawOf (r : Int × Int × Int) : Value := flawVal r.1 r.2.1 r.2.2
abbrev flawedB (d : DefD) : Bool := decide ((checkP d).2.2 ≠ 0)
theorem Check_ret (v : Value) (d : DefD) (hd : DefVal w0 v d) (ht : calm d) : Ret Try.prog 26 #[v] w0 fun r w' => r = .tuple #[flawOf (checkP d), .bool (flawedB d)] ∧ Ext w0 w' := by
  obtain ⟨mv, rfl, hM⟩ := hd
  have hm1 := SliceOf.oneCell hM
  refine n_schema_Check_sound (R := retR _) ?_; unfold n_schema_Check
  simp (disch := first | assumption | (simp only [ONE]; done) | rfl | (simp only [SZ]; done) | omega | (simp only [SZ] at *; omega)) only [↓PR, QR, Int.reduceBEq, Int.reduceBNe, Int.reduceLT, Int.reduceLE, Int.reduceGT, Int.reduceGE, Int.reduceNeg]
  refine callK_ret (examined_ret _ d ⟨mv, rfl, MsgsOf.ext hM ee⟩ ht) ?_
  rintro _ w1 ⟨e1, cb, rfl, _⟩
  have s1 := e1.size
  simp only [World.size_alloc] at s1
  have o2 := e1.obj (heap_new (w0.alloc (Obj.cells (defCells d mv).toArray 44)) #[.int .i64 0, .int .i64 0, .int .i64 0] 68)
  rw [World.size_alloc] at o2
  simp (disch := first | assumption | (simp only [ONE]; done) | rfl | (simp only [SZ]; done) | omega | (simp only [SZ] at *; omega)) only [↓PR, QR, Int.reduceBEq, Int.reduceBNe, Int.reduceLT, Int.reduceLE, Int.reduceGT, Int.reduceGE, Int.reduceNeg, ↓n_schema_Check_c1, (cells_of_heap o2).1, (cells_of_heap o2).2]
  exact ⟨by first | trivial | rfl, ee⟩
theorem Valid_ret' (v : Value) (d : DefD) (hd : DefVal w0 v d) (ht : calm d) : Ret Try.prog 27 #[v] w0 fun r w' => r = .bool (!flawedB d) ∧ Ext w0 w' := by
  obtain ⟨mv, rfl, hM⟩ := hd
  have hm1 := SliceOf.oneCell hM
  refine n_schema_Valid_sound (R := retR _) ?_; unfold n_schema_Valid
  simp (disch := first | assumption | (simp only [ONE]; done) | rfl | (simp only [SZ]; done) | omega | (simp only [SZ] at *; omega)) only [↓PR, QR, Int.reduceBEq, Int.reduceBNe, Int.reduceLT, Int.reduceLE, Int.reduceGT, Int.reduceGE, Int.reduceNeg]
  refine callK_ret (Check_ret _ d ⟨mv, rfl, MsgsOf.ext hM ee⟩ ht) ?_
  rintro _ w1 ⟨rfl, e1⟩
  simp (disch := first | assumption | (simp only [ONE]; done) | rfl | (simp only [SZ]; done) | omega | (simp only [SZ] at *; omega)) only [↓PR, QR, Int.reduceBEq, Int.reduceBNe, Int.reduceLT, Int.reduceLE, Int.reduceGT, Int.reduceGE, Int.reduceNeg, ↓n_schema_Valid_c1]
  exact ⟨by first | trivial | rfl, ee⟩
theorem Depth1_ret {cb : Nat} {deps : List (ByteArray × Int)} {strs : List (ByteArray × Bool)} (h : CkE w0 cb deps strs) : Ret Try.prog 51 #[.pointer (some ⟨cb, 0, none⟩)] w0 fun r w' => ∃ md, r = .map (some md) ∧ MapOf w' md (vI deps) ∧ Ext w0 w' := by
  obtain ⟨md, ms, dn, mv, ds, at_, fld, mn, fv, h1, h2, h3⟩ := h
  refine n_schema_Depth_1_sound (R := retR _) ?_; unfold n_schema_Depth_1
  simp (disch := first | assumption | (simp only [ONE]; done) | rfl | (simp only [SZ]; done) | omega | (simp only [SZ] at *; omega)) only [↓PR, QR, Int.reduceBEq, Int.reduceBNe, Int.reduceLT, Int.reduceLE, Int.reduceGT, Int.reduceGE, Int.reduceNeg, (cells_of_heap h1).1]
  exact ⟨md, rfl, h2, Ext.refl _⟩
def nameAt (d : DefD) (i : Int) : ByteArray := match d.msgs[i.toNat]? with
  | some m => m.name
  | none => ByteArray.empty
def depthP (d : DefD) (i : Int) : Int × Int := if (checkP d).2.2 ≠ 0 then (0, 2) else if i < 0 ∨ d.msgs.length ≤ i then (0, 3) else ((lastP (depsOf d.msgs) (nameAt d i)).getD 0, 0)
theorem of_int_ret (v : Value) (d : DefD) (i : Int) (hd : DefVal w0 v d) (ht : calm d) : Ret Try.prog 50 #[v, .int .i64 i, .func (.func 51) #[] #[]] w0 fun r w' => r = .tuple #[.int .i64 (depthP d i).1, .int .i64 (depthP d i).2] ∧ Ext w0 w' := by
  obtain ⟨mv, rfl, hM⟩ := hd
  have hm1 := SliceOf.oneCell hM
  refine n_schema_of_int_sound (R := retR _) ?_; unfold n_schema_of_int
  simp (disch := first | assumption | (simp only [ONE]; done) | rfl | (simp only [SZ]; done) | omega | (simp only [SZ] at *; omega)) only [↓PR, QR, Int.reduceBEq, Int.reduceBNe, Int.reduceLT, Int.reduceLE, Int.reduceGT, Int.reduceGE, Int.reduceNeg]
  refine callK_ret (examined_ret _ d ⟨mv, rfl, MsgsOf.ext hM ee⟩ ht) ?_
  rintro _ w1 ⟨e1, cb, rfl, hck⟩
  have s1 := e1.size
  simp only [World.size_alloc] at s1
  have o1 := e1.obj (heap_new w0 (defCells d mv).toArray 44)
  unfold n_schema_of_int_c3 depthP
  by_cases hf : (checkP d).2.2 ≠ 0
  · rw [if_pos hf, decide_eq_true hf]
    simp (disch := first | assumption | (simp only [ONE]; done) | rfl | (simp only [SZ]; done) | omega | (simp only [SZ] at *; omega)) only [↓PR, QR, Int.reduceBEq, Int.reduceBNe, Int.reduceLT, Int.reduceLE, Int.reduceGT, Int.reduceGE, Int.reduceNeg]
    exact ⟨by first | trivial | rfl, ee⟩
  · have h0 : (checkP d).2.2 = 0 := Decidable.not_not.1 hf
    rw [if_neg hf, decide_eq_false hf]
    replace hck := hck h0
    obtain ⟨A, c, rfl, hlc, hcm, hlm, hel⟩ := SliceOf.open hM
    have eA : Ext w0 w1 := ee
    have eB : Ext w1 (w1.alloc (Obj.cells #[.int .i64 (checkP d).1, .int .i64 (checkP d).2.1, .int .i64 (checkP d).2.2] 68)) := ee
    simp (disch := first | assumption | (simp only [ONE]; done) | rfl | (simp only [SZ]; done) | omega | (simp only [SZ] at *; omega)) only [↓PR, QR, Int.reduceBEq, Int.reduceBNe, Int.reduceLT, Int.reduceLE, Int.reduceGT, Int.reduceGE, Int.reduceNeg]
    have o1' := eB.obj o1
    have hck' := hck.go eB
    have eC := eA.trans eB
    generalize (w1.alloc (Obj.cells #[.int .i64 (checkP d).1, .int .i64 (checkP d).2.1, .int .i64 (checkP d).2.2] 68)) = w2 at o1' hck' eC ⊢
    unfold n_schema_of_int_c2
    by_cases hi : i < 0
    · rw [if_pos (.inl hi)]
      have d1 : decide (i < 0) = true := decide_eq_true hi
      simp (disch := first | assumption | (simp only [ONE]; done) | rfl | (simp only [SZ]; done) | omega | (simp only [SZ] at *; omega)) only [↓PR, QR, Int.reduceBEq, Int.reduceBNe, Int.reduceLT, Int.reduceLE, Int.reduceGT, Int.reduceGE, Int.reduceNeg, d1]
      exact ⟨by first | trivial | rfl, ee⟩
    · have d1 : decide (i < 0) = false := decide_eq_false hi
      by_cases hj : (d.msgs.length : Int) ≤ i
      · rw [if_pos (.inr hj)]
        have d2 : decide (i ≥ (d.msgs.length : Int)) = true := decide_eq_true hj
        simp (disch := first | assumption | (simp only [ONE]; done) | rfl | (simp only [SZ]; done) | omega | (simp only [SZ] at *; omega)) only [↓PR, QR, Int.reduceBEq, Int.reduceBNe, Int.reduceLT, Int.reduceLE, Int.reduceGT, Int.reduceGE, Int.reduceNeg, d1, d2, (cells_of_heap o1').1]
        exact ⟨by first | trivial | rfl, ee⟩
      · rw [if_neg (by omega)]
        have d2 : decide (i ≥ (d.msgs.length : Int)) = false := decide_eq_false hj
        simp (disch := first | assumption | (simp only [ONE]; done) | rfl | (simp only [SZ]; done) | omega | (simp only [SZ] at *; omega)) only [↓PR, QR, Int.reduceBEq, Int.reduceBNe, Int.reduceLT, Int.reduceLE, Int.reduceGT, Int.reduceGE, Int.reduceNeg, d1, d2, (cells_of_heap o1').1]
        obtain ⟨k, rfl⟩ : ∃ k : Nat, i = k := ⟨i.toNat, by omega⟩
        have hk : k < d.msgs.length := by omega
        obtain ⟨m, hm⟩ := getElem?_lt hk
        obtain ⟨b, o, cs, rfl, hl, hA, fv, rfl, hF⟩ := hel k m hm
        have hnm : nameAt d k = m.name := by unfold nameAt; rw [Int.toNat_natCast, hm]
        rw [hnm]
        refine drawK_intro ?_
        have eD : Ext w2 w2.drew := (Ext.refl w2).wdrew
        unfold n_schema_of_int_c1
        simp (disch := first | assumption | (simp only [ONE]; done) | rfl | (simp only [SZ]; done) | omega | (simp only [SZ] at *; omega)) only [↓PR, QR, Int.reduceBEq, Int.reduceBNe, Int.reduceLT, Int.reduceLE, Int.reduceGT, Int.reduceGE, Int.reduceNeg, (cells_of_heap o1').1, (hA.c2 eC).1]
        rw [callV_func c51]
        simp only [Array.empty_append, Array.append_empty]
        refine callK_ret (Depth1_ret (hck'.go eD)) ?_
        rintro _ w4 ⟨md, rfl, hmd, e4⟩
        refine narrowK_EC e4 ?_
        rw [qV_lookup1E Try.underlying98 Try.underlying9 ty3 hmd m.name]
        have hg : (lastOf (vI (depsOf d.msgs)) m.name).getD (.int .i64 0) = .int .i64 ((lastP (depsOf d.msgs) m.name).getD 0) := by rw [lastOf_vI]; cases lastP (depsOf d.msgs) m.name <;> rfl
        rw [hg]
        simp (disch := first | assumption | (simp only [ONE]; done) | rfl | (simp only [SZ]; done) | omega | (simp only [SZ] at *; omega)) only [↓PR, QR, Int.reduceBEq, Int.reduceBNe, Int.reduceLT, Int.reduceLE, Int.reduceGT, Int.reduceGE, Int.reduceNeg]
        exact ⟨by first | trivial | rfl, ee⟩
theorem Depth_ret (v : Value) (d : DefD) (i : Int) (hd : DefVal w0 v d) (ht : calm d) : Ret Try.prog 29 #[v, .int .i64 i] w0 fun r w' => r = .tuple #[.int .i64 (depthP d i).1, .int .i64 (depthP d i).2] ∧ Ext w0 w' := by
  obtain ⟨mv, rfl, hM⟩ := hd
  have hm1 := SliceOf.oneCell hM
  refine n_schema_Depth_sound (R := retR _) ?_; unfold n_schema_Depth
  simp (disch := first | assumption | (simp only [ONE]; done) | rfl | (simp only [SZ]; done) | omega | (simp only [SZ] at *; omega)) only [↓PR, QR, Int.reduceBEq, Int.reduceBNe, Int.reduceLT, Int.reduceLE, Int.reduceGT, Int.reduceGE, Int.reduceNeg]
  refine callK_ret (of_int_ret _ d i ⟨mv, rfl, MsgsOf.ext hM ee⟩ ht) ?_
  rintro _ w1 ⟨rfl, e1⟩
  simp (disch := first | assumption | (simp only [ONE]; done) | rfl | (simp only [SZ]; done) | omega | (simp only [SZ] at *; omega)) only [↓PR, QR, Int.reduceBEq, Int.reduceBNe, Int.reduceLT, Int.reduceLE, Int.reduceGT, Int.reduceGE, Int.reduceNeg]
  exact ⟨by first | trivial | rfl, ee⟩
end
end Go.Proofs.Ytiajhbbmgglmlaa
