/-
  phrasebooklaw05.SchemaEquals returns true for every two definitions, and leaves its arguments as they were; no condition is asked.
-/
import Derived.Test.YtiajhbbmgglmlaaFd6
set_option linter.all false
namespace Go.Proofs.Ytiajhbbmgglmlaa
open Sw
open Go.RowKit (intOf Below)
set_option maxRecDepth 100000
section
variable {w0 : World}
abbrev flawOf (r : Int × Int × Int) : Value := flawVal r.1 r.2.1 r.2.2
abbrev flawedB (d : DefD) : Bool := decide ((checkP d).2.2 ≠ 0)
theorem Check_ret (v : Value) (d : DefD) (hd : DefVal w0 v d) (ht : calm d) : Ret Try.prog 26 #[v] w0 fun r w' => r = .tuple #[flawOf (checkP d), .bool (flawedB d)] ∧ Ext w0 w' := by
  obtain ⟨mv, rfl, hM⟩ := hd
  have hm1 := SliceOf.oneCell hM
  refine n_schema_Check_sound (R := retR _) ?_; unfold n_schema_Check
  simp (disch := first | assumption | (simp only [ONE]; done) | rfl | (simp only [SZ]; done) | omega | (simp only [SZ] at *; omega)) only [↓PR, QR, Int.reduceBEq, Int.reduceBNe, Int.reduceLT, Int.reduceLE, Int.reduceGT, Int.reduceGE, Int.reduceNeg]
  refine callK_ret (examined_ret _ d ⟨mv, rfl, MsgsOf.ext hM ee⟩ ht) ?_
  rintro _ w1 ⟨e1, cb, rfl, _⟩
  have s1 := e1.size
  simp only [World.size_alloc] at s1
  have o2 := e1.obj (heap_new (w0.alloc (Obj.cells (defCells d mv).toArray 44)) #[.int .i64 0, .int .i64 0, .int .i64 0] 68)
  rw [World.size_alloc] at o2
  simp (disch := first | assumption | (simp only [ONE]; done) | rfl | (simp only [SZ]; done) | omega | (simp only [SZ] at *; omega)) only [↓PR, QR, Int.reduceBEq, Int.reduceBNe, Int.reduceLT, Int.reduceLE, Int.reduceGT, Int.reduceGE, Int.reduceNeg, ↓n_schema_Check_c1, (cells_of_heap o2).1, (cells_of_heap o2).2]
  exact ⟨by first | trivial | rfl, ee⟩
theorem Valid_ret' (v : Value) (d : DefD) (hd : DefVal w0 v d) (ht : calm d) : Ret Try.prog 27 #[v] w0 fun r w' => r = .bool (!flawedB d) ∧ Ext w0 w' := by
  obtain ⟨mv, rfl, hM⟩ := hd
  have hm1 := SliceOf.oneCell hM
  refine n_schema_Valid_sound (R := retR _) ?_; unfold n_schema_Valid
  simp (disch := first | assumption | (simp only [ONE]; done) | rfl | (simp only [SZ]; done) | omega | (simp only [SZ] at *; omega)) only [↓PR, QR, Int.reduceBEq, Int.reduceBNe, Int.reduceLT, Int.reduceLE, Int.reduceGT, Int.reduceGE, Int.reduceNeg]
  refine callK_ret (Check_ret _ d ⟨mv, rfl, MsgsOf.ext hM ee⟩ ht) ?_
  rintro _ w1 ⟨rfl, e1⟩
  simp (disch := first | assumption | (simp only [ONE]; done) | rfl | (simp only [SZ]; done) | omega | (simp only [SZ] at *; omega)) only [↓PR, QR, Int.reduceBEq, Int.reduceBNe, Int.reduceLT, Int.reduceLE, Int.reduceGT, Int.reduceGE, Int.reduceNeg, ↓n_schema_Valid_c1]
  exact ⟨by first | trivial | rfl, ee⟩
theorem Depth1_ret {cb : Nat} {deps : List (ByteArray × Int)} {strs : List (ByteArray × Bool)} (h : CkE w0 cb deps strs) : Ret Try.prog 51 #[.pointer (some ⟨cb, 0, none⟩)] w0 fun r w' => ∃ md, r = .map (some md) ∧ MapOf w' md (vI deps) ∧ Ext w0 w' := by
  obtain ⟨md, ms, dn, mv, ds, at_, fld, mn, fv, h1, h2, h3⟩ := h
  refine n_schema_Depth_1_sound (R := retR _) ?_; unfold n_schema_Depth_1
  simp (disch := first | assumption | (simp only [ONE]; done) | rfl | (simp only [SZ]; done) | omega | (simp only [SZ] at *; omega)) only [↓PR, QR, Int.reduceBEq, Int.reduceBNe, Int.reduceLT, Int.reduceLE, Int.reduceGT, Int.reduceGE, Int.reduceNeg, (cells_of_heap h1).1]
  exact ⟨md, rfl, h2, Ext.refl _⟩
def nameAt (d : DefD) (i : Int) : ByteArray := match d.msgs[i.toNat]? with
  | some m => m.name
  | none => ByteArray.empty
def depthP (d : DefD) (i : Int) : Int × Int := if (checkP d).2.2 ≠ 0 then (0, 2) else if i < 0 ∨ d.msgs.length ≤ i then (0, 3) else ((lastP (depsOf d.msgs) (nameAt d i)).getD 0, 0)
theorem of_int_ret (v : Value) (d : DefD) (i : Int) (hd : DefVal w0 v d) (ht : calm d) : Ret Try.prog 50 #[v, .int .i64 i, .func (.func 51) #[] #[]] w0 fun r w' => r = .tuple #[.int .i64 (depthP d i).1, .int .i64 (depthP d i).2] ∧ Ext w0 w' := by
  obtain ⟨mv, rfl, hM⟩ := hd
  have hm1 := SliceOf.oneCell hM
  refine n_schema_of_int_sound (R := retR _) ?_; unfold n_schema_of_int
  simp (disch := first | assumption | (simp only [ONE]; done) | rfl | (simp only [SZ]; done) | omega | (simp only [SZ] at *; omega)) only [↓PR, QR, Int.reduceBEq, Int.reduceBNe, Int.reduceLT, Int.reduceLE, Int.reduceGT, Int.reduceGE, Int.reduceNeg]
  refine callK_ret (examined_ret _ d ⟨mv, rfl, MsgsOf.ext hM ee⟩ ht) ?_
  rintro _ w1 ⟨e1, cb, rfl, hck⟩
  have s1 := e1.size
  simp only [World.size_alloc] at s1
  have o1 := e1.obj (heap_new w0 (defCells d mv).toArray 44)
  unfold n_schema_of_int_c3 depthP
  by_cases hf : (checkP d).2.2 ≠ 0
  · rw [if_pos hf, decide_eq_true hf]
    simp (disch := first | assumption | (simp only [ONE]; done) | rfl | (simp only [SZ]; done) | omega | (simp only [SZ] at *; omega)) only [↓PR, QR, Int.reduceBEq, Int.reduceBNe, Int.reduceLT, Int.reduceLE, Int.reduceGT, Int.reduceGE, Int.reduceNeg]
    exact ⟨by first | trivial | rfl, ee⟩
  · have h0 : (checkP d).2.2 = 0 := Decidable.not_not.1 hf
    rw [if_neg hf, decide_eq_false hf]
    replace hck := hck h0
    obtain ⟨A, c, rfl, hlc, hcm, hlm, hel⟩ := SliceOf.open hM
    have eA : Ext w0 w1 := ee
    have eB : Ext w1 (w1.alloc (Obj.cells #[.int .i64 (checkP d).1, .int .i64 (checkP d).2.1, .int .i64 (checkP d).2.2] 68)) := ee
    simp (disch := first | assumption | (simp only [ONE]; done) | rfl | (simp only [SZ]; done) | omega | (simp only [SZ] at *; omega)) only [↓PR, QR, Int.reduceBEq, Int.reduceBNe, Int.reduceLT, Int.reduceLE, Int.reduceGT, Int.reduceGE, Int.reduceNeg]
    have o1' := eB.obj o1
    have hck' := hck.go eB
    have eC := eA.trans eB
    generalize (w1.alloc (Obj.cells #[.int .i64 (checkP d).1, .int .i64 (checkP d).2.1, .int .i64 (checkP d).2.2] 68)) = w2 at o1' hck' eC ⊢
    unfold n_schema_of_int_c2
    by_cases hi : i < 0
    · rw [if_pos (.inl hi)]
      have d1 : decide (i < 0) = true := decide_eq_true hi
      simp (disch := first | assumption | (simp only [ONE]; done) | rfl | (simp only [SZ]; done) | omega | (simp only [SZ] at *; omega)) only [↓PR, QR, Int.reduceBEq, Int.reduceBNe, Int.reduceLT, Int.reduceLE, Int.reduceGT, Int.reduceGE, Int.reduceNeg, d1]
      exact ⟨by first | trivial | rfl, ee⟩
    · have d1 : decide (i < 0) = false := decide_eq_false hi
      by_cases hj : (d.msgs.length : Int) ≤ i
      · rw [if_pos (.inr hj)]
        have d2 : decide (i ≥ (d.msgs.length : Int)) = true := decide_eq_true hj
        simp (disch := first | assumption | (simp only [ONE]; done) | rfl | (simp only [SZ]; done) | omega | (simp only [SZ] at *; omega)) only [↓PR, QR, Int.reduceBEq, Int.reduceBNe, Int.reduceLT, Int.reduceLE, Int.reduceGT, Int.reduceGE, Int.reduceNeg, d1, d2, (cells_of_heap o1').1]
        exact ⟨by first | trivial | rfl, ee⟩
      · rw [if_neg (by omega)]
        have d2 : decide (i ≥ (d.msgs.length : Int)) = false := decide_eq_false hj
        simp (disch := first | assumption | (simp only [ONE]; done) | rfl | (simp only [SZ]; done) | omega | (simp only [SZ] at *; omega)) only [↓PR, QR, Int.reduceBEq, Int.reduceBNe, Int.reduceLT, Int.reduceLE, Int.reduceGT, Int.reduceGE, Int.reduceNeg, d1, d2, (cells_of_heap o1').1]
        obtain ⟨k, rfl⟩ : ∃ k : Nat, i = k := ⟨i.toNat, by omega⟩
        have hk : k < d.msgs.length := by omega
        obtain ⟨m, hm⟩ := getElem?_lt hk
        obtain ⟨b, o, cs, rfl, hl, hA, fv, rfl, hF⟩ := hel k m hm
        have hnm : nameAt d k = m.name := by unfold nameAt; rw [Int.toNat_natCast, hm]
        rw [hnm]
        refine drawK_intro ?_
        have eD : Ext w2 w2.drew := (Ext.refl w2).wdrew
        unfold n_schema_of_int_c1
        simp (disch := first | assumption | (simp only [ONE]; done) | rfl | (simp only [SZ]; done) | omega | (simp only [SZ] at *; omega)) only [↓PR, QR, Int.reduceBEq, Int.reduceBNe, Int.reduceLT, Int.reduceLE, Int.reduceGT, Int.reduceGE, Int.reduceNeg, (cells_of_heap o1').1, (hA.c2 eC).1]
        rw [callV_func c51]
        simp only [Array.empty_append, Array.append_empty]
        refine callK_ret (Depth1_ret (hck'.go eD)) ?_
        rintro _ w4 ⟨md, rfl, hmd, e4⟩
        refine narrowK_EC e4 ?_
        rw [qV_lookup1E Try.underlying98 Try.underlying9 ty3 hmd m.name]
        have hg : (lastOf (vI (depsOf d.msgs)) m.name).getD (.int .i64 0) = .int .i64 ((lastP (depsOf d.msgs) m.name).getD 0) := by rw [lastOf_vI]; cases lastP (depsOf d.msgs) m.name <;> rfl
        rw [hg]
        simp (disch := first | assumption | (simp only [ONE]; done) | rfl | (simp only [SZ]; done) | omega | (simp only [SZ] at *; omega)) only [↓PR, QR, Int.reduceBEq, Int.reduceBNe, Int.reduceLT, Int.reduceLE, Int.reduceGT, Int.reduceGE, Int.reduceNeg]
        exact ⟨by first | trivial | rfl, ee⟩
theorem Depth_ret (v : Value) (d : DefD) (i : Int) (hd : DefVal w0 v d) (ht : calm d) : Ret Try.prog 29 #[v, .int .i64 i] w0 fun r w' => r = .tuple #[.int .i64 (depthP d i).1, .int .i64 (depthP d i).2] ∧ Ext w0 w' := by
  obtain ⟨mv, rfl, hM⟩ := hd
  have hm1 := SliceOf.oneCell hM
  refine n_schema_Depth_sound (R := retR _) ?_; unfold n_schema_Depth
  simp (disch := first | assumption | (simp only [ONE]; done) | rfl | (simp only [SZ]; done) | omega | (simp only [SZ] at *; omega)) only [↓PR, QR, Int.reduceBEq, Int.reduceBNe, Int.reduceLT, Int.reduceLE, Int.reduceGT, Int.reduceGE, Int.reduceNeg]
  refine callK_ret (of_int_ret _ d i ⟨mv, rfl, MsgsOf.ext hM ee⟩ ht) ?_
  rintro _ w1 ⟨rfl, e1⟩
  simp (disch := first | assumption | (simp only [ONE]; done) | rfl | (simp only [SZ]; done) | omega | (simp only [SZ] at *; omega)) only [↓PR, QR, Int.reduceBEq, Int.reduceBNe, Int.reduceLT, Int.reduceLE, Int.reduceGT, Int.reduceGE, Int.reduceNeg]
  exact ⟨by first | trivial | rfl, ee⟩
end
end Go.Proofs.Ytiajhbbmgglmlaa
namespace Go.Proofs.Ytiajhbbmgglmlaa
open Sw
open Go.RowKit (intOf Below)
set_option maxRecDepth 100000
def twoF0 : FieldD := { name := ⟨#[110]⟩, kind := 1, bits := 8, little := false, loose := false, low := 0, high := 255, base := 0, terms := [], of := ByteArray.empty, tag := ByteArray.empty, fr := ByteArray.empty, cases := [], check := 0, key := 0 }
def twoF1 : FieldD := { name := ⟨#[98]⟩, kind := 4, bits := 0, little := false, loose := false, low := 0, high := 0, base := 0, terms := [⟨⟨#[110]⟩, 1⟩], of := ByteArray.empty, tag := ByteArray.empty, fr := ByteArray.empty, cases := [], check := 0, key := 0 }
def twoF2 : FieldD := { name := ⟨#[108]⟩, kind := 7, bits := 0, little := false, loose := false, low := 0, high := 0, base := 0, terms := [], of := ⟨#[109]⟩, tag := ByteArray.empty, fr := ByteArray.empty, cases := [], check := 0, key := 0 }
def twoD (start : ByteArray) (l : List FieldD) : DefD := ⟨⟨#[100]⟩, [⟨⟨#[109]⟩, l⟩], start⟩
theorem chk_a : checkP (twoD ⟨#[120]⟩ [twoF0, twoF1]) = (-1, -1, 11) := by decide
theorem chk_b : checkP (twoD ⟨#[109]⟩ [{ twoF0 with high := 256 }, twoF1]) = (0, 0, 7) := by decide
theorem chk_c : checkP (twoD ⟨#[109]⟩ [twoF0, { twoF1 with base := -1 }]) = (0, 1, 9) := by decide
theorem chk_e : checkP (twoD ⟨#[109]⟩ [twoF0, { twoF1 with name := ⟨#[110]⟩ }]) = (0, 1, 2) := by decide
theorem chk_f : checkP (twoD ⟨#[109]⟩ [twoF0, { twoF1 with bits := 8 }]) = (0, 1, 5) := by decide
theorem chk_g : checkP (twoD ⟨#[109]⟩ [twoF0, twoF1, twoF2]) = (0, 2, 8) := by decide
def TwoAt (w : World) (bt bf bm : Nat) (f0 f1 : FieldD) : Prop :=
  w.heap[bm]? = some (.cells #[.string ⟨#[109]⟩, .slice (some ⟨bf, 0, none⟩) 2 2] 50 (0, 0)) ∧
  w.heap[bf]? = some (.cells (fieldCells f0 (.slice none 0 0) (.slice none 0 0) ++ fieldCells f1 (.slice (some ⟨bt, 0, none⟩) 1 1) (.slice none 0 0)).toArray 28 (0, 0)) ∧
  w.heap[bt]? = some (.cells #[.string ⟨#[110]⟩, .int .i64 1] 77 (0, 0))
abbrev twoVal (start : ByteArray) (bm : Nat) : Value := .agg #[.string ⟨#[100]⟩, .slice (some ⟨bm, 0, none⟩) 1 1, .string start]
theorem TwoAt.go {w w' : World} {bt bf bm : Nat} {f0 f1 : FieldD} (h : TwoAt w bt bf bm f0 f1) (e : Ext w w') : TwoAt w' bt bf bm f0 f1 := ⟨e.obj h.1, e.obj h.2.1, e.obj h.2.2⟩
theorem TwoAt.same {w w' : World} {bt bf bm : Nat} {f0 f1 : FieldD} (h : TwoAt w bt bf bm f0 f1) (e : ∀ b, b = bt ∨ b = bf ∨ b = bm → w'.heap[b]? = w.heap[b]?) : TwoAt w' bt bf bm f0 f1 := ⟨(e bm (by simp)).trans h.1, (e bf (by simp)).trans h.2.1, (e bt (by simp)).trans h.2.2⟩
theorem TwoAt.other {w : World} {bt bf bm b o : Nat} {f0 f1 : FieldD} (h : TwoAt w bt bf bm f0 f1) (h1 : b ≠ bt) (h2 : b ≠ bf) (h3 : b ≠ bm) (v : Value) : TwoAt (w.setCell ⟨b, o, none⟩ v) bt bf bm f0 f1 :=
  h.same fun b' hb' => Only.setCell w b o v b' (by rcases hb' with rfl | rfl | rfl <;> exact fun e => by omega)
theorem TwoAt.turn {w : World} {bt bf bm o : Nat} {f0 f1 g0 g1 : FieldD} (h : TwoAt w bt bf bm f0 f1) (h1 : bf ≠ bt) (h2 : bf ≠ bm) (v : Value)
    (hv : (fieldCells f0 (.slice none 0 0) (.slice none 0 0) ++ fieldCells f1 (.slice (some ⟨bt, 0, none⟩) 1 1) (.slice none 0 0)).set o v = fieldCells g0 (.slice none 0 0) (.slice none 0 0) ++ fieldCells g1 (.slice (some ⟨bt, 0, none⟩) 1 1) (.slice none 0 0)) : TwoAt (w.setCell ⟨bf, o, none⟩ v) bt bf bm g0 g1 := by
  refine ⟨(Only.setCell w bf o v bm (fun e => h2 e.symm)).trans h.1, ?_, (Only.setCell w bf o v bt (fun e => h1 e.symm)).trans h.2.2⟩
  rw [heap_set h.2.1, List.setIfInBounds_toArray, hv]
theorem TwoAt.msgs {w : World} {bt bf bm : Nat} {f0 f1 : FieldD} (h : TwoAt w bt bf bm f0 f1) (h0 : f0.terms = [] ∧ f0.cases = []) (h1 : f1.terms = [⟨⟨#[110]⟩, 1⟩] ∧ f1.cases = []) : MsgsOf w (.slice (some ⟨bm, 0, none⟩) 1 1) [⟨⟨#[109]⟩, [f0, f1]⟩] := by
  obtain ⟨a1, a2, a3⟩ := h
  refine ⟨_, 1, rfl, by simp, by simp, fun _ => ⟨bm, 0, rfl, fun k x hx => ?_⟩⟩
  cases k with
  | succ k => simp at hx
  | zero =>
    simp at hx; subst hx
    refine ⟨[.string ⟨#[109]⟩, .slice (some ⟨bf, 0, none⟩) 2 2], rfl, fun j v hv => ?_, _, rfl, ?_⟩
    · rw [(cells_of_heap a1).1]; simpa using hv
    · refine ⟨_, 2, rfl, by simp, by simp, fun _ => ⟨bf, 0, rfl, fun k x hx => ?_⟩⟩
      cases k with
      | zero =>
        simp at hx; subst hx
        refine ⟨fieldCells f0 (.slice none 0 0) (.slice none 0 0), rfl, fun j v hv => ?_, _, _, rfl, ?_, ?_⟩
        · rw [(cells_of_heap a2).1]
          have : j < 15 := (List.getElem?_eq_some_iff.1 hv).1
          rw [List.getElem?_toArray, show 0 + 0 * 15 + j = j by omega, List.getElem?_append_left (by simpa using this)]; exact hv
        · rw [h0.1]; exact SliceOf.nil _ _ _
        · rw [h0.2]; exact SliceOf.nil _ _ _
      | succ k =>
        cases k with
        | succ k => simp at hx
        | zero =>
          simp at hx; subst hx
          refine ⟨fieldCells f1 (.slice (some ⟨bt, 0, none⟩) 1 1) (.slice none 0 0), rfl, fun j v hv => ?_, _, _, rfl, ?_, ?_⟩
          · rw [(cells_of_heap a2).1]
            rw [List.getElem?_toArray, show 0 + (0 + 1) * 15 + j = 15 + j by omega, List.getElem?_append_right (by simp), List.length_cons]; simpa using hv
          · rw [h1.1]
            refine ⟨_, 1, rfl, by decide, by decide, fun _ => ⟨bt, 0, rfl, fun k x hx => ?_⟩⟩
            cases k with
            | succ k => simp at hx
            | zero =>
              simp at hx; subst hx
              exact ⟨[.string ⟨#[110]⟩, .int .i64 1], rfl, fun j v hv => by rw [(cells_of_heap a3).1]; simpa using hv, rfl⟩
          · rw [h1.2]; exact SliceOf.nil _ _ _
theorem TwoAt.val {w : World} {bt bf bm : Nat} {f0 f1 : FieldD} (h : TwoAt w bt bf bm f0 f1) (h0 : f0.terms = [] ∧ f0.cases = []) (h1 : f1.terms = [⟨⟨#[110]⟩, 1⟩] ∧ f1.cases = []) (start : ByteArray) : DefVal w (twoVal start bm) (twoD start [f0, f1]) := ⟨_, rfl, h.msgs h0 h1⟩
theorem two_ret (w0 : World) : Ret Try.prog 32 #[] w0 fun r w' => ∃ bt bf bm, r = twoVal ⟨#[109]⟩ bm ∧ w0.heap.size ≤ bt ∧ bt < bf ∧ bf < bm ∧ bm < w'.heap.size ∧ TwoAt w' bt bf bm twoF0 twoF1 ∧ Ext w0 w' := by
  refine n_phrasebooklaw05_two_sound (R := retR _) ?_; unfold n_phrasebooklaw05_two
  simp (disch := first | assumption | (simp only [ONE]; done) | rfl | (simp only [SZ]; done) | omega | (simp only [SZ] at *; omega)) only [↓PR, QR, Int.reduceBEq, Int.reduceBNe, Int.reduceLT, Int.reduceLE, Int.reduceGT, Int.reduceGE, Int.reduceNeg]
  refine ⟨w0.heap.size + 1, w0.heap.size + 1 + 1, w0.heap.size + 1 + 1 + 1, rfl, by omega, by omega, by omega, by omega, ⟨?_, ?_, ?_⟩, ee⟩
  · simp (disch := first | assumption | (simp only [ONE]; done) | rfl | (simp only [SZ]; done) | omega | (simp only [SZ] at *; omega)) only [↓PR, QR, Int.reduceBEq, Int.reduceBNe, Int.reduceLT, Int.reduceLE, Int.reduceGT, Int.reduceGE, Int.reduceNeg]
  · simp (disch := first | assumption | (simp only [ONE]; done) | rfl | (simp only [SZ]; done) | omega | (simp only [SZ] at *; omega)) only [↓PR, QR, Int.reduceBEq, Int.reduceBNe, Int.reduceLT, Int.reduceLE, Int.reduceGT, Int.reduceGE, Int.reduceNeg]
    rfl
  · simp (disch := first | assumption | (simp only [ONE]; done) | rfl | (simp only [SZ]; done) | omega | (simp only [SZ] at *; omega)) only [↓PR, QR, Int.reduceBEq, Int.reduceBNe, Int.reduceLT, Int.reduceLE, Int.reduceGT, Int.reduceGE, Int.reduceNeg]
theorem flawed_ret {w0 : World} (v : Value) (d : DefD) (a f c : Int) (hd : DefVal w0 v d) (ht : calm d) : Ret Try.prog 33 #[v, .int .i64 a, .int .i64 f, .int .i64 c] w0 fun r w' => r = .bool (flawedB d && (decide ((checkP d).1 = a) && (decide ((checkP d).2.1 = f) && decide ((checkP d).2.2 = c)))) ∧ Ext w0 w' := by
  obtain ⟨mv, rfl, hM⟩ := hd
  have hm1 := SliceOf.oneCell hM
  refine n_phrasebooklaw05_flawed_sound (R := retR _) ?_; unfold n_phrasebooklaw05_flawed
  simp (disch := first | assumption | (simp only [ONE]; done) | rfl | (simp only [SZ]; done) | omega | (simp only [SZ] at *; omega)) only [↓PR, QR, Int.reduceBEq, Int.reduceBNe, Int.reduceLT, Int.reduceLE, Int.reduceGT, Int.reduceGE, Int.reduceNeg]
  refine callK_ret (Check_ret _ d ⟨mv, rfl, MsgsOf.ext hM ee⟩ ht) ?_
  rintro _ w1 ⟨rfl, e1⟩
  generalize flawedB d = b
  unfold n_phrasebooklaw05_flawed_c1
  cases b with
  | false =>
    simp (disch := first | assumption | (simp only [ONE]; done) | rfl | (simp only [SZ]; done) | omega | (simp only [SZ] at *; omega)) only [↓PR, QR, Int.reduceBEq, Int.reduceBNe, Int.reduceLT, Int.reduceLE, Int.reduceGT, Int.reduceGE, Int.reduceNeg]
    exact ⟨by first | trivial | rfl, ee⟩
  | true =>
    simp (disch := first | assumption | (simp only [ONE]; done) | rfl | (simp only [SZ]; done) | omega | (simp only [SZ] at *; omega)) only [↓PR, QR, Int.reduceBEq, Int.reduceBNe, Int.reduceLT, Int.reduceLE, Int.reduceGT, Int.reduceGE, Int.reduceNeg]
    exact ⟨by first | trivial | rfl, ee⟩
end Go.Proofs.Ytiajhbbmgglmlaa
namespace Go.Proofs.Ytiajhbbmgglmlaa
open Sw
open Go.RowKit (intOf Below)
set_option maxRecDepth 100000
theorem known_head (w0 : World) (R : Ending → World → Prop) (h : ∀ (w : World) (bt1 bf1 bm1 bt2 bf2 bm2 bt3 bf3 bm3 bt4 bf4 bm4 bt5 bf5 bm5 bt6 bf6 bm6 : Nat),
    w0.heap.size ≤ bt1 → bt1 < bf1 → bf1 < bm1 → bm1 < bt2 → bt2 < bf2 → bf2 < bm2 → bm2 < bt3 → bt3 < bf3 → bf3 < bm3 → bm3 < bt4 → bt4 < bf4 → bf4 < bm4 → bm4 < bt5 → bt5 < bf5 → bf5 < bm5 → bm5 < bt6 → bt6 < bf6 → bf6 < bm6 → bm6 < w.heap.size → Ext w0 w →
    TwoAt w bt1 bf1 bm1 twoF0 twoF1 → TwoAt w bt2 bf2 bm2 twoF0 twoF1 → TwoAt w bt3 bf3 bm3 twoF0 twoF1 → TwoAt w bt4 bf4 bm4 twoF0 twoF1 → TwoAt w bt5 bf5 bm5 twoF0 twoF1 → TwoAt w bt6 bf6 bm6 twoF0 twoF1 →
    n_phrasebooklaw05_known_c18 (twoVal ⟨#[109]⟩ bm1) (twoVal ⟨#[109]⟩ bm2) (twoVal ⟨#[109]⟩ bm3) (twoVal ⟨#[109]⟩ bm4) (twoVal ⟨#[109]⟩ bm5) (twoVal ⟨#[109]⟩ bm6) R w) : n_phrasebooklaw05_known R w0 := by
  unfold n_phrasebooklaw05_known
  refine callK_ret (two_ret _) ?_
  rintro _ w1 ⟨bt1, bf1, bm1, rfl, a1, b1, c1, d1, h1, e1⟩
  refine callK_ret (two_ret _) ?_
  rintro _ w2 ⟨bt2, bf2, bm2, rfl, a2, b2, c2, d2, h2, e2⟩
  refine callK_ret (two_ret _) ?_
  rintro _ w3 ⟨bt3, bf3, bm3, rfl, a3, b3, c3, d3, h3, e3⟩
  unfold n_phrasebooklaw05_known_c19
  refine callK_ret (two_ret _) ?_
  rintro _ w4 ⟨bt4, bf4, bm4, rfl, a4, b4, c4, d4, h4, e4⟩
  refine callK_ret (two_ret _) ?_
  rintro _ w5 ⟨bt5, bf5, bm5, rfl, a5, b5, c5, d5, h5, e5⟩
  refine callK_ret (two_ret _) ?_
  rintro _ w6 ⟨bt6, bf6, bm6, rfl, a6, b6, c6, d6, h6, e6⟩
  have e56 := e6
  have e46 := e5.trans e56
  have e36 := e4.trans e46
  have e26 := e3.trans e36
  have e16 := e2.trans e26
  exact h w6 bt1 bf1 bm1 bt2 bf2 bm2 bt3 bf3 bm3 bt4 bf4 bm4 bt5 bf5 bm5 bt6 bf6 bm6 a1 b1 c1 (by omega) b2 c2 (by omega) b3 c3 (by omega) b4 c4 (by omega) b5 c5 (by omega) b6 c6 d6 (e1.trans e16) (h1.go e16) (h2.go e26) (h3.go e36) (h4.go e46) (h5.go e56) h6
theorem idxM {w : World} {QP : List PanicEntry → World → Prop} {k : Value → World → Prop} (b : Nat) : opV Try.prog (Instr.indexAt 42 (.slice (some ⟨b, 0, none⟩) 1 1) (.int .i64 0)) QP w k = k (.pointer (some ⟨b, 0, none⟩)) w := op_indexN Try.underlying42 ty50 b 0 1 1 .i64 0 (by decide)
theorem idxF0 {w : World} {QP : List PanicEntry → World → Prop} {k : Value → World → Prop} (b : Nat) : opV Try.prog (Instr.indexAt 48 (.slice (some ⟨b, 0, none⟩) 2 2) (.int .i64 0)) QP w k = k (.pointer (some ⟨b, 0, none⟩)) w := op_indexN Try.underlying48 ty28 b 0 2 2 .i64 0 (by decide)
theorem idxF1 {w : World} {QP : List PanicEntry → World → Prop} {k : Value → World → Prop} (b : Nat) : opV Try.prog (Instr.indexAt 48 (.slice (some ⟨b, 0, none⟩) 2 2) (.int .i64 1)) QP w k = k (.pointer (some ⟨b, 15, none⟩)) w := by
  rw [op_indexAt Try.underlying48 ty28 b 0 2 2 .i64 1 (by decide) (by decide)]
  rfl
theorem qidxM {C : World → Prop} [ClassNe C] {k : Value → Prop} (b : Nat) : qV Try.prog C (Instr.indexAt 42 (.slice (some ⟨b, 0, none⟩) 1 1) (.int .i64 0)) k = k (.pointer (some ⟨b, 0, none⟩)) := qV_of fun _ _ _ => idxM b
def twoB : FieldD := { twoF0 with high := 256 }
def twoC : FieldD := { twoF1 with base := -1 }
def twoE : FieldD := { twoF1 with name := ⟨#[110]⟩ }
def twoG : FieldD := { twoF1 with bits := 8 }
def DefAt (w : World) (p : Nat) (start : ByteArray) (bm : Nat) : Prop := w.heap[p]? = some (.cells #[.string ⟨#[100]⟩, .slice (some ⟨bm, 0, none⟩) 1 1, .string start] 44 (0, 0))
theorem flawed_true {w0 : World} {v : Value} {d : DefD} {a f c : Int} (hd : DefVal w0 v d) (ht : calm d) (h : checkP d = (a, f, c)) (h0 : c ≠ 0) : Ret Try.prog 33 #[v, .int .i64 a, .int .i64 f, .int .i64 c] w0 fun r w' => r = .bool true ∧ Ext w0 w' := by
  have := flawed_ret v d a f c hd ht
  rw [show (flawedB d && (decide ((checkP d).1 = a) && (decide ((checkP d).2.1 = f) && decide ((checkP d).2.2 = c)))) = true by unfold flawedB; rw [h]; simp [h0]] at this
  exact this
def padF : FieldD := { name := ByteArray.empty, kind := 10, bits := 0, little := false, loose := false, low := 0, high := 0, base := 0, terms := [], of := ByteArray.empty, tag := ByteArray.empty, fr := ByteArray.empty, cases := [], check := 0, key := 0 }
theorem calm_two (s : ByteArray) (l : List FieldD) (hl : (allRefs l).length ≤ 1048576 ∧ ∀ f ∈ l, f.terms.length ≤ 1048576) : calm (twoD s l) := by
  intro m hm
  simp only [twoD, List.mem_singleton] at hm
  subst hm
  exact hl
set_option maxHeartbeats 8000000 in
theorem known_end {w0 X : World} {bm1 bm2 bm3 bm4 bm5 bm6 p1 p2 p3 p4 p5 p6 : Nat} (e : Ext w0 X) (v1 : DefVal X (twoVal ⟨#[120]⟩ bm1) (twoD ⟨#[120]⟩ [twoF0, twoF1])) (v2 : DefVal X (twoVal ⟨#[109]⟩ bm2) (twoD ⟨#[109]⟩ [twoB, twoF1])) (v3 : DefVal X (twoVal ⟨#[109]⟩ bm3) (twoD ⟨#[109]⟩ [twoF0, twoC])) (v4 : DefVal X (twoVal ⟨#[109]⟩ bm4) (twoD ⟨#[109]⟩ [twoF0, twoE])) (v5 : DefVal X (twoVal ⟨#[109]⟩ bm5) (twoD ⟨#[109]⟩ [twoF0, twoG])) (v6 : DefVal X (twoVal ⟨#[109]⟩ bm6) (twoD ⟨#[109]⟩ [twoF0, twoF1, twoF2]))
    (q1 : DefAt X p1 ⟨#[120]⟩ bm1) (q2 : DefAt X p2 ⟨#[109]⟩ bm2) (q3 : DefAt X p3 ⟨#[109]⟩ bm3) (q4 : DefAt X p4 ⟨#[109]⟩ bm4) (q5 : DefAt X p5 ⟨#[109]⟩ bm5) (q6 : DefAt X p6 ⟨#[109]⟩ bm6) :
    callK Try.prog 32 #[] (panK (retR fun r w' => r = .bool true ∧ Ext w0 w')) X (fun t60 w => callK Try.prog 27 #[t60] (panK (retR fun r w' => r = .bool true ∧ Ext w0 w')) w (fun t61 w => n_phrasebooklaw05_known_c15 (.pointer (some ⟨p1, 0, none⟩)) (.pointer (some ⟨p2, 0, none⟩)) (.pointer (some ⟨p3, 0, none⟩)) (.pointer (some ⟨p4, 0, none⟩)) (.pointer (some ⟨p5, 0, none⟩)) (.pointer (some ⟨p6, 0, none⟩)) t61 (retR fun r w' => r = .bool true ∧ Ext w0 w') w)) := by
  refine callK_ret (two_ret _) ?_
  rintro _ w1 ⟨bt, bf, bm, rfl, _, _, _, _, h, e1⟩
  refine callK_ret (Valid_ret' _ _ (h.val ⟨rfl, rfl⟩ ⟨rfl, rfl⟩ _) (calm_two _ _ (by decide))) ?_
  rintro _ w2 ⟨rfl, e2⟩
  have E2 := e1.trans e2
  rw [show (!flawedB (twoD ⟨#[109]⟩ [twoF0, twoF1])) = true by decide]
  unfold n_phrasebooklaw05_known_c15
  simp (disch := first | assumption | (simp only [ONE]; done) | rfl | (simp only [SZ]; done) | omega | (simp only [SZ] at *; omega)) only [↓PR, QR, Int.reduceBEq, Int.reduceBNe, Int.reduceLT, Int.reduceLE, Int.reduceGT, Int.reduceGE, Int.reduceNeg, (cells_of_heap (E2.obj q1)).1]
  refine callK_ret (flawed_true (v1.ext E2) (calm_two _ _ (by decide)) chk_a (by decide)) ?_
  rintro _ w3 ⟨rfl, e3⟩
  have E3 := E2.trans e3
  simp (disch := first | assumption | (simp only [ONE]; done) | rfl | (simp only [SZ]; done) | omega | (simp only [SZ] at *; omega)) only [↓PR, QR, Int.reduceBEq, Int.reduceBNe, Int.reduceLT, Int.reduceLE, Int.reduceGT, Int.reduceGE, Int.reduceNeg]
  unfold n_phrasebooklaw05_known_c14
  simp (disch := first | assumption | (simp only [ONE]; done) | rfl | (simp only [SZ]; done) | omega | (simp only [SZ] at *; omega)) only [↓PR, QR, Int.reduceBEq, Int.reduceBNe, Int.reduceLT, Int.reduceLE, Int.reduceGT, Int.reduceGE, Int.reduceNeg, (cells_of_heap (E3.obj q2)).1]
  refine callK_ret (flawed_true (v2.ext E3) (calm_two _ _ (by decide)) chk_b (by decide)) ?_
  rintro _ w4 ⟨rfl, e4⟩
  have E4 := E3.trans e4
  simp (disch := first | assumption | (simp only [ONE]; done) | rfl | (simp only [SZ]; done) | omega | (simp only [SZ] at *; omega)) only [↓PR, QR, Int.reduceBEq, Int.reduceBNe, Int.reduceLT, Int.reduceLE, Int.reduceGT, Int.reduceGE, Int.reduceNeg]
  unfold n_phrasebooklaw05_known_c13
  simp (disch := first | assumption | (simp only [ONE]; done) | rfl | (simp only [SZ]; done) | omega | (simp only [SZ] at *; omega)) only [↓PR, QR, Int.reduceBEq, Int.reduceBNe, Int.reduceLT, Int.reduceLE, Int.reduceGT, Int.reduceGE, Int.reduceNeg, (cells_of_heap (E4.obj q3)).1]
  refine callK_ret (flawed_true (v3.ext E4) (calm_two _ _ (by decide)) chk_c (by decide)) ?_
  rintro _ w5 ⟨rfl, e5⟩
  have E5 := E4.trans e5
  simp (disch := first | assumption | (simp only [ONE]; done) | rfl | (simp only [SZ]; done) | omega | (simp only [SZ] at *; omega)) only [↓PR, QR, Int.reduceBEq, Int.reduceBNe, Int.reduceLT, Int.reduceLE, Int.reduceGT, Int.reduceGE, Int.reduceNeg]
  unfold n_phrasebooklaw05_known_c12
  simp (disch := first | assumption | (simp only [ONE]; done) | rfl | (simp only [SZ]; done) | omega | (simp only [SZ] at *; omega)) only [↓PR, QR, Int.reduceBEq, Int.reduceBNe, Int.reduceLT, Int.reduceLE, Int.reduceGT, Int.reduceGE, Int.reduceNeg, (cells_of_heap (E5.obj q4)).1]
  refine callK_ret (flawed_true (v4.ext E5) (calm_two _ _ (by decide)) chk_e (by decide)) ?_
  rintro _ w6 ⟨rfl, e6⟩
  have E6 := E5.trans e6
  simp (disch := first | assumption | (simp only [ONE]; done) | rfl | (simp only [SZ]; done) | omega | (simp only [SZ] at *; omega)) only [↓PR, QR, Int.reduceBEq, Int.reduceBNe, Int.reduceLT, Int.reduceLE, Int.reduceGT, Int.reduceGE, Int.reduceNeg]
  unfold n_phrasebooklaw05_known_c11
  simp (disch := first | assumption | (simp only [ONE]; done) | rfl | (simp only [SZ]; done) | omega | (simp only [SZ] at *; omega)) only [↓PR, QR, Int.reduceBEq, Int.reduceBNe, Int.reduceLT, Int.reduceLE, Int.reduceGT, Int.reduceGE, Int.reduceNeg, (cells_of_heap (E6.obj q5)).1]
  refine callK_ret (flawed_true (v5.ext E6) (calm_two _ _ (by decide)) chk_f (by decide)) ?_
  rintro _ w7 ⟨rfl, e7⟩
  have E7 := E6.trans e7
  simp (disch := first | assumption | (simp only [ONE]; done) | rfl | (simp only [SZ]; done) | omega | (simp only [SZ] at *; omega)) only [↓PR, QR, Int.reduceBEq, Int.reduceBNe, Int.reduceLT, Int.reduceLE, Int.reduceGT, Int.reduceGE, Int.reduceNeg]
  unfold n_phrasebooklaw05_known_c10
  simp (disch := first | assumption | (simp only [ONE]; done) | rfl | (simp only [SZ]; done) | omega | (simp only [SZ] at *; omega)) only [↓PR, QR, Int.reduceBEq, Int.reduceBNe, Int.reduceLT, Int.reduceLE, Int.reduceGT, Int.reduceGE, Int.reduceNeg, (cells_of_heap (E7.obj q6)).1]
  refine callK_ret (flawed_true (v6.ext E7) (calm_two _ _ (by decide)) chk_g (by decide)) ?_
  rintro _ w8 ⟨rfl, e8⟩
  have E8 := E7.trans e8
  simp (disch := first | assumption | (simp only [ONE]; done) | rfl | (simp only [SZ]; done) | omega | (simp only [SZ] at *; omega)) only [↓PR, QR, Int.reduceBEq, Int.reduceBNe, Int.reduceLT, Int.reduceLE, Int.reduceGT, Int.reduceGE, Int.reduceNeg]
  unfold n_phrasebooklaw05_known_c9
  simp (disch := first | assumption | (simp only [ONE]; done) | rfl | (simp only [SZ]; done) | omega | (simp only [SZ] at *; omega)) only [↓PR, QR, Int.reduceBEq, Int.reduceBNe, Int.reduceLT, Int.reduceLE, Int.reduceGT, Int.reduceGE, Int.reduceNeg]
  refine callK_ret (two_ret _) ?_
  rintro _ w9 ⟨bt, bf, bm, rfl, _, _, _, _, h, e9⟩
  refine callK_ret (Depth_ret _ _ 0 (h.val ⟨rfl, rfl⟩ ⟨rfl, rfl⟩ _) (calm_two _ _ (by decide))) ?_
  rintro _ w10 ⟨rfl, e10⟩
  rw [show depthP (twoD ⟨#[109]⟩ [twoF0, twoF1]) 0 = (1, 0) by decide]
  unfold n_phrasebooklaw05_known_c8
  simp (disch := first | assumption | (simp only [ONE]; done) | rfl | (simp only [SZ]; done) | omega | (simp only [SZ] at *; omega)) only [↓PR, QR, Int.reduceBEq, Int.reduceBNe, Int.reduceLT, Int.reduceLE, Int.reduceGT, Int.reduceGE, Int.reduceNeg]
  refine callK_ret (two_ret _) ?_
  rintro _ w11 ⟨bt, bf, bm, rfl, _, _, _, _, h, e11⟩
  refine callK_ret (Depth_ret _ _ 1 (h.val ⟨rfl, rfl⟩ ⟨rfl, rfl⟩ _) (calm_two _ _ (by decide))) ?_
  rintro _ w12 ⟨rfl, e12⟩
  rw [show depthP (twoD ⟨#[109]⟩ [twoF0, twoF1]) 1 = (0, 3) by decide]
  unfold n_phrasebooklaw05_known_c7
  simp (disch := first | assumption | (simp only [ONE]; done) | rfl | (simp only [SZ]; done) | omega | (simp only [SZ] at *; omega)) only [↓PR, QR, Int.reduceBEq, Int.reduceBNe, Int.reduceLT, Int.reduceLE, Int.reduceGT, Int.reduceGE, Int.reduceNeg]
  refine callK_ret (two_ret _) ?_
  rintro _ w13 ⟨bt, bf, bm, rfl, _, _, _, _, h, e13⟩
  unfold n_phrasebooklaw05_known_c6
  simp (disch := first | assumption | (simp only [ONE]; done) | rfl | (simp only [SZ]; done) | omega | (simp only [SZ] at *; omega)) only [↓PR, QR, Int.reduceBEq, Int.reduceBNe, Int.reduceLT, Int.reduceLE, Int.reduceGT, Int.reduceGE, Int.reduceNeg, ↓idxM, (cells_of_heap h.1).1]
  obtain ⟨mv, hmv, hM⟩ := h.val ⟨rfl, rfl⟩ ⟨rfl, rfl⟩ ⟨#[109]⟩
  have hm1 : MsgVal w13 (.agg #[.string ⟨#[109]⟩, .slice (some ⟨bf, 0, none⟩) 2 2]) ⟨⟨#[109]⟩, [twoF0, twoF1]⟩ := by
    obtain ⟨A, c, hA, _, _, _, hel⟩ := SliceOf.open (h.msgs ⟨rfl, rfl⟩ ⟨rfl, rfl⟩)
    injection hA with hA
    obtain ⟨b, o, cs, h1, h2, h3, fv, rfl, h5⟩ := hel 0 _ rfl
    rw [← hA] at h1
    injection h1 with h1
    injection h1 with h6 h7
    subst h6 h7
    have h8 := h3 1 _ rfl
    rw [(cells_of_heap h.1).1] at h8
    simp at h8
    subst h8
    exact ⟨_, rfl, h5⟩
  refine callK_ret (Ranges_ret _ _ _ hm1) ?_
  rintro _ w14 ⟨md, rfl, _, hmd, e14⟩
  have hnp : numPairs [twoF0, twoF1] = [(⟨#[110]⟩, rangeVal 0 255)] := by rw [numPairs_RP]; rfl
  rw [show (⟨⟨#[109]⟩, [twoF0, twoF1]⟩ : MsgD).fields = [twoF0, twoF1] from rfl, hnp] at hmd
  have hE14 : Ext w0 w14 := ee
  unfold n_phrasebooklaw05_known_c5
  simp (disch := first | assumption | (simp only [ONE]; done) | rfl | (simp only [SZ]; done) | omega | (simp only [SZ] at *; omega)) only [↓PR, QR, Int.reduceBEq, Int.reduceBNe, Int.reduceLT, Int.reduceLE, Int.reduceGT, Int.reduceGE, Int.reduceNeg, ↓n_phrasebooklaw05_known_c1, ↓n_phrasebooklaw05_known_c2, ↓n_phrasebooklaw05_known_c3, ↓n_phrasebooklaw05_known_c4, ↓n_phrasebooklaw05_known_c5, ↓n_phrasebooklaw05_known_c6, ↓n_phrasebooklaw05_known_c7, ↓n_phrasebooklaw05_known_c8, ↓n_phrasebooklaw05_known_c9, ↓n_phrasebooklaw05_known_c10, ↓n_phrasebooklaw05_known_c11, ↓n_phrasebooklaw05_known_c12, ↓n_phrasebooklaw05_known_c13, ↓n_phrasebooklaw05_known_c14, ↓n_phrasebooklaw05_known_c15, ↓n_phrasebooklaw05_known_c16, ↓n_phrasebooklaw05_known_c17, ↓n_phrasebooklaw05_known_c18, ↓n_phrasebooklaw05_known_c19]
  rw [op_lenO Try.underlying53 hmd]
  rw [show (bld [((⟨#[110]⟩ : ByteArray), rangeVal 0 255)]).1.length = 1 by decide]
  simp (disch := first | assumption | (simp only [ONE]; done) | rfl | (simp only [SZ]; done) | omega | (simp only [SZ] at *; omega)) only [↓PR, QR, Int.reduceBEq, Int.reduceBNe, Int.reduceLT, Int.reduceLE, Int.reduceGT, Int.reduceGE, Int.reduceNeg, ↓n_phrasebooklaw05_known_c1, ↓n_phrasebooklaw05_known_c2, ↓n_phrasebooklaw05_known_c3, ↓n_phrasebooklaw05_known_c4, ↓n_phrasebooklaw05_known_c5, ↓n_phrasebooklaw05_known_c6, ↓n_phrasebooklaw05_known_c7, ↓n_phrasebooklaw05_known_c8, ↓n_phrasebooklaw05_known_c9, ↓n_phrasebooklaw05_known_c10, ↓n_phrasebooklaw05_known_c11, ↓n_phrasebooklaw05_known_c12, ↓n_phrasebooklaw05_known_c13, ↓n_phrasebooklaw05_known_c14, ↓n_phrasebooklaw05_known_c15, ↓n_phrasebooklaw05_known_c16, ↓n_phrasebooklaw05_known_c17, ↓n_phrasebooklaw05_known_c18, ↓n_phrasebooklaw05_known_c19]
  rw [op_lookup1O Try.underlying53 Try.underlying9 ty31 hmd ⟨#[110]⟩]
  rw [show (lastOf [((⟨#[110]⟩ : ByteArray), rangeVal 0 255)] ⟨#[110]⟩) = some (rangeVal 0 255) by rw [show [((⟨#[110]⟩ : ByteArray), rangeVal 0 255)] = RP [(⟨#[110]⟩, 0, 255)] from rfl, lastOf_RP]; rfl]
  simp (disch := first | assumption | (simp only [ONE]; done) | rfl | (simp only [SZ]; done) | omega | (simp only [SZ] at *; omega)) only [↓PR, QR, Int.reduceBEq, Int.reduceBNe, Int.reduceLT, Int.reduceLE, Int.reduceGT, Int.reduceGE, Int.reduceNeg, ↓n_phrasebooklaw05_known_c1, ↓n_phrasebooklaw05_known_c2, ↓n_phrasebooklaw05_known_c3, ↓n_phrasebooklaw05_known_c4, ↓n_phrasebooklaw05_known_c5, ↓n_phrasebooklaw05_known_c6, ↓n_phrasebooklaw05_known_c7, ↓n_phrasebooklaw05_known_c8, ↓n_phrasebooklaw05_known_c9, ↓n_phrasebooklaw05_known_c10, ↓n_phrasebooklaw05_known_c11, ↓n_phrasebooklaw05_known_c12, ↓n_phrasebooklaw05_known_c13, ↓n_phrasebooklaw05_known_c14, ↓n_phrasebooklaw05_known_c15, ↓n_phrasebooklaw05_known_c16, ↓n_phrasebooklaw05_known_c17, ↓n_phrasebooklaw05_known_c18, ↓n_phrasebooklaw05_known_c19]
  rw [show ((((1 : Nat) : Int)) == 1) = true from rfl]
  simp (disch := first | assumption | (simp only [ONE]; done) | rfl | (simp only [SZ]; done) | omega | (simp only [SZ] at *; omega)) only [↓PR, QR, Int.reduceBEq, Int.reduceBNe, Int.reduceLT, Int.reduceLE, Int.reduceGT, Int.reduceGE, Int.reduceNeg]
  refine callK_ret (HasValue_ret _ _ padF ⟨_, _, rfl, SliceOf.nil _ _ _, SliceOf.nil _ _ _⟩) ?_
  rintro _ w15 ⟨rfl, e15⟩
  rw [show hasValueB padF = false from rfl]
  simp (disch := first | assumption | (simp only [ONE]; done) | rfl | (simp only [SZ]; done) | omega | (simp only [SZ] at *; omega)) only [↓PR, QR, Int.reduceBEq, Int.reduceBNe, Int.reduceLT, Int.reduceLE, Int.reduceGT, Int.reduceGE, Int.reduceNeg]
  exact ⟨trivial, hE14.trans e15⟩
set_option maxHeartbeats 8000000 in
theorem known_mid {w0 W : World} {bt1 bf1 bm1 bt2 bf2 bm2 bt3 bf3 bm3 bt4 bf4 bm4 bt5 bf5 bm5 bt6 bf6 bm6 p1 p2 p3 p4 p5 p6 : Nat} (e : Ext w0 W) (h1 : TwoAt W bt1 bf1 bm1 twoF0 twoF1) (h2 : TwoAt W bt2 bf2 bm2 twoB twoF1) (h3 : TwoAt W bt3 bf3 bm3 twoF0 twoC) (h4 : TwoAt W bt4 bf4 bm4 twoF0 twoE) (h5 : TwoAt W bt5 bf5 bm5 twoF0 twoG) (h6 : TwoAt W bt6 bf6 bm6 twoF0 twoF1)
    (q1 : DefAt W p1 ⟨#[120]⟩ bm1) (q2 : DefAt W p2 ⟨#[109]⟩ bm2) (q3 : DefAt W p3 ⟨#[109]⟩ bm3) (q4 : DefAt W p4 ⟨#[109]⟩ bm4) (q5 : DefAt W p5 ⟨#[109]⟩ bm5) (q6 : DefAt W p6 ⟨#[109]⟩ bm6)
    (l1 : w0.heap.size ≤ bt1) (l2 : bt1 < bf1) (l3 : bf1 < bm1) (l4 : bm1 < bt2) (l5 : bt2 < bf2) (l6 : bf2 < bm2) (l7 : bm2 < bt3) (l8 : bt3 < bf3) (l9 : bf3 < bm3) (l10 : bm3 < bt4) (l11 : bt4 < bf4) (l12 : bf4 < bm4) (l13 : bm4 < bt5) (l14 : bt5 < bf5) (l15 : bf5 < bm5) (l16 : bm5 < bt6) (l17 : bt6 < bf6) (l18 : bf6 < bm6) (l19 : bm6 < p1) (l20 : p1 < p2) (l21 : p2 < p3) (l22 : p3 < p4) (l23 : p4 < p5) (l24 : p5 < p6) (l25 : p6 < W.heap.size) :
    drawK W fun C1 w => n_phrasebooklaw05_known_c17 (.pointer (some ⟨p1, 0, none⟩)) (.pointer (some ⟨p2, 0, none⟩)) (.pointer (some ⟨p3, 0, none⟩)) (.pointer (some ⟨p4, 0, none⟩)) (.pointer (some ⟨p5, 0, none⟩)) (.pointer (some ⟨p6, 0, none⟩)) C1 (retR fun r w' => r = .bool true ∧ Ext w0 w') w := by
  refine drawK_introB (w1 := W) bf6 bf6 (fun _ _ _ _ => rfl) ?_
  have eD : Ext W W.drew := (Ext.refl W).wdrew
  unfold n_phrasebooklaw05_known_c17
  simp (disch := first | assumption | (simp only [ONE]; done) | rfl | (simp only [SZ]; done) | omega | (simp only [SZ] at *; omega)) only [↓PR, QR, Int.reduceBEq, Int.reduceBNe, Int.reduceLT, Int.reduceLE, Int.reduceGT, Int.reduceGE, Int.reduceNeg, (cells_of_heap q6).1, (cells_of_heap h6.1).1, ↓qidxM]
  have eB : Ext W (W.drew.alloc (Obj.cells (fieldCells twoF2 (.slice none 0 0) (.slice none 0 0)).toArray 28)) := eD.alloc _
  have o8 := heap_new W.drew (fieldCells twoF2 (.slice none 0 0) (.slice none 0 0)).toArray 28
  refine ⟨fun b hb hn _ => eB.block b hb, ?_⟩
  show opV _ (Builtin.append_ #[48, 48] 48 #[.slice (some ⟨bf6, 0, none⟩) 2 2, .slice (some ⟨W.drew.heap.size, 0, none⟩) 1 1]) _ (W.drew.alloc (Obj.cells (fieldCells twoF2 (.slice none 0 0) (.slice none 0 0)).toArray 28)) _
  have k6 := h6.go eB
  have hsW : (W.drew.alloc (Obj.cells (fieldCells twoF2 (.slice none 0 0) (.slice none 0 0)).toArray 28)).heap.size = W.heap.size + 1 := by simp only [World.size_alloc, World.size_drew]
  generalize (W.drew.alloc (Obj.cells (fieldCells twoF2 (.slice none 0 0) (.slice none 0 0)).toArray 28)) = W2 at eB o8 k6 hsW ⊢
  rw [World.size_drew] at o8 ⊢
  let c0 : Cs 15 := ⟨fieldCells twoF0 (.slice none 0 0) (.slice none 0 0), rfl⟩
  let c1 : Cs 15 := ⟨fieldCells twoF1 (.slice (some ⟨bt6, 0, none⟩) 1 1) (.slice none 0 0), rfl⟩
  let c2 : Cs 15 := ⟨fieldCells twoF2 (.slice none 0 0) (.slice none 0 0), rfl⟩
  have hown : OwnE W2 bf6 28 15 Subtype.val (.slice (some ⟨bf6, 0, none⟩) 2 2) [c0, c1] := ⟨rfl, .inr ⟨bf6, 2, _, rfl, Nat.le_refl _, k6.2.1, Nat.le_refl _, by decide, rfl, rfl⟩⟩
  refine op_appendE (l' := [c2]) Try.underlying48 ty28 rfl (by decide) (fun x => x.2) ?_ hown ?_ (by omega) (Nat.le_trans (Nat.mul_le_mul (Nat.le_refl 3) by28) (by decide)) (show 2 + 1 ≤ 140737488355328 by decide) ?_
  · intro x hx u hu
    simp only [List.mem_singleton] at hx
    subst hx
    simp only [c2, fieldCells, List.mem_cons, List.not_mem_nil, or_false] at hu
    rcases hu with rfl | rfl | rfl | rfl | rfl | rfl | rfl | rfl | rfl | rfl | rfl | rfl | rfl | rfl | rfl <;> rfl
  · intro j x hx
    cases j with
    | succ j => simp at hx
    | zero =>
      simp at hx; subst hx
      intro j v hv
      rw [(cells_of_heap o8).1]
      simpa using hv
  intro v' w' hO hg
  refine ⟨fun b hb hn _ => ?_, ?_⟩
  · rw [hg.block b (by omega) (by intro e; injection e with e; exact hn e)]; exact eB.block b hb
  have keep : ∀ b, b < W.heap.size → b ≠ bf6 → w'.heap[b]? = W.heap[b]? := fun b hb hn => by rw [hg.block b (by omega) (by intro e; injection e with e; exact hn e)]; exact eB.block b hb
  have eC : Ext w0 w' := (e.trans eB).grown hg (fun k hk => by simp only [Value.ownBlock, Option.some.injEq] at hk; omega)
  have g1 := h1.same (w' := w') fun b hb => keep b (by omega) (by omega)
  have g2 := h2.same (w' := w') fun b hb => keep b (by omega) (by omega)
  have g3 := h3.same (w' := w') fun b hb => keep b (by omega) (by omega)
  have g4 := h4.same (w' := w') fun b hb => keep b (by omega) (by omega)
  have g5 := h5.same (w' := w') fun b hb => keep b (by omega) (by omega)
  have gm6 := (keep bm6 (by omega) (by omega)).trans h6.1
  have gt6 := (keep bt6 (by omega) (by omega)).trans h6.2.2
  have r1 : DefAt w' p1 _ _ := (keep p1 (by omega) (by omega)).trans q1
  have r2 : DefAt w' p2 _ _ := (keep p2 (by omega) (by omega)).trans q2
  have r3 : DefAt w' p3 _ _ := (keep p3 (by omega) (by omega)).trans q3
  have r4 : DefAt w' p4 _ _ := (keep p4 (by omega) (by omega)).trans q4
  have r5 : DefAt w' p5 _ _ := (keep p5 (by omega) (by omega)).trans q5
  have r6 : DefAt w' p6 _ _ := (keep p6 (by omega) (by omega)).trans q6
  clear keep h1 h2 h3 h4 h5 h6 q1 q2 q3 q4 q5 q6 hown k6 hg o8 eB eD hsW
  have hv1 := (hO.slice (E := fun _ cs (x : Cs 15) => cs = x.1) (fun x => x.2) (fun _ _ => rfl)).oneCell
  unfold n_phrasebooklaw05_known_c16
  simp (disch := first | assumption | (simp only [ONE]; done) | rfl | (simp only [SZ]; done) | omega | (simp only [SZ] at *; omega)) only [↓PR, QR, Int.reduceBEq, Int.reduceBNe, Int.reduceLT, Int.reduceLE, Int.reduceGT, Int.reduceGE, Int.reduceNeg, ↓qidxM, (cells_of_heap gm6).1, (cells_of_heap gm6).2]
  have m6 := heap_set (o := 1) gm6 v'
  have t6 := (Only.setCell w' bm6 1 v' bt6 (by omega)).trans gt6
  have hO2 := hO.range.only (Only.setCell w' bm6 1 v') (.inr (.inr ⟨_, ⟨_, _, gm6⟩, (by decide : (50 : TypeId) ≠ 28)⟩))
  have d1 := g1.other (o := 1) (show bm6 ≠ bt1 by omega) (by omega) (by omega) v'
  have d2 := g2.other (o := 1) (show bm6 ≠ bt2 by omega) (by omega) (by omega) v'
  have d3 := g3.other (o := 1) (show bm6 ≠ bt3 by omega) (by omega) (by omega) v'
  have d4 := g4.other (o := 1) (show bm6 ≠ bt4 by omega) (by omega) (by omega) v'
  have d5 := g5.other (o := 1) (show bm6 ≠ bt5 by omega) (by omega) (by omega) v'
  have s1 : DefAt (w'.setCell ⟨bm6, 1, none⟩ v') p1 _ _ := (Only.setCell w' bm6 1 v' p1 (by omega)).trans r1
  have s2 : DefAt (w'.setCell ⟨bm6, 1, none⟩ v') p2 _ _ := (Only.setCell w' bm6 1 v' p2 (by omega)).trans r2
  have s3 : DefAt (w'.setCell ⟨bm6, 1, none⟩ v') p3 _ _ := (Only.setCell w' bm6 1 v' p3 (by omega)).trans r3
  have s4 : DefAt (w'.setCell ⟨bm6, 1, none⟩ v') p4 _ _ := (Only.setCell w' bm6 1 v' p4 (by omega)).trans r4
  have s5 : DefAt (w'.setCell ⟨bm6, 1, none⟩ v') p5 _ _ := (Only.setCell w' bm6 1 v' p5 (by omega)).trans r5
  have s6 : DefAt (w'.setCell ⟨bm6, 1, none⟩ v') p6 _ _ := (Only.setCell w' bm6 1 v' p6 (by omega)).trans r6
  have e3 : Ext w0 (w'.setCell ⟨bm6, 1, none⟩ v') := eC.setCell (show w0.heap.size ≤ bm6 by omega) _
  simp only [List.setIfInBounds_toArray, List.set_cons_zero, List.set_cons_succ] at m6
  generalize (w'.setCell ⟨bm6, 1, none⟩ v') = X at m6 t6 hO2 d1 d2 d3 d4 d5 s1 s2 s3 s4 s5 s6 e3 ⊢
  refine turnK_intro ?_
  have hF6 : FieldsOf X v' [twoF0, twoF1, twoF2] := hO2.1.reads ⟨rfl, fun k x cs hx hcs => by
    rcases k with _ | _ | _ | k
    · simp at hx hcs; subst hx hcs; exact ⟨_, _, rfl, SliceOf.nil _ _ _, SliceOf.nil _ _ _⟩
    · simp at hx hcs; subst hx hcs
      refine ⟨_, _, rfl, ⟨_, 1, rfl, by decide, by decide, fun _ => ⟨bt6, 0, rfl, fun k x hx => ?_⟩⟩, SliceOf.nil _ _ _⟩
      cases k with
      | succ k => simp [twoF1] at hx
      | zero =>
        simp [twoF1] at hx; subst hx
        exact ⟨[.string ⟨#[110]⟩, .int .i64 1], rfl, fun j v hv => by rw [(cells_of_heap t6).1]; simpa using hv, rfl⟩
    · simp at hx hcs; subst hx hcs; exact ⟨_, _, rfl, SliceOf.nil _ _ _, SliceOf.nil _ _ _⟩
    · simp at hx⟩
  have V6 : DefVal X (twoVal ⟨#[109]⟩ bm6) (twoD ⟨#[109]⟩ [twoF0, twoF1, twoF2]) := ⟨_, rfl, _, 1, rfl, by decide, by decide, fun _ => ⟨bm6, 0, rfl, fun k x hx => by
    cases k with
    | succ k => simp [twoD] at hx
    | zero =>
      simp [twoD] at hx; subst hx
      exact ⟨[.string ⟨#[109]⟩, v'], rfl, fun j v hv => by rw [(cells_of_heap m6).1]; simpa using hv, _, rfl, hF6⟩⟩⟩
  exact known_end e3 (d1.val ⟨rfl, rfl⟩ ⟨rfl, rfl⟩ _) (d2.val ⟨rfl, rfl⟩ ⟨rfl, rfl⟩ _) (d3.val ⟨rfl, rfl⟩ ⟨rfl, rfl⟩ _) (d4.val ⟨rfl, rfl⟩ ⟨rfl, rfl⟩ _) (d5.val ⟨rfl, rfl⟩ ⟨rfl, rfl⟩ _) V6 s1 s2 s3 s4 s5 s6
set_option maxHeartbeats 8000000 in
theorem known_ret (w0 : World) : Ret Try.prog 8 #[] w0 fun r w' => r = .bool true ∧ Ext w0 w' := by
  refine n_phrasebooklaw05_known_sound (R := retR _) ?_
  refine known_head w0 _ ?_
  intro w bt1 bf1 bm1 bt2 bf2 bm2 bt3 bf3 bm3 bt4 bf4 bm4 bt5 bf5 bm5 bt6 bf6 bm6 l1 l2 l3 l4 l5 l6 l7 l8 l9 l10 l11 l12 l13 l14 l15 l16 l17 l18 l19 e0 h1 h2 h3 h4 h5 h6
  have y2 : w.cell? ⟨bf2, 6, none⟩ = some (.int .i64 255) := by rw [(cells_of_heap h2.2.1).1]; rfl
  have y3 : w.cell? ⟨bf3, 22, none⟩ = some (.int .i64 0) := by rw [(cells_of_heap h3.2.1).1]; rfl
  have y4 : w.cell? ⟨bf4, 15, none⟩ = some (.string ⟨#[98]⟩) := by rw [(cells_of_heap h4.2.1).1]; rfl
  have y5 : w.cell? ⟨bf5, 17, none⟩ = some (.int .i64 0) := by rw [(cells_of_heap h5.2.1).1]; rfl
  unfold n_phrasebooklaw05_known_c18
  simp (disch := first | assumption | (simp only [ONE]; done) | rfl | (simp only [SZ]; done) | omega | (simp only [SZ] at *; omega)) only [↓PR, QR, Int.reduceBEq, Int.reduceBNe, Int.reduceLT, Int.reduceLE, Int.reduceGT, Int.reduceGE, Int.reduceNeg, ↓idxM, ↓idxF0, ↓idxF1, (cells_of_heap h2.1).1, y2, (cells_of_heap h2.2.1).2, (cells_of_heap h3.1).1, y3, (cells_of_heap h3.2.1).2, (cells_of_heap h4.1).1, y4, (cells_of_heap h4.2.1).2, (cells_of_heap h5.1).1, y5, (cells_of_heap h5.2.1).2]
  simp only [World.size_alloc]
  have eS : Ext w0 ((((w.setCell ⟨bf2, 6, none⟩ (.int .i64 256)).setCell ⟨bf3, 15 + 7, none⟩ (.int .i64 (-1))).setCell ⟨bf4, 15, none⟩ (.string ⟨#[110]⟩)).setCell ⟨bf5, 15 + 2, none⟩ (.int .i64 8)) :=
    (((e0.setCell (show w0.heap.size ≤ bf2 by omega) _).setCell (show w0.heap.size ≤ bf3 by omega) _).setCell (show w0.heap.size ≤ bf4 by omega) _).setCell (show w0.heap.size ≤ bf5 by omega) _
  have k1 := (((h1.other (o := 6) (show bf2 ≠ bt1 by omega) (by omega) (by omega) (.int .i64 256)).other (o := 15 + 7) (show bf3 ≠ bt1 by omega) (by omega) (by omega) (.int .i64 (-1))).other (o := 15) (show bf4 ≠ bt1 by omega) (by omega) (by omega) (.string ⟨#[110]⟩)).other (o := 15 + 2) (show bf5 ≠ bt1 by omega) (by omega) (by omega) (.int .i64 8)
  have k6 := (((h6.other (o := 6) (show bf2 ≠ bt6 by omega) (by omega) (by omega) (.int .i64 256)).other (o := 15 + 7) (show bf3 ≠ bt6 by omega) (by omega) (by omega) (.int .i64 (-1))).other (o := 15) (show bf4 ≠ bt6 by omega) (by omega) (by omega) (.string ⟨#[110]⟩)).other (o := 15 + 2) (show bf5 ≠ bt6 by omega) (by omega) (by omega) (.int .i64 8)
  have k2 := (((h2.turn (g0 := twoB) (g1 := twoF1) (o := 6) (by omega) (by omega) (.int .i64 256) rfl).other (o := 15 + 7) (show bf3 ≠ bt2 by omega) (by omega) (by omega) (.int .i64 (-1))).other (o := 15) (show bf4 ≠ bt2 by omega) (by omega) (by omega) (.string ⟨#[110]⟩)).other (o := 15 + 2) (show bf5 ≠ bt2 by omega) (by omega) (by omega) (.int .i64 8)
  have k3 := (((h3.other (o := 6) (show bf2 ≠ bt3 by omega) (by omega) (by omega) (.int .i64 256)).turn (g0 := twoF0) (g1 := twoC) (o := 15 + 7) (by omega) (by omega) (.int .i64 (-1)) rfl).other (o := 15) (show bf4 ≠ bt3 by omega) (by omega) (by omega) (.string ⟨#[110]⟩)).other (o := 15 + 2) (show bf5 ≠ bt3 by omega) (by omega) (by omega) (.int .i64 8)
  have k4 := (((h4.other (o := 6) (show bf2 ≠ bt4 by omega) (by omega) (by omega) (.int .i64 256)).other (o := 15 + 7) (show bf3 ≠ bt4 by omega) (by omega) (by omega) (.int .i64 (-1))).turn (g0 := twoF0) (g1 := twoE) (o := 15) (by omega) (by omega) (.string ⟨#[110]⟩) rfl).other (o := 15 + 2) (show bf5 ≠ bt4 by omega) (by omega) (by omega) (.int .i64 8)
  have k5 := (((h5.other (o := 6) (show bf2 ≠ bt5 by omega) (by omega) (by omega) (.int .i64 256)).other (o := 15 + 7) (show bf3 ≠ bt5 by omega) (by omega) (by omega) (.int .i64 (-1))).other (o := 15) (show bf4 ≠ bt5 by omega) (by omega) (by omega) (.string ⟨#[110]⟩)).turn (g0 := twoF0) (g1 := twoG) (o := 15 + 2) (by omega) (by omega) (.int .i64 8) rfl
  have hsz : ((((w.setCell ⟨bf2, 6, none⟩ (.int .i64 256)).setCell ⟨bf3, 15 + 7, none⟩ (.int .i64 (-1))).setCell ⟨bf4, 15, none⟩ (.string ⟨#[110]⟩)).setCell ⟨bf5, 15 + 2, none⟩ (.int .i64 8)).heap.size = w.heap.size := by simp only [World.size_setCell]
  generalize ((((w.setCell ⟨bf2, 6, none⟩ (.int .i64 256)).setCell ⟨bf3, 15 + 7, none⟩ (.int .i64 (-1))).setCell ⟨bf4, 15, none⟩ (.string ⟨#[110]⟩)).setCell ⟨bf5, 15 + 2, none⟩ (.int .i64 8)) = w1 at eS k1 k2 k3 k4 k5 k6 hsz ⊢
  clear h1 h2 h3 h4 h5 h6 y2 y3 y4 y5 e0
  rw [← hsz] at l19 ⊢
  have eA : Ext w1 ((((((w1.alloc (Obj.cells #[.string ⟨#[100]⟩, .slice (some ⟨bm1, 0, none⟩) 1 1, .string ⟨#[120]⟩] 44)).alloc (Obj.cells #[.string ⟨#[100]⟩, .slice (some ⟨bm2, 0, none⟩) 1 1, .string ⟨#[109]⟩] 44)).alloc (Obj.cells #[.string ⟨#[100]⟩, .slice (some ⟨bm3, 0, none⟩) 1 1, .string ⟨#[109]⟩] 44)).alloc (Obj.cells #[.string ⟨#[100]⟩, .slice (some ⟨bm4, 0, none⟩) 1 1, .string ⟨#[109]⟩] 44)).alloc (Obj.cells #[.string ⟨#[100]⟩, .slice (some ⟨bm5, 0, none⟩) 1 1, .string ⟨#[109]⟩] 44)).alloc (Obj.cells #[.string ⟨#[100]⟩, .slice (some ⟨bm6, 0, none⟩) 1 1, .string ⟨#[109]⟩] 44)) := ee
  generalize hW : ((((((w1.alloc (Obj.cells #[.string ⟨#[100]⟩, .slice (some ⟨bm1, 0, none⟩) 1 1, .string ⟨#[120]⟩] 44)).alloc (Obj.cells #[.string ⟨#[100]⟩, .slice (some ⟨bm2, 0, none⟩) 1 1, .string ⟨#[109]⟩] 44)).alloc (Obj.cells #[.string ⟨#[100]⟩, .slice (some ⟨bm3, 0, none⟩) 1 1, .string ⟨#[109]⟩] 44)).alloc (Obj.cells #[.string ⟨#[100]⟩, .slice (some ⟨bm4, 0, none⟩) 1 1, .string ⟨#[109]⟩] 44)).alloc (Obj.cells #[.string ⟨#[100]⟩, .slice (some ⟨bm5, 0, none⟩) 1 1, .string ⟨#[109]⟩] 44)).alloc (Obj.cells #[.string ⟨#[100]⟩, .slice (some ⟨bm6, 0, none⟩) 1 1, .string ⟨#[109]⟩] 44)) = W at eA ⊢
  have p1 : DefAt W w1.heap.size ⟨#[120]⟩ bm1 := by unfold DefAt; rw [← hW]; simp (disch := first | assumption | (simp only [ONE]; done) | rfl | (simp only [SZ]; done) | omega | (simp only [SZ] at *; omega)) only [↓PR, QR, Int.reduceBEq, Int.reduceBNe, Int.reduceLT, Int.reduceLE, Int.reduceGT, Int.reduceGE, Int.reduceNeg]
  have p2 : DefAt W (w1.heap.size + 1) ⟨#[109]⟩ bm2 := by unfold DefAt; rw [← hW]; simp (disch := first | assumption | (simp only [ONE]; done) | rfl | (simp only [SZ]; done) | omega | (simp only [SZ] at *; omega)) only [↓PR, QR, Int.reduceBEq, Int.reduceBNe, Int.reduceLT, Int.reduceLE, Int.reduceGT, Int.reduceGE, Int.reduceNeg]
  have p3 : DefAt W (w1.heap.size + 1 + 1) ⟨#[109]⟩ bm3 := by unfold DefAt; rw [← hW]; simp (disch := first | assumption | (simp only [ONE]; done) | rfl | (simp only [SZ]; done) | omega | (simp only [SZ] at *; omega)) only [↓PR, QR, Int.reduceBEq, Int.reduceBNe, Int.reduceLT, Int.reduceLE, Int.reduceGT, Int.reduceGE, Int.reduceNeg]
  have p4 : DefAt W (w1.heap.size + 1 + 1 + 1) ⟨#[109]⟩ bm4 := by unfold DefAt; rw [← hW]; simp (disch := first | assumption | (simp only [ONE]; done) | rfl | (simp only [SZ]; done) | omega | (simp only [SZ] at *; omega)) only [↓PR, QR, Int.reduceBEq, Int.reduceBNe, Int.reduceLT, Int.reduceLE, Int.reduceGT, Int.reduceGE, Int.reduceNeg]
  have p5 : DefAt W (w1.heap.size + 1 + 1 + 1 + 1) ⟨#[109]⟩ bm5 := by unfold DefAt; rw [← hW]; simp (disch := first | assumption | (simp only [ONE]; done) | rfl | (simp only [SZ]; done) | omega | (simp only [SZ] at *; omega)) only [↓PR, QR, Int.reduceBEq, Int.reduceBNe, Int.reduceLT, Int.reduceLE, Int.reduceGT, Int.reduceGE, Int.reduceNeg]
  have p6 : DefAt W (w1.heap.size + 1 + 1 + 1 + 1 + 1) ⟨#[109]⟩ bm6 := by unfold DefAt; rw [← hW]; simp (disch := first | assumption | (simp only [ONE]; done) | rfl | (simp only [SZ]; done) | omega | (simp only [SZ] at *; omega)) only [↓PR, QR, Int.reduceBEq, Int.reduceBNe, Int.reduceLT, Int.reduceLE, Int.reduceGT, Int.reduceGE, Int.reduceNeg]
  have hWs : W.heap.size = w1.heap.size + 1 + 1 + 1 + 1 + 1 + 1 := by rw [← hW]; simp only [World.size_alloc]
  clear hW
  exact known_mid (eS.trans eA) (k1.go eA) (k2.go eA) (k3.go eA) (k4.go eA) (k5.go eA) (k6.go eA) p1 p2 p3 p4 p5 p6 l1 l2 l3 l4 l5 l6 l7 l8 l9 l10 l11 l12 l13 l14 l15 l16 l17 l18 (by omega) (by omega) (by omega) (by omega) (by omega) (by omega) (by omega)
end Go.Proofs.Ytiajhbbmgglmlaa
namespace Go.Proofs.Ytiajhbbmgglmlaa
open Sw
open Go.RowKit (intOf Below)
set_option maxRecDepth 100000
def sumF (l : List MsgD) : Nat := (l.map fun m => m.fields.length).sum
def okF (f : FieldD) : Prop := f.cases.length ≤ 50 ∧ f.terms.length ≤ 10
def fitsP (d : DefD) : Prop := d.msgs.length ≤ 70 ∧ sumF d.msgs ≤ 400 ∧ ∀ m ∈ d.msgs, ∀ f ∈ m.fields, okF f
theorem sumF_take {l : List MsgD} {k : Nat} {x : MsgD} (hx : l[k]? = some x) : sumF (l.take (k + 1)) = sumF (l.take k) + x.fields.length := by
  rw [take_snoc hx]; simp [sumF]
theorem le_sumF {l : List MsgD} {m : MsgD} (h : m ∈ l) : m.fields.length ≤ sumF l := by
  unfold sumF
  induction l with
  | nil => cases h
  | cons a l ih =>
    rcases List.mem_cons.1 h with rfl | h
    · simp
    · have := ih h; simp at this ⊢; omega
theorem forall_take {α : Type} {p : α → Prop} {l : List α} {k : Nat} {x : α} (h : ∀ y ∈ l.take k, p y) (hx : l[k]? = some x) (hp : p x) : ∀ y ∈ l.take (k + 1), p y := by
  rw [take_snoc hx]
  intro y hy
  rcases List.mem_append.1 hy with hy | hy
  · exact h y hy
  · simp only [List.mem_singleton] at hy; subst hy; exact hp
theorem fits_ret (w0 : World) (v : Value) (d : DefD) (hd : DefVal w0 v d) (hs : DefSm d) : Ret Try.prog 17 #[v] w0 fun r w' => ∃ b, r = .bool b ∧ (b = true → fitsP d) ∧ Ext w0 w' := by
  obtain ⟨mv, rfl, hM⟩ := hd
  obtain ⟨A, c, rfl, hlc, hcm, hlm, hel⟩ := SliceOf.open hM
  refine n_phrasebooklaw05_fits_sound (R := retR _) ?_; unfold n_phrasebooklaw05_fits
  simp (disch := first | assumption | (simp only [ONE]; done) | rfl | (simp only [SZ]; done) | omega | (simp only [SZ] at *; omega)) only [↓PR, QR, Int.reduceBEq, Int.reduceBNe, Int.reduceLT, Int.reduceLE, Int.reduceGT, Int.reduceGE, Int.reduceNeg]
  have hBW := ElemAt.new (w := w0) (defCells d (.slice A d.msgs.length c)) (44)
  have eW : Ext w0 (w0.alloc (Obj.cells (List.toArray (defCells d (.slice A d.msgs.length c))) (44))) := (Ext.refl _).alloc _
  generalize (w0.alloc (Obj.cells (List.toArray (defCells d (.slice A d.msgs.length c))) (44))) = W at hBW eW ⊢
  refine loop2_intro (fun a0 a1 w => ∃ (k : Nat) , a0 = .int .i64 (sumF (d.msgs.take k) : Nat) ∧ a1 = .int .i64 (k : Int) ∧ k ≤ d.msgs.length ∧ Ext W w ∧ sumF (d.msgs.take k) ≤ 400 ∧ ∀ m ∈ d.msgs.take k, ∀ f ∈ m.fields, okF f) (fun a0 a1 _ => d.msgs.length - (intOf a1).toNat) ⟨0, rfl, rfl, Nat.zero_le _, ee, ⟨by simp [sumF], by simp⟩⟩ ?_
  rintro _ _ w ⟨k, rfl, rfl, hk, e, hI⟩
  have se := e.size
  rcases drop_cases hk with ⟨x, hx, hd, hlt, hdec⟩ | ⟨hk, hd, hdec⟩
  · obtain ⟨h400, hok⟩ := hI
    obtain ⟨b, o, cs, rfl, hl, hA, fv, rfl, hF⟩ := hel k x hx
    obtain ⟨A2, c2, rfl, hlc2, hcm2, hlm2, hel2⟩ := SliceOf.open hF
    have hxm := List.mem_of_getElem? hx
    have hsx := hs.2 x hxm
    have hx1 := hsx.1
    have e' := eW.trans e
    unfold n_phrasebooklaw05_fits_c5
    by_cases hk70 : k ≤ 70
    · have d1 : decide ((k : Int) ≤ 70) = true := by simp; omega
      simp (disch := first | assumption | (simp only [ONE]; done) | rfl | (simp only [SZ]; done) | omega | (simp only [SZ] at *; omega)) only [↓PR, QR, Int.reduceBEq, Int.reduceBNe, Int.reduceLT, Int.reduceLE, Int.reduceGT, Int.reduceGE, Int.reduceNeg, hBW.c3, hdec, d1]
      unfold n_phrasebooklaw05_fits_c4
      have hwr : IntKind.i64.wrap ((sumF (d.msgs.take k) : Int) + (x.fields.length : Int)) = ((sumF (d.msgs.take (k + 1)) : Nat) : Int) := by
        rw [sumF_take hx, wrap_ok (by omega) (by omega)]; omega
      by_cases hn : sumF (d.msgs.take (k + 1)) ≤ 400
      · have d2 : decide (((sumF (d.msgs.take (k + 1)) : Nat) : Int) > 400) = false := by simp; omega
        simp (disch := first | assumption | (simp only [ONE]; done) | rfl | (simp only [SZ]; done) | omega | (simp only [SZ] at *; omega)) only [↓PR, QR, Int.reduceBEq, Int.reduceBNe, Int.reduceLT, Int.reduceLE, Int.reduceGT, Int.reduceGE, Int.reduceNeg, hBW.c3, (hA.c2 e').1, (hA.c2 e').2, hwr, d2]
        rw [hwr]
        refine loop1_intro (fun a0 wb => ∃ (kb : Nat) , a0 = .int .i64 (kb : Int) ∧ kb ≤ x.fields.length ∧ Ext w wb ∧ ∀ f ∈ x.fields.take kb, okF f) (fun a0 _ => x.fields.length - (intOf a0).toNat) ⟨0, rfl, Nat.zero_le _, ee, by simp⟩ ?_
        rintro _ wb ⟨kb, rfl, hkb, eb, hIb⟩
        have seb := eb.size
        rcases drop_cases hkb with ⟨xb, hxb, hdb, hltb, hdecb⟩ | ⟨hkb, hdb, hdecb⟩
        · obtain ⟨b2, o2, cs2, rfl, hl2, hA2, hE2⟩ := hel2 kb xb hxb
          obtain ⟨tv, cv, rfl, hT, hC, ht1, hc1⟩ := hE2.op
          obtain ⟨A3, c3, rfl, hlc3, hcm3, hlm3, hel3⟩ := SliceOf.open hC
          obtain ⟨A4, c4, rfl, hlc4, hcm4, hlm4, hel4⟩ := SliceOf.open hT
          have eb' := e'.trans eb
          unfold n_phrasebooklaw05_fits_c2
          simp (disch := first | assumption | (simp only [ONE]; done) | rfl | (simp only [SZ]; done) | omega | (simp only [SZ] at *; omega)) only [↓PR, QR, Int.reduceBEq, Int.reduceBNe, Int.reduceLT, Int.reduceLE, Int.reduceGT, Int.reduceGE, Int.reduceNeg, hdecb]
          unfold n_phrasebooklaw05_fits_c1
          have hcell := hA2.c15 eb'
          by_cases hc50 : xb.cases.length ≤ 50
          · have d3 : decide ((xb.cases.length : Int) > 50) = false := by simp; omega
            by_cases ht10 : xb.terms.length ≤ 10
            · have d4 : decide ((xb.terms.length : Int) > 10) = false := by simp; omega
              simp (disch := first | assumption | (simp only [ONE]; done) | rfl | (simp only [SZ]; done) | omega | (simp only [SZ] at *; omega)) only [↓PR, QR, Int.reduceBEq, Int.reduceBNe, Int.reduceLT, Int.reduceLE, Int.reduceGT, Int.reduceGE, Int.reduceNeg, hcell, d3, d4]
              exact ⟨⟨kb + 1, rfl, by omega, ee, forall_take hIb hxb ⟨hc50, ht10⟩⟩, meas_lt hltb⟩
            · have d4 : decide ((xb.terms.length : Int) > 10) = true := by simp; omega
              simp (disch := first | assumption | (simp only [ONE]; done) | rfl | (simp only [SZ]; done) | omega | (simp only [SZ] at *; omega)) only [↓PR, QR, Int.reduceBEq, Int.reduceBNe, Int.reduceLT, Int.reduceLE, Int.reduceGT, Int.reduceGE, Int.reduceNeg, hcell, d3, d4]
              exact ⟨false, rfl, by simp, ee⟩
          · have d3 : decide ((xb.cases.length : Int) > 50) = true := by simp; omega
            simp (disch := first | assumption | (simp only [ONE]; done) | rfl | (simp only [SZ]; done) | omega | (simp only [SZ] at *; omega)) only [↓PR, QR, Int.reduceBEq, Int.reduceBNe, Int.reduceLT, Int.reduceLE, Int.reduceGT, Int.reduceGE, Int.reduceNeg, hcell, d3]
            exact ⟨false, rfl, by simp, ee⟩
        · subst hkb
          rw [List.take_length] at hIb
          unfold n_phrasebooklaw05_fits_c2
          simp (disch := first | assumption | (simp only [ONE]; done) | rfl | (simp only [SZ]; done) | omega | (simp only [SZ] at *; omega)) only [↓PR, QR, Int.reduceBEq, Int.reduceBNe, Int.reduceLT, Int.reduceLE, Int.reduceGT, Int.reduceGE, Int.reduceNeg, hdecb]
          exact ⟨⟨k + 1, rfl, rfl, by omega, ee, ⟨hn, forall_take hok hx hIb⟩⟩, meas_lt hlt⟩
      · have d2 : decide (((sumF (d.msgs.take (k + 1)) : Nat) : Int) > 400) = true := by simp; omega
        simp (disch := first | assumption | (simp only [ONE]; done) | rfl | (simp only [SZ]; done) | omega | (simp only [SZ] at *; omega)) only [↓PR, QR, Int.reduceBEq, Int.reduceBNe, Int.reduceLT, Int.reduceLE, Int.reduceGT, Int.reduceGE, Int.reduceNeg, hBW.c3, (hA.c2 e').1, (hA.c2 e').2, hwr, d2]
        exact ⟨false, rfl, by simp, ee⟩
    · have d1 : decide ((k : Int) ≤ 70) = false := by simp; omega
      have d2 : decide ((d.msgs.length : Int) ≤ 70) = false := by simp; omega
      simp (disch := first | assumption | (simp only [ONE]; done) | rfl | (simp only [SZ]; done) | omega | (simp only [SZ] at *; omega)) only [↓PR, QR, Int.reduceBEq, Int.reduceBNe, Int.reduceLT, Int.reduceLE, Int.reduceGT, Int.reduceGE, Int.reduceNeg, hBW.c3, hdec, d1, n_phrasebooklaw05_fits_c3, d2]
      exact ⟨false, rfl, by simp, ee⟩
  · subst hk
    obtain ⟨h400, hok⟩ := hI
    rw [List.take_length] at h400 hok
    unfold n_phrasebooklaw05_fits_c5
    simp (disch := first | assumption | (simp only [ONE]; done) | rfl | (simp only [SZ]; done) | omega | (simp only [SZ] at *; omega)) only [↓PR, QR, Int.reduceBEq, Int.reduceBNe, Int.reduceLT, Int.reduceLE, Int.reduceGT, Int.reduceGE, Int.reduceNeg, hBW.c3, hdec, n_phrasebooklaw05_fits_c3]
    exact ⟨_, rfl, fun hb => ⟨by have := of_decide_eq_true hb; omega, h400, hok⟩, ee⟩
end Go.Proofs.Ytiajhbbmgglmlaa
namespace Go.Proofs.Ytiajhbbmgglmlaa
open Sw
open Go.RowKit (intOf Below)
set_option maxRecDepth 100000
theorem fits_tame {d : DefD} (h : fitsP d) : tame d := ⟨by have := h.1; omega, fun m hm => ⟨by have := le_sumF hm; have := h.2.1; omega, fun f hf => ⟨by have := (h.2.2 m hm f hf).2; omega, by have := (h.2.2 m hm f hf).1; omega⟩⟩⟩
end Go.Proofs.Ytiajhbbmgglmlaa
namespace Go.Proofs.Ytiajhbbmgglmlaa
open Sw
open Go.RowKit (intOf Below)
set_option maxRecDepth 100000
section
variable {w w' : World} {lo hi lo2 hi2 : Nat}
theorem own_save {α : Type} {n : Nat} {T : TypeId} {enc : α → List Value} {v : Value} {l : List α} (h : OwnR w lo2 hi2 T n enc v l) (hs : Save lo hi w w') (hd : hi2 ≤ lo ∨ hi ≤ lo2) : OwnR w' lo2 hi2 T n enc v l := by
  refine ⟨⟨h.1.1, ?_⟩, h.2⟩
  rcases h.1.2 with h2 | ⟨g, cap, cur, h1, h2, h3, h4⟩
  · exact .inl h2
  · have := h.2 g (by rw [h1]; rfl)
    exact .inr ⟨g, cap, cur, h1, h2, hs.obj h3 (by omega), h4⟩
theorem fields_save {v : Value} {l : List FieldD} (h : FieldsN w lo2 hi2 v l) (hs : Save lo hi w w') (hd : hi2 ≤ lo ∨ hi ≤ lo2) : FieldsN w' lo2 hi2 v l := by
  obtain ⟨css, h1, h2⟩ := h
  exact ⟨css, own_save h1 hs hd, h2.imp fun _ _ ⟨tv, cv, h1, h2, h3⟩ => ⟨tv, cv, h1, own_save h2 hs hd, own_save h3 hs hd⟩⟩
theorem msgs_save {v : Value} {l : List MsgD} (h : MsgsN w lo2 hi2 v l) (hs : Save lo hi w w') (hd : hi2 ≤ lo ∨ hi ≤ lo2) : MsgsN w' lo2 hi2 v l := by
  obtain ⟨css, h1, h2⟩ := h
  exact ⟨css, own_save h1 hs hd, h2.imp fun _ _ ⟨fv, h1, h2⟩ => ⟨fv, h1, fields_save h2 hs hd⟩⟩
end
def zeroD : Array Value := #[.string ByteArray.empty, .slice none 0 0, .string ByteArray.empty]
theorem set3 {W w : World} {p : Nat} {T : TypeId} {u0 u1 u2 : Value} (h : w.heap[p]? = some (.cells #[u0, u1, u2] T (0, 0))) (e : Ext W w) (g : W.heap.size ≤ p) (v0 v1 v2 : Value) : Ext W (((w.setCell ⟨p, 0, none⟩ v0).setCell ⟨p, 0 + 1, none⟩ v1).setCell ⟨p, 0 + 2, none⟩ v2) ∧ (((w.setCell ⟨p, 0, none⟩ v0).setCell ⟨p, 0 + 1, none⟩ v1).setCell ⟨p, 0 + 2, none⟩ v2).heap[p]? = some (.cells #[v0, v1, v2] T (0, 0)) ∧ Only p w (((w.setCell ⟨p, 0, none⟩ v0).setCell ⟨p, 0 + 1, none⟩ v1).setCell ⟨p, 0 + 2, none⟩ v2) ∧ w.heap.size = (((w.setCell ⟨p, 0, none⟩ v0).setCell ⟨p, 0 + 1, none⟩ v1).setCell ⟨p, 0 + 2, none⟩ v2).heap.size := by
  refine ⟨ee, ?_, fun g hg => ?_, by simp only [World.size_setCell]⟩
  · exact heap_set (o := 0 + 2) (heap_set (o := 0 + 1) (heap_set (o := 0) h v0) v1) v2
  · rw [Only.setCell _ _ _ _ g hg, Only.setCell _ _ _ _ g hg, Only.setCell _ _ _ _ g hg]
section
variable {Φ : Value → World → Prop} {W w : World} {a : DefD} {mva : Value}
theorem leq_cpy {k : Value → World → Prop} (hA : MsgsOf W mva a.msgs) (ht : tame a) (e : Ext W w) (h : ∀ mv lo hi w', w.heap.size ≤ lo → hi ≤ w'.heap.size → lo ≤ hi → Ext w w' → MsgsN w' lo hi mv a.msgs → k (.agg (defCells a mv).toArray) w') : callK Try.prog 23 #[.agg (defCells a mva).toArray] (panK (retR Φ)) w (fun v w => EC W w ∧ k v w) := by
  refine callK_ret (Copy_ret w _ a ⟨_, rfl, hA.ext e⟩ ht) ?_
  rintro _ w' ⟨⟨mv, rfl, hN⟩, e'⟩
  exact ⟨e.trans e', h mv _ _ w' (Nat.le_refl _) (Nat.le_refl _) e'.size e' hN⟩
theorem leq_alc {k : Value → World → Prop} (e : Ext W w) (h : ∀ p w', w.heap.size ≤ p → p < w'.heap.size → Ext w w' → w'.heap[p]? = some (.cells zeroD 44 (0, 0)) → k (.pointer (some ⟨p, 0, none⟩)) w') : opV Try.prog (Instr.alloc 44 true (.tuple #[])) (panK (retR Φ)) w (fun v w => EC W w ∧ k v w) := by
  simp (disch := first | assumption | (simp only [ONE]; done) | rfl | (simp only [SZ]; done) | omega | (simp only [SZ] at *; omega)) only [↓PR, QR, Int.reduceBEq, Int.reduceBNe, Int.reduceLT, Int.reduceLE, Int.reduceGT, Int.reduceGE, Int.reduceNeg]
  exact ⟨ee, h _ _ (Nat.le_refl _) (by simp only [World.size_alloc]; omega) ee (heap_new _ _ _)⟩
theorem leq_st {K : Value → Value → World → Prop} {p6 p7 lo hi lo2 hi2 : Nat} {mvc mvo : Value} (e : Ext W w) (h6 : w.heap[p6]? = some (.cells zeroD 44 (0, 0))) (h7 : w.heap[p7]? = some (.cells zeroD 44 (0, 0))) (g6 : W.heap.size ≤ p6) (g7 : W.heap.size ≤ p7) (hne : p6 ≠ p7)
    (hC : MsgsN w lo hi mvc a.msgs) (hO : MsgsN w lo2 hi2 mvo a.msgs) (i6 : p6 < lo ∨ hi ≤ p6) (i7 : p7 < lo ∨ hi ≤ p7) (j6 : p6 < lo2 ∨ hi2 ≤ p6) (j7 : p7 < lo2 ∨ hi2 ≤ p7) (hl : hi ≤ w.heap.size)
    (hK : ∀ w', Ext W w' → hi ≤ w'.heap.size → MsgsN w' lo hi mvc a.msgs → MsgsN w' lo2 hi2 mvo a.msgs → w'.heap[p6]? = some (.cells (defCells a mvc).toArray 44 (0, 0)) → w'.heap[p7]? = some (.cells (defCells a mvo).toArray 44 (0, 0)) → K (.pointer (some ⟨p6, 0, none⟩)) (.pointer (some ⟨p7, 0, none⟩)) w') :
    opU Try.prog (Instr.storeAt 44 (.pointer (some ⟨p6, 0, none⟩)) (.agg (defCells a mvc).toArray)) (panK (retR Φ)) w fun w => turnK w fun _ w => opU Try.prog (Instr.storeAt 44 (.pointer (some ⟨p7, 0, none⟩)) (.agg (defCells a mvo).toArray)) (panK (retR Φ)) w fun w => turnK w fun _ w => K (.pointer (some ⟨p6, 0, none⟩)) (.pointer (some ⟨p7, 0, none⟩)) w := by
  have hc1 : mvc.oneCell' = true := SliceOf.oneCell hC.plain
  have ho1 : mvo.oneCell' = true := SliceOf.oneCell hO.plain
  obtain ⟨e1, k6, ho, hs⟩ := set3 h6 e g6 (.string a.name) mvc (.string a.start)
  have h7' := (ho p7 (Ne.symm hne)).trans h7
  simp (disch := first | assumption | (simp only [ONE]; done) | rfl | (simp only [SZ]; done) | omega | (simp only [SZ] at *; omega)) only [↓PR, QR, Int.reduceBEq, Int.reduceBNe, Int.reduceLT, Int.reduceLE, Int.reduceGT, Int.reduceGE, Int.reduceNeg, (cells_of_heap h6).1, (cells_of_heap h6).2, defCells, zeroD]
  generalize (((w.setCell ⟨p6, 0, none⟩ (.string a.name)).setCell ⟨p6, 0 + 1, none⟩ mvc).setCell ⟨p6, 0 + 2, none⟩ (.string a.start)) = w1 at *
  refine turnK_intro ?_
  obtain ⟨e2, k7, ho2, hs2⟩ := set3 h7' e1 g7 (.string a.name) mvo (.string a.start)
  simp (disch := first | assumption | (simp only [ONE]; done) | rfl | (simp only [SZ]; done) | omega | (simp only [SZ] at *; omega)) only [↓PR, QR, Int.reduceBEq, Int.reduceBNe, Int.reduceLT, Int.reduceLE, Int.reduceGT, Int.reduceGE, Int.reduceNeg, (cells_of_heap h7').1, (cells_of_heap h7').2, defCells, zeroD]
  refine turnK_intro ?_
  refine hK _ e2 (Nat.le_trans hl (Nat.le_of_eq (hs.trans hs2))) ((hC.only ho ?_).only ho2 ?_) ((hO.only ho ?_).only ho2 ?_) ((ho2 p6 hne).trans k6) k7
  all_goals unfold Harmless; omega
end
section
variable {Φ : Value → World → Prop} {W : World} {a : DefD} {mva : Value}
set_option maxHeartbeats 4000000 in
theorem leq_region {K : Value → Value → World → Prop} (hA : MsgsOf W mva a.msgs) (ht : tame a)
    (hK : ∀ w mvc mvo lo hi lo2 hi2 p6 p7, Ext W w → W.heap.size ≤ lo → hi ≤ w.heap.size → MsgsN w lo hi mvc a.msgs → MsgsN w lo2 hi2 mvo a.msgs → (hi2 ≤ lo ∨ hi ≤ lo2) → (p6 < lo ∨ hi ≤ p6) → (p7 < lo ∨ hi ≤ p7) → w.heap[p6]? = some (.cells (defCells a mvc).toArray 44 (0, 0)) → w.heap[p7]? = some (.cells (defCells a mvo).toArray 44 (0, 0)) → K (.pointer (some ⟨p6, 0, none⟩)) (.pointer (some ⟨p7, 0, none⟩)) w) :
    (callK Try.prog 23 #[.agg (defCells a mva).toArray] (panK (retR Φ)) W fun t26 w => EC W w ∧ n_phrasebooklaw05_SchemaEquals_c25 t26 (.agg (defCells a mva).toArray) (EC W) K (retR Φ) w) ∧ (opV Try.prog (Instr.alloc 44 true (.tuple #[])) (panK (retR Φ)) W fun t6 w => EC W w ∧ n_phrasebooklaw05_SchemaEquals_c30 t6 (.agg (defCells a mva).toArray) (.agg (defCells a mva).toArray) (EC W) K (retR Φ) w) ∧ (opV Try.prog (Instr.alloc 44 true (.tuple #[])) (panK (retR Φ)) W fun t7 w => EC W w ∧ n_phrasebooklaw05_SchemaEquals_c35 t7 (.agg (defCells a mva).toArray) (.agg (defCells a mva).toArray) (EC W) K (retR Φ) w) := by
  have E0 := Ext.refl W
  refine ⟨?_, ?_, ?_⟩
  · refine leq_cpy hA ht E0 fun mvA loA hiA w1 lA uA zA e1 nA => ?_
    have s1 := e1.size
    have E1 := E0.trans e1
    unfold n_phrasebooklaw05_SchemaEquals_c25
    refine ⟨?_, ?_, ?_⟩
    · refine leq_cpy hA ht E1 fun mvB loB hiB w2 lB uB zB e2 nB => ?_
      have s2 := e2.size
      have E2 := E1.trans e2
      unfold n_phrasebooklaw05_SchemaEquals_c18
      refine ⟨?_, ?_⟩
      · refine leq_alc E2 fun p6 w3 l6 u6 e3 h6 => ?_
        have s3 := e3.size
        have E3 := E2.trans e3
        unfold n_phrasebooklaw05_SchemaEquals_c16
        refine leq_alc E3 fun p7 w4 l7 u7 e4 h7 => ?_
        have s4 := e4.size
        have E4 := E3.trans e4
        exact leq_st E4 (e4.obj h6) h7 (by omega) (by omega) (by omega) (nA.ext (e2.trans (e3.trans e4))) (nB.ext (e3.trans e4)) (by omega) (by omega) (by omega) (by omega) (by omega) (fun w' a1 a2 a3 a4 a5 a6 => hK w' _ _ _ _ _ _ _ _ a1 (by omega) a2 a3 a4 (by omega) (by omega) (by omega) a5 a6)
      · refine leq_alc E2 fun p7 w3 l7 u7 e3 h7 => ?_
        have s3 := e3.size
        have E3 := E2.trans e3
        unfold n_phrasebooklaw05_SchemaEquals_c17
        refine leq_alc E3 fun p6 w4 l6 u6 e4 h6 => ?_
        have s4 := e4.size
        have E4 := E3.trans e4
        exact leq_st E4 h6 (e4.obj h7) (by omega) (by omega) (by omega) (nA.ext (e2.trans (e3.trans e4))) (nB.ext (e3.trans e4)) (by omega) (by omega) (by omega) (by omega) (by omega) (fun w' a1 a2 a3 a4 a5 a6 => hK w' _ _ _ _ _ _ _ _ a1 (by omega) a2 a3 a4 (by omega) (by omega) (by omega) a5 a6)
    · refine leq_alc E1 fun p6 w2 l6 u6 e2 h6 => ?_
      have s2 := e2.size
      have E2 := E1.trans e2
      unfold n_phrasebooklaw05_SchemaEquals_c21
      refine ⟨?_, ?_⟩
      · refine leq_cpy hA ht E2 fun mvB loB hiB w3 lB uB zB e3 nB => ?_
        have s3 := e3.size
        have E3 := E2.trans e3
        unfold n_phrasebooklaw05_SchemaEquals_c19
        refine leq_alc E3 fun p7 w4 l7 u7 e4 h7 => ?_
        have s4 := e4.size
        have E4 := E3.trans e4
        exact leq_st E4 ((e3.trans e4).obj h6) h7 (by omega) (by omega) (by omega) (nA.ext (e2.trans (e3.trans e4))) (nB.ext e4) (by omega) (by omega) (by omega) (by omega) (by omega) (fun w' a1 a2 a3 a4 a5 a6 => hK w' _ _ _ _ _ _ _ _ a1 (by omega) a2 a3 a4 (by omega) (by omega) (by omega) a5 a6)
      · refine leq_alc E2 fun p7 w3 l7 u7 e3 h7 => ?_
        have s3 := e3.size
        have E3 := E2.trans e3
        unfold n_phrasebooklaw05_SchemaEquals_c20
        refine leq_cpy hA ht E3 fun mvB loB hiB w4 lB uB zB e4 nB => ?_
        have s4 := e4.size
        have E4 := E3.trans e4
        exact leq_st E4 ((e3.trans e4).obj h6) (e4.obj h7) (by omega) (by omega) (by omega) (nA.ext (e2.trans (e3.trans e4))) nB (by omega) (by omega) (by omega) (by omega) (by omega) (fun w' a1 a2 a3 a4 a5 a6 => hK w' _ _ _ _ _ _ _ _ a1 (by omega) a2 a3 a4 (by omega) (by omega) (by omega) a5 a6)
    · refine leq_alc E1 fun p7 w2 l7 u7 e2 h7 => ?_
      have s2 := e2.size
      have E2 := E1.trans e2
      unfold n_phrasebooklaw05_SchemaEquals_c24
      refine ⟨?_, ?_⟩
      · refine leq_cpy hA ht E2 fun mvB loB hiB w3 lB uB zB e3 nB => ?_
        have s3 := e3.size
        have E3 := E2.trans e3
        unfold n_phrasebooklaw05_SchemaEquals_c22
        refine leq_alc E3 fun p6 w4 l6 u6 e4 h6 => ?_
        have s4 := e4.size
        have E4 := E3.trans e4
        exact leq_st E4 h6 ((e3.trans e4).obj h7) (by omega) (by omega) (by omega) (nA.ext (e2.trans (e3.trans e4))) (nB.ext e4) (by omega) (by omega) (by omega) (by omega) (by omega) (fun w' a1 a2 a3 a4 a5 a6 => hK w' _ _ _ _ _ _ _ _ a1 (by omega) a2 a3 a4 (by omega) (by omega) (by omega) a5 a6)
      · refine leq_alc E2 fun p6 w3 l6 u6 e3 h6 => ?_
        have s3 := e3.size
        have E3 := E2.trans e3
        unfold n_phrasebooklaw05_SchemaEquals_c23
        refine leq_cpy hA ht E3 fun mvB loB hiB w4 lB uB zB e4 nB => ?_
        have s4 := e4.size
        have E4 := E3.trans e4
        exact leq_st E4 (e4.obj h6) ((e3.trans e4).obj h7) (by omega) (by omega) (by omega) (nA.ext (e2.trans (e3.trans e4))) nB (by omega) (by omega) (by omega) (by omega) (by omega) (fun w' a1 a2 a3 a4 a5 a6 => hK w' _ _ _ _ _ _ _ _ a1 (by omega) a2 a3 a4 (by omega) (by omega) (by omega) a5 a6)
  · refine leq_alc E0 fun p6 w1 l6 u6 e1 h6 => ?_
    have s1 := e1.size
    have E1 := E0.trans e1
    unfold n_phrasebooklaw05_SchemaEquals_c30
    refine ⟨?_, ?_⟩
    · refine leq_cpy hA ht E1 fun mvA loA hiA w2 lA uA zA e2 nA => ?_
      have s2 := e2.size
      have E2 := E1.trans e2
      unfold n_phrasebooklaw05_SchemaEquals_c28
      refine ⟨?_, ?_⟩
      · refine leq_cpy hA ht E2 fun mvB loB hiB w3 lB uB zB e3 nB => ?_
        have s3 := e3.size
        have E3 := E2.trans e3
        unfold n_phrasebooklaw05_SchemaEquals_c26
        refine leq_alc E3 fun p7 w4 l7 u7 e4 h7 => ?_
        have s4 := e4.size
        have E4 := E3.trans e4
        exact leq_st E4 ((e2.trans (e3.trans e4)).obj h6) h7 (by omega) (by omega) (by omega) (nA.ext (e3.trans e4)) (nB.ext e4) (by omega) (by omega) (by omega) (by omega) (by omega) (fun w' a1 a2 a3 a4 a5 a6 => hK w' _ _ _ _ _ _ _ _ a1 (by omega) a2 a3 a4 (by omega) (by omega) (by omega) a5 a6)
      · refine leq_alc E2 fun p7 w3 l7 u7 e3 h7 => ?_
        have s3 := e3.size
        have E3 := E2.trans e3
        unfold n_phrasebooklaw05_SchemaEquals_c27
        refine leq_cpy hA ht E3 fun mvB loB hiB w4 lB uB zB e4 nB => ?_
        have s4 := e4.size
        have E4 := E3.trans e4
        exact leq_st E4 ((e2.trans (e3.trans e4)).obj h6) (e4.obj h7) (by omega) (by omega) (by omega) (nA.ext (e3.trans e4)) nB (by omega) (by omega) (by omega) (by omega) (by omega) (fun w' a1 a2 a3 a4 a5 a6 => hK w' _ _ _ _ _ _ _ _ a1 (by omega) a2 a3 a4 (by omega) (by omega) (by omega) a5 a6)
    · refine leq_alc E1 fun p7 w2 l7 u7 e2 h7 => ?_
      have s2 := e2.size
      have E2 := E1.trans e2
      refine leq_cpy hA ht E2 fun mvA loA hiA w3 lA uA zA e3 nA => ?_
      have s3 := e3.size
      have E3 := E2.trans e3
      unfold n_phrasebooklaw05_SchemaEquals_c29
      refine leq_cpy hA ht E3 fun mvB loB hiB w4 lB uB zB e4 nB => ?_
      have s4 := e4.size
      have E4 := E3.trans e4
      exact leq_st E4 ((e2.trans (e3.trans e4)).obj h6) ((e3.trans e4).obj h7) (by omega) (by omega) (by omega) (nA.ext e4) nB (by omega) (by omega) (by omega) (by omega) (by omega) (fun w' a1 a2 a3 a4 a5 a6 => hK w' _ _ _ _ _ _ _ _ a1 (by omega) a2 a3 a4 (by omega) (by omega) (by omega) a5 a6)
  · refine leq_alc E0 fun p7 w1 l7 u7 e1 h7 => ?_
    have s1 := e1.size
    have E1 := E0.trans e1
    unfold n_phrasebooklaw05_SchemaEquals_c35
    refine ⟨?_, ?_⟩
    · refine leq_cpy hA ht E1 fun mvA loA hiA w2 lA uA zA e2 nA => ?_
      have s2 := e2.size
      have E2 := E1.trans e2
      unfold n_phrasebooklaw05_SchemaEquals_c33
      refine ⟨?_, ?_⟩
      · refine leq_cpy hA ht E2 fun mvB loB hiB w3 lB uB zB e3 nB => ?_
        have s3 := e3.size
        have E3 := E2.trans e3
        unfold n_phrasebooklaw05_SchemaEquals_c31
        refine leq_alc E3 fun p6 w4 l6 u6 e4 h6 => ?_
        have s4 := e4.size
        have E4 := E3.trans e4
        exact leq_st E4 h6 ((e2.trans (e3.trans e4)).obj h7) (by omega) (by omega) (by omega) (nA.ext (e3.trans e4)) (nB.ext e4) (by omega) (by omega) (by omega) (by omega) (by omega) (fun w' a1 a2 a3 a4 a5 a6 => hK w' _ _ _ _ _ _ _ _ a1 (by omega) a2 a3 a4 (by omega) (by omega) (by omega) a5 a6)
      · refine leq_alc E2 fun p6 w3 l6 u6 e3 h6 => ?_
        have s3 := e3.size
        have E3 := E2.trans e3
        unfold n_phrasebooklaw05_SchemaEquals_c32
        refine leq_cpy hA ht E3 fun mvB loB hiB w4 lB uB zB e4 nB => ?_
        have s4 := e4.size
        have E4 := E3.trans e4
        exact leq_st E4 (e4.obj h6) ((e2.trans (e3.trans e4)).obj h7) (by omega) (by omega) (by omega) (nA.ext (e3.trans e4)) nB (by omega) (by omega) (by omega) (by omega) (by omega) (fun w' a1 a2 a3 a4 a5 a6 => hK w' _ _ _ _ _ _ _ _ a1 (by omega) a2 a3 a4 (by omega) (by omega) (by omega) a5 a6)
    · refine leq_alc E1 fun p6 w2 l6 u6 e2 h6 => ?_
      have s2 := e2.size
      have E2 := E1.trans e2
      refine leq_cpy hA ht E2 fun mvA loA hiA w3 lA uA zA e3 nA => ?_
      have s3 := e3.size
      have E3 := E2.trans e3
      unfold n_phrasebooklaw05_SchemaEquals_c34
      refine leq_cpy hA ht E3 fun mvB loB hiB w4 lB uB zB e4 nB => ?_
      have s4 := e4.size
      have E4 := E3.trans e4
      exact leq_st E4 ((e3.trans e4).obj h6) ((e2.trans (e3.trans e4)).obj h7) (by omega) (by omega) (by omega) (nA.ext e4) nB (by omega) (by omega) (by omega) (by omega) (by omega) (fun w' a1 a2 a3 a4 a5 a6 => hK w' _ _ _ _ _ _ _ _ a1 (by omega) a2 a3 a4 (by omega) (by omega) (by omega) a5 a6)
theorem leq_tail {w0 w : World} {b : DefD} {mvb mvc mvo : Value} {lo hi lo2 hi2 p2 p3 p6 p7 : Nat} (hs : DefSm a) (hfit : fitsP a) (e0 : Ext w0 W) (hA : MsgsOf w0 mva a.msgs) (hB : MsgsOf w0 mvb b.msgs)
    (o2 : W.heap[p2]? = some (.cells (defCells a mva).toArray 44 (0, 0))) (o3 : W.heap[p3]? = some (.cells (defCells b mvb).toArray 44 (0, 0)))
    (e : Ext W w) (hl : W.heap.size ≤ lo) (hh : hi ≤ w.heap.size) (hC : MsgsN w lo hi mvc a.msgs) (hO : MsgsN w lo2 hi2 mvo a.msgs) (hd : hi2 ≤ lo ∨ hi ≤ lo2) (i6 : p6 < lo ∨ hi ≤ p6) (i7 : p7 < lo ∨ hi ≤ p7)
    (o6 : w.heap[p6]? = some (.cells (defCells a mvc).toArray 44 (0, 0))) (o7 : w.heap[p7]? = some (.cells (defCells a mvo).toArray 44 (0, 0))) :
    n_phrasebooklaw05_SchemaEquals_c15 (.pointer (some ⟨p2, 0, none⟩)) (.pointer (some ⟨p3, 0, none⟩)) (.pointer (some ⟨p6, 0, none⟩)) (.pointer (some ⟨p7, 0, none⟩)) (.bool (decide (a = b))) (retR fun r w' => r = .bool true ∧ Ext w0 w') w := by
  unfold n_phrasebooklaw05_SchemaEquals_c15
  have E0 := e0.trans e
  simp (disch := first | assumption | (simp only [ONE]; done) | rfl | (simp only [SZ]; done) | omega | (simp only [SZ] at *; omega)) only [↓PR, QR, Int.reduceBEq, Int.reduceBNe, Int.reduceLT, Int.reduceLE, Int.reduceGT, Int.reduceGE, Int.reduceNeg, (cells_of_heap (e.obj o2)).1, (cells_of_heap (e.obj o3)).1]
  refine callK_ret (Equal_ret _ _ _ a b ⟨_, rfl, hA.ext E0⟩ ⟨_, rfl, hB.ext E0⟩) ?_
  rintro _ w1 ⟨rfl, e1⟩
  have hsym : decide (b = a) = decide (a = b) := by simp only [eq_comm]
  have hne : (decide (a = b) != decide (a = b)) = false := by simp
  have f1 := e.trans e1
  have E1 := e0.trans f1
  unfold n_phrasebooklaw05_SchemaEquals_c14
  simp (disch := first | assumption | (simp only [ONE]; done) | rfl | (simp only [SZ]; done) | omega | (simp only [SZ] at *; omega)) only [↓PR, QR, Int.reduceBEq, Int.reduceBNe, Int.reduceLT, Int.reduceLE, Int.reduceGT, Int.reduceGE, Int.reduceNeg, hne, (cells_of_heap (f1.obj o2)).1, (cells_of_heap (f1.obj o3)).1]
  refine callK_ret (Equal_ret _ _ _ b a ⟨_, rfl, hB.ext E1⟩ ⟨_, rfl, hA.ext E1⟩) ?_
  rintro _ w2 ⟨rfl, e2⟩
  have f2 := f1.trans e2
  have E2 := e0.trans f2
  have g2 := e1.trans e2
  unfold n_phrasebooklaw05_SchemaEquals_c13
  simp (disch := first | assumption | (simp only [ONE]; done) | rfl | (simp only [SZ]; done) | omega | (simp only [SZ] at *; omega)) only [↓PR, QR, Int.reduceBEq, Int.reduceBNe, Int.reduceLT, Int.reduceLE, Int.reduceGT, Int.reduceGE, Int.reduceNeg, hsym, hne, (cells_of_heap (f2.obj o2)).1, (cells_of_heap (g2.obj o6)).1]
  refine callK_ret (Equal_ret _ _ _ a a ⟨_, rfl, hA.ext E2⟩ ⟨_, rfl, hC.plain.ext g2⟩) ?_
  rintro _ w3 ⟨rfl, e3⟩
  have f3 := f2.trans e3
  have E3 := e0.trans f3
  have g3 := g2.trans e3
  have ht : decide (a = a) = true := by simp
  unfold n_phrasebooklaw05_SchemaEquals_c12
  simp (disch := first | assumption | (simp only [ONE]; done) | rfl | (simp only [SZ]; done) | omega | (simp only [SZ] at *; omega)) only [↓PR, QR, Int.reduceBEq, Int.reduceBNe, Int.reduceLT, Int.reduceLE, Int.reduceGT, Int.reduceGE, Int.reduceNeg, ht, (cells_of_heap (f3.obj o2)).1, (cells_of_heap (g3.obj o6)).1]
  refine callK_ret (rEqual_ret _ _ _ a a ⟨_, rfl, hA.ext E3⟩ ⟨_, rfl, hC.plain.ext g3⟩) ?_
  rintro _ w4 ⟨rfl, e4⟩
  have f4 := f3.trans e4
  have E4 := e0.trans f4
  have g4 := g3.trans e4
  have s4 := g4.size
  simp (disch := first | assumption | (simp only [ONE]; done) | rfl | (simp only [SZ]; done) | omega | (simp only [SZ] at *; omega)) only [↓PR, QR, Int.reduceBEq, Int.reduceBNe, Int.reduceLT, Int.reduceLE, Int.reduceGT, Int.reduceGE, Int.reduceNeg, ht]
  refine leq_msgs (d := a) (B := 140737488355328) ((hC.ext g4).shapeM fun m hm => ⟨by have := le_sumF hm; have := hfit.2.1; omega, fun f hf => ⟨(hfit.2.2 m hm f hf).1, (hfit.2.2 m hm f hf).2, ((hs.2 m hm).2 f hf).2.2⟩⟩) hfit.1 (Nat.le_refl _) (g4.obj o6) i6 (by omega) (fun w5 hs5 => ?_)
  have lp2 : p2 < W.heap.size := (Array.getElem?_eq_some_iff.1 o2).1
  have z0 := e0.size
  have E5 := hs5.to_ext E4 (by omega)
  have x2 := hs5.obj (f4.obj o2) (.inl (by omega))
  have x7 := hs5.obj (g4.obj o7) i7
  unfold n_phrasebooklaw05_SchemaEquals_c10
  simp (disch := first | assumption | (simp only [ONE]; done) | rfl | (simp only [SZ]; done) | omega | (simp only [SZ] at *; omega)) only [↓PR, QR, Int.reduceBEq, Int.reduceBNe, Int.reduceLT, Int.reduceLE, Int.reduceGT, Int.reduceGE, Int.reduceNeg, (cells_of_heap x2).1, (cells_of_heap x7).1]
  refine callK_ret (rEqual_ret _ _ _ a a ⟨_, rfl, hA.ext E5⟩ ⟨_, rfl, (msgs_save (hO.ext g4) hs5 hd).plain⟩) ?_
  rintro _ w6 ⟨rfl, e6⟩
  unfold n_phrasebooklaw05_SchemaEquals_c9
  simp (disch := first | assumption | (simp only [ONE]; done) | rfl | (simp only [SZ]; done) | omega | (simp only [SZ] at *; omega)) only [↓PR, QR, Int.reduceBEq, Int.reduceBNe, Int.reduceLT, Int.reduceLE, Int.reduceGT, Int.reduceGE, Int.reduceNeg, ht]
  refine callK_ret (known_ret _) ?_
  rintro _ w7 ⟨rfl, e7⟩
  simp (disch := first | assumption | (simp only [ONE]; done) | rfl | (simp only [SZ]; done) | omega | (simp only [SZ] at *; omega)) only [↓PR, QR, Int.reduceBEq, Int.reduceBNe, Int.reduceLT, Int.reduceLE, Int.reduceGT, Int.reduceGE, Int.reduceNeg]
  exact ⟨by first | trivial | rfl, ee⟩
end
set_option maxHeartbeats 1000000 in
theorem SchemaEquals_ret (w0 : World) (v : Value) (a : DefD) (u : Value) (b : DefD) (ha : DefVal w0 v a) (hsa : DefSm a) (hb : DefVal w0 u b) (hsb : DefSm b) : Ret Try.prog 7 #[v, u] w0 fun r w' => r = .bool true ∧ Ext w0 w' := by
  obtain ⟨mva, rfl, hA⟩ := ha
  obtain ⟨mvb, rfl, hB⟩ := hb
  refine n_phrasebooklaw05_SchemaEquals_sound (R := retR _) ?_; unfold n_phrasebooklaw05_SchemaEquals
  simp (disch := first | assumption | (simp only [ONE]; done) | rfl | (simp only [SZ]; done) | omega | (simp only [SZ] at *; omega)) only [↓PR, QR, Int.reduceBEq, Int.reduceBNe, Int.reduceLT, Int.reduceLE, Int.reduceGT, Int.reduceGE, Int.reduceNeg]
  simp only [World.size_alloc]
  generalize hW : ((w0.alloc (Obj.cells (defCells a mva).toArray 44)).alloc (Obj.cells (defCells b mvb).toArray 44)) = W
  have e0 : Ext w0 W := by rw [← hW]; exact ee
  have o2 : W.heap[w0.heap.size]? = some (.cells (defCells a mva).toArray 44 (0, 0)) := by rw [← hW]; simp (disch := first | assumption | (simp only [ONE]; done) | rfl | (simp only [SZ]; done) | omega | (simp only [SZ] at *; omega)) only [↓PR, QR, Int.reduceBEq, Int.reduceBNe, Int.reduceLT, Int.reduceLE, Int.reduceGT, Int.reduceGE, Int.reduceNeg]
  have o3 : W.heap[w0.heap.size + 1]? = some (.cells (defCells b mvb).toArray 44 (0, 0)) := by rw [← hW]; simp (disch := first | assumption | (simp only [ONE]; done) | rfl | (simp only [SZ]; done) | omega | (simp only [SZ] at *; omega)) only [↓PR, QR, Int.reduceBEq, Int.reduceBNe, Int.reduceLT, Int.reduceLE, Int.reduceGT, Int.reduceGE, Int.reduceNeg]
  clear hW
  generalize w0.heap.size = p2 at o2 o3 ⊢
  generalize p2 + 1 = p3 at o3 ⊢
  refine callK_ret (fits_ret _ _ a ⟨_, rfl, hA.ext e0⟩ hsa) ?_
  rintro _ w1 ⟨x, rfl, hfit, e1⟩
  have E1 := e0.trans e1
  unfold n_phrasebooklaw05_SchemaEquals_c38
  cases x with
  | false =>
    simp (disch := first | assumption | (simp only [ONE]; done) | rfl | (simp only [SZ]; done) | omega | (simp only [SZ] at *; omega)) only [↓PR, QR, Int.reduceBEq, Int.reduceBNe, Int.reduceLT, Int.reduceLE, Int.reduceGT, Int.reduceGE, Int.reduceNeg]
    refine callK_ret (known_ret _) ?_
    rintro _ w2 ⟨rfl, e2⟩
    simp (disch := first | assumption | (simp only [ONE]; done) | rfl | (simp only [SZ]; done) | omega | (simp only [SZ] at *; omega)) only [↓PR, QR, Int.reduceBEq, Int.reduceBNe, Int.reduceLT, Int.reduceLE, Int.reduceGT, Int.reduceGE, Int.reduceNeg]
    exact ⟨by first | trivial | rfl, ee⟩
  | true =>
  replace hfit := hfit rfl
  simp (disch := first | assumption | (simp only [ONE]; done) | rfl | (simp only [SZ]; done) | omega | (simp only [SZ] at *; omega)) only [↓PR, QR, Int.reduceBEq, Int.reduceBNe, Int.reduceLT, Int.reduceLE, Int.reduceGT, Int.reduceGE, Int.reduceNeg, (cells_of_heap (e1.obj o3)).1]
  refine callK_ret (fits_ret _ _ b ⟨_, rfl, hB.ext E1⟩ hsb) ?_
  rintro _ w2 ⟨x, rfl, hfit2, e2⟩
  have E2 := E1.trans e2
  cases x with
  | false =>
    simp (disch := first | assumption | (simp only [ONE]; done) | rfl | (simp only [SZ]; done) | omega | (simp only [SZ] at *; omega)) only [↓PR, QR, Int.reduceBEq, Int.reduceBNe, Int.reduceLT, Int.reduceLE, Int.reduceGT, Int.reduceGE, Int.reduceNeg]
    refine callK_ret (known_ret _) ?_
    rintro _ w3 ⟨rfl, e3⟩
    simp (disch := first | assumption | (simp only [ONE]; done) | rfl | (simp only [SZ]; done) | omega | (simp only [SZ] at *; omega)) only [↓PR, QR, Int.reduceBEq, Int.reduceBNe, Int.reduceLT, Int.reduceLE, Int.reduceGT, Int.reduceGE, Int.reduceNeg]
    exact ⟨by first | trivial | rfl, ee⟩
  | true =>
  have x2 := (e1.trans e2).obj o2
  have x3 := (e1.trans e2).obj o3
  simp (disch := first | assumption | (simp only [ONE]; done) | rfl | (simp only [SZ]; done) | omega | (simp only [SZ] at *; omega)) only [↓PR, QR, Int.reduceBEq, Int.reduceBNe, Int.reduceLT, Int.reduceLE, Int.reduceGT, Int.reduceGE, Int.reduceNeg]
  unfold n_phrasebooklaw05_SchemaEquals_c37
  simp (disch := first | assumption | (simp only [ONE]; done) | rfl | (simp only [SZ]; done) | omega | (simp only [SZ] at *; omega)) only [↓PR, QR, Int.reduceBEq, Int.reduceBNe, Int.reduceLT, Int.reduceLE, Int.reduceGT, Int.reduceGE, Int.reduceNeg, (cells_of_heap x2).1, (cells_of_heap x3).1]
  refine callK_ret (rEqual_ret _ _ _ a b ⟨_, rfl, hA.ext E2⟩ ⟨_, rfl, hB.ext E2⟩) ?_
  rintro _ w3 ⟨rfl, e3⟩
  have y2 := e3.obj x2
  have y3 := e3.obj x3
  have E3 := E2.trans e3
  simp (disch := first | assumption | (simp only [ONE]; done) | rfl | (simp only [SZ]; done) | omega | (simp only [SZ] at *; omega)) only [↓PR, QR, Int.reduceBEq, Int.reduceBNe, Int.reduceLT, Int.reduceLE, Int.reduceGT, Int.reduceGE, Int.reduceNeg]
  refine drawK_intro ?_
  unfold n_phrasebooklaw05_SchemaEquals_c36
  have y2' : w3.drew.heap[p2]? = some (.cells (defCells a mva).toArray 44 (0, 0)) := y2
  have y3' : w3.drew.heap[p3]? = some (.cells (defCells b mvb).toArray 44 (0, 0)) := y3
  have E4 : Ext w0 w3.drew := E3.wdrew
  simp (disch := first | assumption | (simp only [ONE]; done) | rfl | (simp only [SZ]; done) | omega | (simp only [SZ] at *; omega)) only [↓PR, QR, Int.reduceBEq, Int.reduceBNe, Int.reduceLT, Int.reduceLE, Int.reduceGT, Int.reduceGE, Int.reduceNeg, (cells_of_heap y2).1]
  exact leq_region (hA.ext E4) (fits_tame hfit) (fun w mvc mvo lo hi lo2 hi2 p6 p7 h1 h2 h3 h4 h5 h6 h7 h8 h9 h10 => leq_tail hsa hfit E4 hA hB y2' y3' h1 h2 h3 h4 h5 h6 h7 h8 h9 h10)
end Go.Proofs.Ytiajhbbmgglmlaa
namespace Go.Proofs.Ytiajhbbmgglmlaa
open Sw
open Go.ChangeShapes Go.WideShapes Go.RowKit Go.ChangeAt Go.Deep
theorem equals_own : ownKnob Try.prog.godebug = none := by kernel_rfl
theorem equals_laidOut : laidOutB Try.prog = true := by kernel_rfl
set_option maxRecDepth 100000 in
theorem equals_lifted (os : Os) (started : os.Started) (H : Type) (enc : TypeId × Value → H) :
    ReturnsInHanded {} Try.checked os 7 .any (Rows.schemaEqualsSpec.pre6 enc Try.prog Try.f7 Rows.schemaEqualsRow.domain false) (Rows.schemaEqualsSpec.post enc Try.prog Try.f7 false true false false) := by
  refine returnsInHanded_of_change_sized (C := Try.checked) equals_own started (by kernel_rfl) Try.func7
    (ChangeSpec.witness6 (enc := enc) (C := Try.checked) false ⟨#[], #[.agg #[.string ByteArray.empty, .slice none 0 0, .string ByteArray.empty], .agg #[.string ByteArray.empty, .slice none 0 0, .string ByteArray.empty]], []⟩ 8 (by kernel_rfl) (by kernel_rfl) (by kernel_rfl) (by kernel_rfl)) ?_
  intro W base args ds gs before hval hW _ hsz _
  have hW' := hW
  obtain ⟨p, q, hA0, hV, rfl, _, _⟩ := hW
  have hA : DataW.TrodAll enc Try.prog W 0 (fun _ => true) true Try.f7.params.toList args.toList ds p := hA0
  rw [Try.params7] at hA hval hsz
  obtain ⟨v0, vs0, d0, ds0, p0, q0, ha0, rfl, rfl, h0, r0⟩ := trodAll_cons hA
  obtain ⟨v1, vs1, d1, ds1, p1, q1, ha1, rfl, rfl, h1, r1⟩ := trodAll_cons r0
  obtain ⟨rfl, rfl, rfl⟩ := trodAll_nil r1
  subst ha1
  obtain rfl : args = #[v0, v1] := by cases args; simp_all
  obtain ⟨f0, hf0, hs0⟩ := def_val (hval 0 _ v0 rfl rfl) h0 (reached_of (j := 0) hsz rfl rfl)
  obtain ⟨f1, hf1, hs1⟩ := def_val (hval 1 _ v1 rfl rfl) h1 (reached_of (j := 1) hsz rfl rfl)
  refine Calls.mono (SchemaEquals_ret W v0 f0 v1 f1 hf0 hs0 hf1 hs1) fun e W' ⟨v, he, hv, hx⟩ => ?_
  subst he hv
  exact ⟨_, rfl, law_post equals_laidOut (by decide +kernel) rfl hW' hx rfl Try.underlying4 rfl rfl rfl⟩
theorem equals_holds : Rows.SchemaEqualsSaid :=
  OpenClaim.holds_of_wide 7 Try.f7 rfl rfl rfl rfl rfl rfl rfl ⟨rfl, rfl, rfl, rfl, rfl⟩ rfl rfl rfl rfl rfl (by kernel_rfl) Try.func7 (by kernel_rfl)
    (of_decide_eq_true (by kernel_rfl)) (by unfold Func.isWrapper; first | (rw [if_pos (by decide +kernel)]; kernel_rfl) | (rw [if_neg (by decide +kernel)]; exact ⟨rfl, rfl⟩))
    (fun os started H enc _ => equals_lifted os started H enc)
end Go.Proofs.Ytiajhbbmgglmlaa
