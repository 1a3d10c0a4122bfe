/-
  phrasebooklaw05.SchemaGrows returns true for every definition, every number of a message and every name, and leaves its arguments as they were; no condition is asked.
-/
import Derived.Test.YtiajhbbmgglmlaaFe6
set_option linter.all false
namespace Go.Proofs.Ytiajhbbmgglmlaa
open Sw
open Go.RowKit (intOf Below)
set_option maxRecDepth 100000
section
variable {w0 : World} {d : DefD} {mv : Value} {p3 p6 p8 : Nat} {k : Nat} {m : MsgD}
theorem lgr_end {w : World} {A : Option Addr} {c : Nat} (hv : (checkP d).2.2 = 0) (ht : calm d) (hk : d.msgs[k]? = some m) (e : Ext w0 w) (hM : MsgsOf w0 (.slice A d.msgs.length c) d.msgs)
    (o3 : w.heap[p3]? = some (.cells (defCells d (.slice A d.msgs.length c)).toArray 44 (0, 0))) (o8 : w.heap[p8]? = some (.cells #[.int .i64 (k : Int)] 3 (0, 0))) (o6 : w.heap[p6]? = some (.cells #[.bool false] 4 (0, 0))) (h6 : w0.heap.size ≤ p6) :
    n_phrasebooklaw05_SchemaGrows_c18 (.pointer (some ⟨p3, 0, none⟩)) (.pointer (some ⟨p6, 0, none⟩)) (.pointer (some ⟨p8, 0, none⟩)) [] (retR fun r w' => r = .bool true ∧ Ext w0 w') w := by
  obtain ⟨p, hp, hp1, hp16, hrefs⟩ := grow_depth hv hk
  have hlk := (List.getElem?_eq_some_iff.1 hk).1
  unfold n_phrasebooklaw05_SchemaGrows_c18
  simp (disch := first | assumption | (simp only [ONE]; done) | rfl | (simp only [SZ]; done) | omega | (simp only [SZ] at *; omega)) only [↓PR, QR, Int.reduceBEq, Int.reduceBNe, Int.reduceLT, Int.reduceLE, Int.reduceGT, Int.reduceGE, Int.reduceNeg, (cells_of_heap o3).1, (cells_of_heap o8).1]
  refine callK_ret (Depth_ret _ d k ⟨_, rfl, hM.ext e⟩ ht) ?_
  rintro _ w1 ⟨rfl, e1⟩
  rw [hp]
  have E1 := e.trans e1
  have d1 : decide (p < 1) = false := by simp; omega
  have d2 : decide (p > 16) = false := by simp; omega
  have x3 := e1.obj o3
  have x6 := e1.obj o6
  have x8 := e1.obj o8
  unfold n_phrasebooklaw05_SchemaGrows_c17
  simp (disch := first | assumption | (simp only [ONE]; done) | rfl | (simp only [SZ]; done) | omega | (simp only [SZ] at *; omega)) only [↓PR, QR, Int.reduceBEq, Int.reduceBNe, Int.reduceLT, Int.reduceLE, Int.reduceGT, Int.reduceGE, Int.reduceNeg, d1]
  have e2 : Ext w1 (w1.alloc (Obj.cells #[.int .i64 p] 3)) := ee
  have o19 := heap_new w1 #[.int .i64 p] 3
  generalize hp19 : w1.heap.size = p19 at o19 ⊢
  generalize (w1.alloc (Obj.cells #[.int .i64 p] 3)) = w2 at e2 o19 ⊢
  have E2 := E1.trans e2
  replace x3 := e2.obj x3
  replace x6 := e2.obj x6
  replace x8 := e2.obj x8
  obtain ⟨A', c', hAv, hlc, hcm, hlm, hel⟩ := SliceOf.open hM
  injection hAv with hA1 _ hc1
  subst hA1 hc1
  obtain ⟨b, o, cs, rfl, hl, hA, fv, rfl, hF⟩ := hel k m hk
  have hf1 := SliceOf.oneCell hF
  have hlk' : (k : Int) < (d.msgs.length : Int) := by omega
  unfold n_phrasebooklaw05_SchemaGrows_c16
  simp (disch := first | assumption | (simp only [ONE]; done) | rfl | (simp only [SZ]; done) | omega | (simp only [SZ] at *; omega)) only [↓PR, QR, Int.reduceBEq, Int.reduceBNe, Int.reduceLT, Int.reduceLE, Int.reduceGT, Int.reduceGE, Int.reduceNeg, (cells_of_heap o19).1, d1, d2]
  unfold n_phrasebooklaw05_SchemaGrows_c15
  simp (disch := first | assumption | (simp only [ONE]; done) | rfl | (simp only [SZ]; done) | omega | (simp only [SZ] at *; omega)) only [↓PR, QR, Int.reduceBEq, Int.reduceBNe, Int.reduceLT, Int.reduceLE, Int.reduceGT, Int.reduceGE, Int.reduceNeg]
  unfold n_phrasebooklaw05_SchemaGrows_c14
  simp (disch := first | assumption | (simp only [ONE]; done) | rfl | (simp only [SZ]; done) | omega | (simp only [SZ] at *; omega)) only [↓PR, QR, Int.reduceBEq, Int.reduceBNe, Int.reduceLT, Int.reduceLE, Int.reduceGT, Int.reduceGE, Int.reduceNeg, (cells_of_heap x3).1, (cells_of_heap x8).1, (hA.c2 E2).1, (hA.c2 E2).2]
  refine callK_ret (Refers_ret w2 _ m ⟨fv, rfl, hF.ext E2⟩ (ht m (List.mem_of_getElem? hk)).1) ?_
  rintro _ w3 ⟨pb, sv, rfl, hSt, hpb, e3⟩
  have E3 := E2.trans e3
  replace x3 := e3.obj x3
  replace x6 := e3.obj x6
  replace x8 := e3.obj x8
  replace o19 := e3.obj o19
  unfold n_phrasebooklaw05_SchemaGrows_c13
  rw [op_eqNilF Try.underlying59]
  simp (disch := first | assumption | (simp only [ONE]; done) | rfl | (simp only [SZ]; done) | omega | (simp only [SZ] at *; omega)) only [↓PR, QR, Int.reduceBEq, Int.reduceBNe, Int.reduceLT, Int.reduceLE, Int.reduceGT, Int.reduceGE, Int.reduceNeg]
  unfold n_phrasebooklaw05_SchemaGrows_c12
  refine ⟨_, _, (refsM m).length, strX (refsM m), fun w => StrsAt w pb sv (allRefs m.fields), fun _ w' => Ext w3 w', fun _ _ => False, fun _ _ => False, rfl, c45, Refers_seq pb sv _, Ext.refl _, fun k w' h => hSt.ext h, fun _ => Lasts.from (Nat.le_refl _), fun _ => Lasts.const _ _, ?_, ?_, ?_, ?_⟩
  · intro rec j w4 hj hI4 hrec hready
    refine ⟨hready, fun w5 hbz => ?_⟩
    have hrec5 := hrec.busied hbz
    have e5 := (Lasts.from (Nat.le_refl w3.heap.size)).busied hbz (Nat.le_succ _) hI4
    clear hI4 hrec hready hbz
    obtain ⟨s, hs⟩ := getElem?_lt hj
    rw [show strX (refsM m) j = .string s by unfold strX; rw [hs]]
    obtain ⟨i, hik, hidx, hany, q, hq, hqp⟩ := hrefs s (List.mem_of_getElem? hs)
    have E5 := E3.trans e5
    simp (disch := first | assumption | (simp only [ONE]; done) | rfl | (simp only [SZ]; done) | omega | (simp only [SZ] at *; omega)) only [↓PR, QR, Int.reduceBEq, Int.reduceBNe, Int.reduceLT, Int.reduceLE, Int.reduceGT, Int.reduceGE, Int.reduceNeg, (cells_of_heap (e5.obj x3)).1]
    refine callK_ret (Find_ret _ _ d s ⟨_, rfl, hM.ext E5⟩) ?_
    rintro _ w6 ⟨rfl, e6⟩
    have E6 := E5.trans e6
    have e56 := e5.trans e6
    rw [hidx, hany]
    unfold n_phrasebooklaw05_SchemaGrows_c9
    simp (disch := first | assumption | (simp only [ONE]; done) | rfl | (simp only [SZ]; done) | omega | (simp only [SZ] at *; omega)) only [↓PR, QR, Int.reduceBEq, Int.reduceBNe, Int.reduceLT, Int.reduceLE, Int.reduceGT, Int.reduceGE, Int.reduceNeg, (cells_of_heap (e56.obj x3)).1]
    refine callK_ret (Depth_ret _ d i ⟨_, rfl, hM.ext E6⟩ ht) ?_
    rintro _ w7 ⟨rfl, e7⟩
    rw [hq]
    have e57 := e56.trans e7
    have d3 : decide ((i : Int) ≥ (k : Int)) = false := by simp; omega
    have d4 : decide (q ≥ p) = false := by simp; omega
    unfold n_phrasebooklaw05_SchemaGrows_c8
    simp (disch := first | assumption | (simp only [ONE]; done) | rfl | (simp only [SZ]; done) | omega | (simp only [SZ] at *; omega)) only [↓PR, QR, Int.reduceBEq, Int.reduceBNe, Int.reduceLT, Int.reduceLE, Int.reduceGT, Int.reduceGE, Int.reduceNeg, (cells_of_heap (e57.obj x8)).1, d3]
    unfold n_phrasebooklaw05_SchemaGrows_c7
    simp (disch := first | assumption | (simp only [ONE]; done) | rfl | (simp only [SZ]; done) | omega | (simp only [SZ] at *; omega)) only [↓PR, QR, Int.reduceBEq, Int.reduceBNe, Int.reduceLT, Int.reduceLE, Int.reduceGT, Int.reduceGE, Int.reduceNeg]
    unfold n_phrasebooklaw05_SchemaGrows_c6
    simp (disch := first | assumption | (simp only [ONE]; done) | rfl | (simp only [SZ]; done) | omega | (simp only [SZ] at *; omega)) only [↓PR, QR, Int.reduceBEq, Int.reduceBNe, Int.reduceLT, Int.reduceLE, Int.reduceGT, Int.reduceGE, Int.reduceNeg, (cells_of_heap (e57.obj o19)).1, d4]
    exact ⟨hrec5.ext (e6.trans e7), e57⟩
  · intro w4 e4 hmk
    unfold n_phrasebooklaw05_SchemaGrows_c11
    refine callK_ret (known_ret _) ?_
    rintro _ w5 ⟨rfl, e5⟩
    have y6 := (e4.trans e5).obj x6
    have E5 := E3.trans (e4.trans e5)
    have h36 : p6 < w3.heap.size := (Array.getElem?_eq_some_iff.1 x6).1
    have s3 := E3.size
    simp (disch := first | assumption | (simp only [ONE]; done) | rfl | (simp only [SZ]; done) | omega | (simp only [SZ] at *; omega)) only [↓PR, QR, Int.reduceBEq, Int.reduceBNe, Int.reduceLT, Int.reduceLE, Int.reduceGT, Int.reduceGE, Int.reduceNeg, (cells_of_heap y6).1, (cells_of_heap y6).2]
    have r6 := heap_set (o := 0) y6 (.bool true)
    simp only [List.setIfInBounds_toArray, List.set_cons_zero] at r6
    refine outX_mark ((hmk.ext e5).setCell _ _) ?_
    have r6' : ((w5.setCell ⟨p6, 0, none⟩ (.bool true)).putObj w3.heap.size (.deferred none)).heap[p6]? = some (.cells #[.bool true] 4 (0, 0)) := (World.putObj_heap_other (by omega)).trans r6
    simp (disch := first | assumption | (simp only [ONE]; done) | rfl | (simp only [SZ]; done) | omega | (simp only [SZ] at *; omega)) only [↓PR, QR, Int.reduceBEq, Int.reduceBNe, Int.reduceLT, Int.reduceLE, Int.reduceGT, Int.reduceGE, Int.reduceNeg, outX_nil, retV, resOne, (cells_of_heap r6').1]
    exact ⟨trivial, (E5.setCell h6 _).putObj (by omega) _⟩
  · rintro c w4 h
    exact h.elim
  · rintro ch w4 h
    exact h.elim
theorem calm_more (ht : calm d) (hk : d.msgs[k]? = some m) (name : ByteArray) : calm { d with msgs := d.msgs ++ [⟨name, m.fields⟩] } := by
  intro x hx
  rcases List.mem_append.1 hx with hx | hx
  · exact ht x hx
  · simp only [List.mem_singleton] at hx
    subst hx
    exact ht m (List.mem_of_getElem? hk)
theorem calm_less (ht : calm d) (n : Nat) : calm { d with msgs := d.msgs.take n } := fun x hx => ht x (List.mem_of_mem_take hx)
theorem lgr_less {w : World} {A : Option Addr} {c p10 lo2 hi2 : Nat} {mv10 : Value} (hv : (checkP d).2.2 = 0) (ht : calm d) (hn : d.msgs.length ≤ 59) (hk : d.msgs[k]? = some m) (e : Ext w0 w) (hM : MsgsOf w0 (.slice A d.msgs.length c) d.msgs)
    (o3 : w.heap[p3]? = some (.cells (defCells d (.slice A d.msgs.length c)).toArray 44 (0, 0))) (o8 : w.heap[p8]? = some (.cells #[.int .i64 (k : Int)] 3 (0, 0))) (o6 : w.heap[p6]? = some (.cells #[.bool false] 4 (0, 0))) (h6 : w0.heap.size ≤ p6)
    (o10 : w.heap[p10]? = some (.cells (defCells d mv10).toArray 44 (0, 0))) (N10 : MsgsN w lo2 hi2 mv10 d.msgs) (h10 : w0.heap.size ≤ p10) (hq : p3 < p10 ∧ p6 < p10 ∧ p8 < p10) :
    n_phrasebooklaw05_SchemaGrows_c21 (.pointer (some ⟨p3, 0, none⟩)) (.pointer (some ⟨p6, 0, none⟩)) (.pointer (some ⟨p8, 0, none⟩)) (.pointer (some ⟨p10, 0, none⟩)) (.int .i64 (d.msgs.length : Int)) [] (retR fun r w' => r = .bool true ∧ Ext w0 w') w := by
  have hlk := (List.getElem?_eq_some_iff.1 hk).1
  obtain ⟨ml, hml⟩ := getElem?_lt (l := d.msgs) (k := d.msgs.length - 1) (by omega)
  obtain ⟨A2, c2, rfl, hlc2, hcm2, hlm2, hel2⟩ := SliceOf.open N10.plain
  obtain ⟨b2, o2, _, rfl, _, _, _⟩ := hel2 k m hk
  obtain ⟨A', c', hAv, hlc, hcm, hlm, hel⟩ := SliceOf.open hM
  injection hAv with hA1 _ hc1
  subst hA1 hc1
  obtain ⟨b, o, cs, rfl, hl, hA, fv, rfl, hF⟩ := hel _ ml hml
  have hsub : IntKind.i64.wrap ((d.msgs.length : Int) - 1) = ((d.msgs.length - 1 : Nat) : Int) := by rw [wrap_ok (by omega) (by omega)]; omega
  have hlt : ((d.msgs.length - 1 : Nat) : Int) < (d.msgs.length : Int) := by omega
  unfold n_phrasebooklaw05_SchemaGrows_c21
  simp (disch := first | assumption | (simp only [ONE]; done) | rfl | (simp only [SZ]; done) | omega | (simp only [SZ] at *; omega)) only [↓PR, QR, Int.reduceBEq, Int.reduceBNe, Int.reduceLT, Int.reduceLE, Int.reduceGT, Int.reduceGE, Int.reduceNeg, (cells_of_heap o10).1, (cells_of_heap o10).2, hsub]
  rw [op_sliceTo Try.underlying42 ty50 b2 o2 d.msgs.length c2 .i64 (d.msgs.length - 1) (by omega)]
  simp (disch := first | assumption | (simp only [ONE]; done) | rfl | (simp only [SZ]; done) | omega | (simp only [SZ] at *; omega)) only [↓PR, QR, Int.reduceBEq, Int.reduceBNe, Int.reduceLT, Int.reduceLE, Int.reduceGT, Int.reduceGE, Int.reduceNeg, (cells_of_heap o10).1, (cells_of_heap o10).2]
  have r10 := heap_set (o := 0 + 1) o10 (.slice (some ⟨b2, o2, none⟩) (d.msgs.length - 1) c2)
  have N10' := N10.only (Only.setCell w p10 (0 + 1) (.slice (some ⟨b2, o2, none⟩) (d.msgs.length - 1) c2)) (.inr (.inr ⟨_, ⟨_, _, o10⟩, by decide⟩))
  have e1 : Ext w0 (w.setCell ⟨p10, 0 + 1, none⟩ (.slice (some ⟨b2, o2, none⟩) (d.msgs.length - 1) c2)) := e.setCell h10 _
  have n36 : ∀ {q : Nat} {ob : Obj}, w.heap[q]? = some ob → q ≠ p10 → (w.setCell ⟨p10, 0 + 1, none⟩ (.slice (some ⟨b2, o2, none⟩) (d.msgs.length - 1) c2)).heap[q]? = some ob := fun h hne => (Only.setCell w p10 _ _ _ hne).trans h
  have x3 := n36 o3 (by omega)
  have x6 := n36 o6 (by omega)
  have x8 := n36 o8 (by omega)
  clear o10 N10 o3 o6 o8 n36
  generalize (w.setCell ⟨p10, 0 + 1, none⟩ (.slice (some ⟨b2, o2, none⟩) (d.msgs.length - 1) c2)) = w1 at *
  refine drawK_intro ?_
  have e2 : Ext w1 w1.drew := (Ext.refl w1).wdrew
  have E2 := e1.trans e2
  have y3 := e2.obj x3
  have y6 := e2.obj x6
  have y8 := e2.obj x8
  clear e
  have r10' : w1.heap[p10]? = some (.cells #[.string d.name, .slice (some ⟨b2, o2, none⟩) (d.msgs.length - 1) c2, .string d.start] 44 (0, 0)) := r10
  unfold n_phrasebooklaw05_SchemaGrows_c20
  by_cases hs : ml.name = d.start
  · have hb : (!decide (ml.name = d.start)) = false := by simp [hs]
    simp (disch := first | assumption | (simp only [ONE]; done) | rfl | (simp only [SZ]; done) | omega | (simp only [SZ] at *; omega)) only [↓PR, QR, Int.reduceBEq, Int.reduceBNe, Int.reduceLT, Int.reduceLE, Int.reduceGT, Int.reduceGE, Int.reduceNeg, (cells_of_heap x3).1, (hA.c2 e1).1, (hA.c2 e1).2, hb, hsub]
    unfold n_phrasebooklaw05_SchemaGrows_c19
    simp (disch := first | assumption | (simp only [ONE]; done) | rfl | (simp only [SZ]; done) | omega | (simp only [SZ] at *; omega)) only [↓PR, QR, Int.reduceBEq, Int.reduceBNe, Int.reduceLT, Int.reduceLE, Int.reduceGT, Int.reduceGE, Int.reduceNeg, hb]
    exact lgr_end hv ht hk E2 hM y3 y8 y6 h6
  · have hb : (!decide (ml.name = d.start)) = true := by simp [hs]
    simp (disch := first | assumption | (simp only [ONE]; done) | rfl | (simp only [SZ]; done) | omega | (simp only [SZ] at *; omega)) only [↓PR, QR, Int.reduceBEq, Int.reduceBNe, Int.reduceLT, Int.reduceLE, Int.reduceGT, Int.reduceGE, Int.reduceNeg, (cells_of_heap x3).1, (hA.c2 e1).1, (hA.c2 e1).2, hb, hsub, (cells_of_heap r10').1]
    refine callK_ret (Valid_ret' _ { d with msgs := d.msgs.take (d.msgs.length - 1) } ⟨_, rfl, sl_front (N10'.ext e2).plain (by omega)⟩ (calm_less ht _)) ?_
    rintro _ w3 ⟨rfl, e3⟩
    have hfl : flawedB { d with msgs := d.msgs.take (d.msgs.length - 1) } = false := by unfold flawedB; simp [grow_less hv hml hs]
    rw [hfl]
    refine ⟨ee, ?_⟩
    simp (disch := first | assumption | (simp only [ONE]; done) | rfl | (simp only [SZ]; done) | omega | (simp only [SZ] at *; omega)) only [↓PR, QR, Int.reduceBEq, Int.reduceBNe, Int.reduceLT, Int.reduceLE, Int.reduceGT, Int.reduceGE, Int.reduceNeg]
    unfold n_phrasebooklaw05_SchemaGrows_c19
    simp (disch := first | assumption | (simp only [ONE]; done) | rfl | (simp only [SZ]; done) | omega | (simp only [SZ] at *; omega)) only [↓PR, QR, Int.reduceBEq, Int.reduceBNe, Int.reduceLT, Int.reduceLE, Int.reduceGT, Int.reduceGE, Int.reduceNeg, hb]
    exact lgr_end hv ht hk (E2.trans e3) hM (e3.obj y3) (e3.obj y8) (e3.obj y6) h6
theorem lgr_valid {w : World} {A : Option Addr} {c p9 p10 lo2 hi2 : Nat} {v9 mv10 : Value} {name : ByteArray} (hv : (checkP d).2.2 = 0) (ht : calm d) (hn : d.msgs.length ≤ 59) (hk : d.msgs[k]? = some m) (e : Ext w0 w) (hM : MsgsOf w0 (.slice A d.msgs.length c) d.msgs)
    (o3 : w.heap[p3]? = some (.cells (defCells d (.slice A d.msgs.length c)).toArray 44 (0, 0))) (o8 : w.heap[p8]? = some (.cells #[.int .i64 (k : Int)] 3 (0, 0))) (o6 : w.heap[p6]? = some (.cells #[.bool false] 4 (0, 0))) (h6 : w0.heap.size ≤ p6)
    (o9 : w.heap[p9]? = some (.cells (defCells { d with msgs := d.msgs ++ [⟨name, m.fields⟩] } v9).toArray 44 (0, 0))) (N9 : MsgsOf w v9 (d.msgs ++ [⟨name, m.fields⟩]))
    (o10 : w.heap[p10]? = some (.cells (defCells d mv10).toArray 44 (0, 0))) (N10 : MsgsN w lo2 hi2 mv10 d.msgs) (h10 : w0.heap.size ≤ p10) (hq : p3 < p10 ∧ p6 < p10 ∧ p8 < p10) :
    n_phrasebooklaw05_SchemaGrows_c27 (.string name) (.pointer (some ⟨p3, 0, none⟩)) (.pointer (some ⟨p6, 0, none⟩)) (.pointer (some ⟨p8, 0, none⟩)) (.pointer (some ⟨p9, 0, none⟩)) (.pointer (some ⟨p10, 0, none⟩)) (.int .i64 (d.msgs.length : Int)) [] (retR fun r w' => r = .bool true ∧ Ext w0 w') w := by
  unfold n_phrasebooklaw05_SchemaGrows_c27
  simp (disch := first | assumption | (simp only [ONE]; done) | rfl | (simp only [SZ]; done) | omega | (simp only [SZ] at *; omega)) only [↓PR, QR, Int.reduceBEq, Int.reduceBNe, Int.reduceLT, Int.reduceLE, Int.reduceGT, Int.reduceGE, Int.reduceNeg, (cells_of_heap o3).1]
  refine callK_ret (Find_ret _ _ d name ⟨_, rfl, hM.ext e⟩) ?_
  rintro _ w1 ⟨rfl, e1⟩
  unfold n_phrasebooklaw05_SchemaGrows_c25
  simp (disch := first | assumption | (simp only [ONE]; done) | rfl | (simp only [SZ]; done) | omega | (simp only [SZ] at *; omega)) only [↓PR, QR, Int.reduceBEq, Int.reduceBNe, Int.reduceLT, Int.reduceLE, Int.reduceGT, Int.reduceGE, Int.reduceNeg]
  refine callK_ret (rName_ret _ name) ?_
  rintro _ w2 ⟨rfl, e2⟩
  have f2 := e1.trans e2
  have E2 := e.trans f2
  have hrest : ∀ w', Ext w2 w' → n_phrasebooklaw05_SchemaGrows_c21 (.pointer (some ⟨p3, 0, none⟩)) (.pointer (some ⟨p6, 0, none⟩)) (.pointer (some ⟨p8, 0, none⟩)) (.pointer (some ⟨p10, 0, none⟩)) (.int .i64 (d.msgs.length : Int)) [] (retR fun r w' => r = .bool true ∧ Ext w0 w') w' := fun w' e' =>
    lgr_less hv ht hn hk (E2.trans e') hM ((f2.trans e').obj o3) ((f2.trans e').obj o8) ((f2.trans e').obj o6) h6 ((f2.trans e').obj o10) (N10.ext (f2.trans e')) h10 hq
  unfold n_phrasebooklaw05_SchemaGrows_c24
  cases hb : nameB name with
  | false =>
    simp (disch := first | assumption | (simp only [ONE]; done) | rfl | (simp only [SZ]; done) | omega | (simp only [SZ] at *; omega)) only [↓PR, QR, Int.reduceBEq, Int.reduceBNe, Int.reduceLT, Int.reduceLE, Int.reduceGT, Int.reduceGE, Int.reduceNeg]
    unfold n_phrasebooklaw05_SchemaGrows_c23
    simp (disch := first | assumption | (simp only [ONE]; done) | rfl | (simp only [SZ]; done) | omega | (simp only [SZ] at *; omega)) only [↓PR, QR, Int.reduceBEq, Int.reduceBNe, Int.reduceLT, Int.reduceLE, Int.reduceGT, Int.reduceGE, Int.reduceNeg]
    unfold n_phrasebooklaw05_SchemaGrows_c22
    simp (disch := first | assumption | (simp only [ONE]; done) | rfl | (simp only [SZ]; done) | omega | (simp only [SZ] at *; omega)) only [↓PR, QR, Int.reduceBEq, Int.reduceBNe, Int.reduceLT, Int.reduceLE, Int.reduceGT, Int.reduceGE, Int.reduceNeg]
    exact hrest _ (Ext.refl _)
  | true =>
    cases ha : d.msgs.any (fun m => decide (m.name = name)) with
    | true =>
      simp (disch := first | assumption | (simp only [ONE]; done) | rfl | (simp only [SZ]; done) | omega | (simp only [SZ] at *; omega)) only [↓PR, QR, Int.reduceBEq, Int.reduceBNe, Int.reduceLT, Int.reduceLE, Int.reduceGT, Int.reduceGE, Int.reduceNeg]
      unfold n_phrasebooklaw05_SchemaGrows_c23
      simp (disch := first | assumption | (simp only [ONE]; done) | rfl | (simp only [SZ]; done) | omega | (simp only [SZ] at *; omega)) only [↓PR, QR, Int.reduceBEq, Int.reduceBNe, Int.reduceLT, Int.reduceLE, Int.reduceGT, Int.reduceGE, Int.reduceNeg]
      unfold n_phrasebooklaw05_SchemaGrows_c22
      simp (disch := first | assumption | (simp only [ONE]; done) | rfl | (simp only [SZ]; done) | omega | (simp only [SZ] at *; omega)) only [↓PR, QR, Int.reduceBEq, Int.reduceBNe, Int.reduceLT, Int.reduceLE, Int.reduceGT, Int.reduceGE, Int.reduceNeg]
      exact hrest _ (Ext.refl _)
    | false =>
      have hnew : ∀ m ∈ d.msgs, m.name ≠ name := by
        intro m' hm' hne
        rw [List.any_eq_false] at ha
        exact ha m' hm' (by simpa using hne)
      have hfl : flawedB { d with msgs := d.msgs ++ [⟨name, m.fields⟩] } = false := by unfold flawedB; simp [grow_more hv hn hk hb hnew]
      simp (disch := first | assumption | (simp only [ONE]; done) | rfl | (simp only [SZ]; done) | omega | (simp only [SZ] at *; omega)) only [↓PR, QR, Int.reduceBEq, Int.reduceBNe, Int.reduceLT, Int.reduceLE, Int.reduceGT, Int.reduceGE, Int.reduceNeg]
      unfold n_phrasebooklaw05_SchemaGrows_c23
      simp (disch := first | assumption | (simp only [ONE]; done) | rfl | (simp only [SZ]; done) | omega | (simp only [SZ] at *; omega)) only [↓PR, QR, Int.reduceBEq, Int.reduceBNe, Int.reduceLT, Int.reduceLE, Int.reduceGT, Int.reduceGE, Int.reduceNeg, (cells_of_heap (f2.obj o9)).1]
      refine callK_ret (Valid_ret' _ { d with msgs := d.msgs ++ [⟨name, m.fields⟩] } ⟨_, rfl, N9.ext f2⟩ (calm_more ht hk _)) ?_
      rintro _ w3 ⟨rfl, e3⟩
      rw [hfl]
      simp (disch := first | assumption | (simp only [ONE]; done) | rfl | (simp only [SZ]; done) | omega | (simp only [SZ] at *; omega)) only [↓PR, QR, Int.reduceBEq, Int.reduceBNe, Int.reduceLT, Int.reduceLE, Int.reduceGT, Int.reduceGE, Int.reduceNeg]
      unfold n_phrasebooklaw05_SchemaGrows_c22
      simp (disch := first | assumption | (simp only [ONE]; done) | rfl | (simp only [SZ]; done) | omega | (simp only [SZ] at *; omega)) only [↓PR, QR, Int.reduceBEq, Int.reduceBNe, Int.reduceLT, Int.reduceLE, Int.reduceGT, Int.reduceGE, Int.reduceNeg]
      exact hrest _ e3
theorem lgr_flawed {w : World} {A : Option Addr} {c p9 p13 : Nat} {v9 : Value} {name : ByteArray} (hv : (checkP d).2.2 ≠ 0) (ht : calm d) (hn : d.msgs.length ≤ 59) (hk : d.msgs[k]? = some m) (e : Ext w0 w) (hM : MsgsOf w0 (.slice A d.msgs.length c) d.msgs)
    (o3 : w.heap[p3]? = some (.cells (defCells d (.slice A d.msgs.length c)).toArray 44 (0, 0))) (o6 : w.heap[p6]? = some (.cells #[.bool false] 4 (0, 0))) (h6 : w0.heap.size ≤ p6)
    (o9 : w.heap[p9]? = some (.cells (defCells { d with msgs := d.msgs ++ [⟨name, m.fields⟩] } v9).toArray 44 (0, 0))) (N9 : MsgsOf w v9 (d.msgs ++ [⟨name, m.fields⟩]))
    (o13 : w.heap[p13]? = some (.cells #[.int .i64 (checkP d).1, .int .i64 (checkP d).2.1, .int .i64 (checkP d).2.2] 68 (0, 0))) :
    n_phrasebooklaw05_SchemaGrows_c26 (.pointer (some ⟨p3, 0, none⟩)) (.pointer (some ⟨p6, 0, none⟩)) (.pointer (some ⟨p9, 0, none⟩)) (.pointer (some ⟨p13, 0, none⟩)) [] (retR fun r w' => r = .bool true ∧ Ext w0 w') w := by
  unfold n_phrasebooklaw05_SchemaGrows_c26
  simp (disch := first | assumption | (simp only [ONE]; done) | rfl | (simp only [SZ]; done) | omega | (simp only [SZ] at *; omega)) only [↓PR, QR, Int.reduceBEq, Int.reduceBNe, Int.reduceLT, Int.reduceLE, Int.reduceGT, Int.reduceGE, Int.reduceNeg, (cells_of_heap o9).1]
  refine callK_ret (Check_ret _ { d with msgs := d.msgs ++ [⟨name, m.fields⟩] } ⟨_, rfl, N9⟩ (calm_more ht hk _)) ?_
  rintro _ w1 ⟨rfl, e1⟩
  have hfl : flawedB d = true := by unfold flawedB; simp [hv]
  have hrest : ∀ w', Ext w1 w' → n_phrasebooklaw05_SchemaGrows_c2 (.pointer (some ⟨p3, 0, none⟩)) (.pointer (some ⟨p6, 0, none⟩)) (.bool true) (.bool true) [] (retR fun r w' => r = .bool true ∧ Ext w0 w') w' := by
    intro w2 e2
    have f2 := e1.trans e2
    have E2 := e.trans f2
    unfold n_phrasebooklaw05_SchemaGrows_c2
    simp (disch := first | assumption | (simp only [ONE]; done) | rfl | (simp only [SZ]; done) | omega | (simp only [SZ] at *; omega)) only [↓PR, QR, Int.reduceBEq, Int.reduceBNe, Int.reduceLT, Int.reduceLE, Int.reduceGT, Int.reduceGE, Int.reduceNeg, (cells_of_heap (f2.obj o3)).1]
    refine callK_ret (Valid_ret' _ d ⟨_, rfl, hM.ext E2⟩ ht) ?_
    rintro _ w3 ⟨rfl, e3⟩
    rw [hfl]
    simp (disch := first | assumption | (simp only [ONE]; done) | rfl | (simp only [SZ]; done) | omega | (simp only [SZ] at *; omega)) only [↓PR, QR, Int.reduceBEq, Int.reduceBNe, Int.reduceLT, Int.reduceLE, Int.reduceGT, Int.reduceGE, Int.reduceNeg]
    unfold n_phrasebooklaw05_SchemaGrows_c1
    simp (disch := first | assumption | (simp only [ONE]; done) | rfl | (simp only [SZ]; done) | omega | (simp only [SZ] at *; omega)) only [↓PR, QR, Int.reduceBEq, Int.reduceBNe, Int.reduceLT, Int.reduceLE, Int.reduceGT, Int.reduceGE, Int.reduceNeg]
    refine callK_ret (known_ret _) ?_
    rintro _ w4 ⟨rfl, e4⟩
    have y6 := (f2.trans (e3.trans e4)).obj o6
    simp (disch := first | assumption | (simp only [ONE]; done) | rfl | (simp only [SZ]; done) | omega | (simp only [SZ] at *; omega)) only [↓PR, QR, Int.reduceBEq, Int.reduceBNe, Int.reduceLT, Int.reduceLE, Int.reduceGT, Int.reduceGE, Int.reduceNeg, (cells_of_heap y6).1, (cells_of_heap y6).2, outX_nil, retV, resOne, (cells_of_heap (heap_set (o := 0) y6 (.bool true))).1]
    exact ⟨trivial, (E2.trans (e3.trans e4)).setCell h6 _⟩
  unfold n_phrasebooklaw05_SchemaGrows_c5
  have l13 : p13 < w1.heap.size := (Array.getElem?_eq_some_iff.1 (e1.obj o13)).1
  by_cases hneg : (checkP d).1 < 0
  · have d1 : decide ((checkP d).1 < 0) = true := by simpa using hneg
    simp (disch := first | assumption | (simp only [ONE]; done) | rfl | (simp only [SZ]; done) | omega | (simp only [SZ] at *; omega)) only [↓PR, QR, Int.reduceBEq, Int.reduceBNe, Int.reduceLT, Int.reduceLE, Int.reduceGT, Int.reduceGE, Int.reduceNeg, (cells_of_heap (e1.obj o13)).1, d1]
    unfold n_phrasebooklaw05_SchemaGrows_c4
    simp (disch := first | assumption | (simp only [ONE]; done) | rfl | (simp only [SZ]; done) | omega | (simp only [SZ] at *; omega)) only [↓PR, QR, Int.reduceBEq, Int.reduceBNe, Int.reduceLT, Int.reduceLE, Int.reduceGT, Int.reduceGE, Int.reduceNeg]
    unfold n_phrasebooklaw05_SchemaGrows_c3
    simp (disch := first | assumption | (simp only [ONE]; done) | rfl | (simp only [SZ]; done) | omega | (simp only [SZ] at *; omega)) only [↓PR, QR, Int.reduceBEq, Int.reduceBNe, Int.reduceLT, Int.reduceLE, Int.reduceGT, Int.reduceGE, Int.reduceNeg]
    exact hrest _ ee
  · have d1 : decide ((checkP d).1 < 0) = false := by simpa using hneg
    rw [(grow_flaw hn [⟨name, m.fields⟩] rfl hv).resolve_left hneg, show flawedB { d with msgs := d.msgs ++ [⟨name, m.fields⟩] } = true by unfold flawedB; rw [(grow_flaw hn [⟨name, m.fields⟩] rfl hv).resolve_left hneg]; exact hfl]
    have hsame : ∀ x : Int, decide (x = x) = true := fun x => by simp
    simp (disch := first | assumption | (simp only [ONE]; done) | rfl | (simp only [SZ]; done) | omega | (simp only [SZ] at *; omega)) only [↓PR, QR, Int.reduceBEq, Int.reduceBNe, Int.reduceLT, Int.reduceLE, Int.reduceGT, Int.reduceGE, Int.reduceNeg, (cells_of_heap (e1.obj o13)).1, d1]
    unfold n_phrasebooklaw05_SchemaGrows_c4
    simp (disch := first | assumption | (simp only [ONE]; done) | rfl | (simp only [SZ]; done) | omega | (simp only [SZ] at *; omega)) only [↓PR, QR, Int.reduceBEq, Int.reduceBNe, Int.reduceLT, Int.reduceLE, Int.reduceGT, Int.reduceGE, Int.reduceNeg, (cells_of_heap (e1.obj o13)).1, hsame, Bool.and_self]
    unfold n_phrasebooklaw05_SchemaGrows_c3
    simp (disch := first | assumption | (simp only [ONE]; done) | rfl | (simp only [SZ]; done) | omega | (simp only [SZ] at *; omega)) only [↓PR, QR, Int.reduceBEq, Int.reduceBNe, Int.reduceLT, Int.reduceLE, Int.reduceGT, Int.reduceGE, Int.reduceNeg]
    exact hrest _ ee
theorem lgr_check {w : World} {A : Option Addr} {c p9 p10 lo2 hi2 : Nat} {v9 mv10 : Value} {name : ByteArray} (ht : calm d) (hn : d.msgs.length ≤ 59) (hk : d.msgs[k]? = some m) (e : Ext w0 w) (hM : MsgsOf w0 (.slice A d.msgs.length c) d.msgs)
    (o3 : w.heap[p3]? = some (.cells (defCells d (.slice A d.msgs.length c)).toArray 44 (0, 0))) (o8 : w.heap[p8]? = some (.cells #[.int .i64 (k : Int)] 3 (0, 0))) (o6 : w.heap[p6]? = some (.cells #[.bool false] 4 (0, 0))) (h6 : w0.heap.size ≤ p6)
    (o9 : w.heap[p9]? = some (.cells (defCells { d with msgs := d.msgs ++ [⟨name, m.fields⟩] } v9).toArray 44 (0, 0))) (N9 : MsgsOf w v9 (d.msgs ++ [⟨name, m.fields⟩]))
    (o10 : w.heap[p10]? = some (.cells (defCells d mv10).toArray 44 (0, 0))) (N10 : MsgsN w lo2 hi2 mv10 d.msgs) (h10 : w0.heap.size ≤ p10) (hq : p3 < p10 ∧ p6 < p10 ∧ p8 < p10) :
    callK Try.prog 26 #[.agg (defCells d (.slice A d.msgs.length c)).toArray] (outQ Try.prog [] [(some 4, .pointer (some ⟨p6, 0, none⟩))] (retR fun r w' => r = .bool true ∧ Ext w0 w')) w fun t90 w =>
      n_phrasebooklaw05_SchemaGrows_c28 (.string name) (.pointer (some ⟨p3, 0, none⟩)) (.pointer (some ⟨p6, 0, none⟩)) (.pointer (some ⟨p8, 0, none⟩)) (.pointer (some ⟨p9, 0, none⟩)) (.pointer (some ⟨p10, 0, none⟩)) (.int .i64 (d.msgs.length : Int)) t90 [] (retR fun r w' => r = .bool true ∧ Ext w0 w') w := by
  refine callK_ret (Check_ret _ d ⟨_, rfl, hM.ext e⟩ ht) ?_
  rintro _ w1 ⟨rfl, e1⟩
  have e2 : Ext w1 (w1.alloc (Obj.cells #[.int .i64 (checkP d).1, .int .i64 (checkP d).2.1, .int .i64 (checkP d).2.2] 68)) := ee
  have o13 := heap_new w1 #[.int .i64 (checkP d).1, .int .i64 (checkP d).2.1, .int .i64 (checkP d).2.2] 68
  have f2 := e1.trans e2
  unfold n_phrasebooklaw05_SchemaGrows_c28
  by_cases hv : (checkP d).2.2 = 0
  · rw [show flawedB d = false by unfold flawedB; simp [hv]]
    simp (disch := first | assumption | (simp only [ONE]; done) | rfl | (simp only [SZ]; done) | omega | (simp only [SZ] at *; omega)) only [↓PR, QR, Int.reduceBEq, Int.reduceBNe, Int.reduceLT, Int.reduceLE, Int.reduceGT, Int.reduceGE, Int.reduceNeg]
    exact lgr_valid hv ht hn hk (e.trans f2) hM (f2.obj o3) (f2.obj o8) (f2.obj o6) h6 (f2.obj o9) (N9.ext f2) (f2.obj o10) (N10.ext f2) h10 hq
  · rw [show flawedB d = true by unfold flawedB; simp [hv]]
    simp (disch := first | assumption | (simp only [ONE]; done) | rfl | (simp only [SZ]; done) | omega | (simp only [SZ] at *; omega)) only [↓PR, QR, Int.reduceBEq, Int.reduceBNe, Int.reduceLT, Int.reduceLE, Int.reduceGT, Int.reduceGE, Int.reduceNeg]
    exact lgr_flawed hv ht hn hk (e.trans f2) hM (f2.obj o3) (f2.obj o6) h6 (f2.obj o9) (N9.ext f2) o13
theorem save_grown {w w' : World} {g : Nat} (h : w.grownBy w' (some g)) : Save g (g + 1) w w' := ⟨h.os, h.tape, h.output, h.size, fun k hk hb => h.block k hk (fun e => by injection e with e; omega)⟩
theorem lgr_mid {W w : World} {name : ByteArray} {A : Option Addr} {c p9 p10 lo hi lo2 hi2 : Nat} {mv9 mv10 : Value} (ht : calm d) (htm : tame d) (hn : d.msgs.length ≤ 59) (hk : d.msgs[k]? = some m) (e0 : Ext w0 W) (e : Ext W w) (hM : MsgsOf w0 (.slice A d.msgs.length c) d.msgs)
    (o3 : W.heap[p3]? = some (.cells (defCells d (.slice A d.msgs.length c)).toArray 44 (0, 0))) (o8 : W.heap[p8]? = some (.cells #[.int .i64 (k : Int)] 3 (0, 0))) (o6 : W.heap[p6]? = some (.cells #[.bool false] 4 (0, 0))) (h6 : w0.heap.size ≤ p6)
    (hlo : W.heap.size ≤ lo) (hlo2 : W.heap.size ≤ lo2) (hhi : hi ≤ w.heap.size) (N9 : MsgsN w lo hi mv9 d.msgs) (N10 : MsgsN w lo2 hi2 mv10 d.msgs) (hd : hi2 ≤ lo ∨ hi ≤ lo2) (g9 : W.heap.size ≤ p9) (g10 : W.heap.size ≤ p10) (hne : p9 ≠ p10)
    (o9 : w.heap[p9]? = some (.cells (defCells d mv9).toArray 44 (0, 0))) (o10 : w.heap[p10]? = some (.cells (defCells d mv10).toArray 44 (0, 0))) :
    n_phrasebooklaw05_SchemaGrows_c33 (.string name) (.pointer (some ⟨p3, 0, none⟩)) (.pointer (some ⟨p6, 0, none⟩)) (.pointer (some ⟨p8, 0, none⟩)) (.pointer (some ⟨p9, 0, none⟩)) (.pointer (some ⟨p10, 0, none⟩)) (.int .i64 (d.msgs.length : Int)) [] (retR fun r w' => r = .bool true ∧ Ext w0 w') w := by
  have hlk := (List.getElem?_eq_some_iff.1 hk).1
  have l3 : p3 < W.heap.size := (Array.getElem?_eq_some_iff.1 o3).1
  have l6 : p6 < W.heap.size := (Array.getElem?_eq_some_iff.1 o6).1
  have l8 : p8 < W.heap.size := (Array.getElem?_eq_some_iff.1 o8).1
  have E := e0.trans e
  obtain ⟨A', c', hAv, hlc, hcm, hlm, hel⟩ := SliceOf.open hM
  injection hAv with hA1 _ hc1
  subst hA1 hc1
  obtain ⟨b, o, cs, rfl, _, _, _⟩ := hel k m hk
  have hk1 : IntKind.i64.wrap ((k : Int) + 1) = ((k + 1 : Nat) : Int) := by rw [wrap_ok (by omega) (by omega)]; omega
  obtain ⟨A9, c9, hv9, _⟩ := SliceOf.open N9.plain
  obtain ⟨A10, c10, hv10, _⟩ := SliceOf.open N10.plain
  unfold n_phrasebooklaw05_SchemaGrows_c33
  simp (disch := first | assumption | (simp only [ONE]; done) | rfl | (simp only [SZ]; done) | omega | (simp only [SZ] at *; omega)) only [↓PR, QR, Int.reduceBEq, Int.reduceBNe, Int.reduceLT, Int.reduceLE, Int.reduceGT, Int.reduceGE, Int.reduceNeg, (cells_of_heap (e.obj o3)).1, (cells_of_heap (e.obj o8)).1, hk1]
  rw [op_sliceLH Try.underlying42 ty50 b o d.msgs.length c .i64 .i64 k (k + 1) (by omega) (by omega) (by omega)]
  rw [show k + 1 - k = 1 by omega]
  simp (disch := first | assumption | (simp only [ONE]; done) | rfl | (simp only [SZ]; done) | omega | (simp only [SZ] at *; omega)) only [↓PR, QR, Int.reduceBEq, Int.reduceBNe, Int.reduceLT, Int.reduceLE, Int.reduceGT, Int.reduceGE, Int.reduceNeg]
  refine callK_ret (Copy_ret w _ (oneD m) ⟨_, rfl, sl_one (hM.ext E) hk⟩ ⟨by simp [oneD], fun x hx => by simp [oneD] at hx; subst hx; exact htm.2 _ (List.mem_of_getElem? hk)⟩) ?_
  rintro _ w1 ⟨⟨mv3, rfl, hMN⟩, e1⟩
  obtain ⟨g3, cap3, fv3, rfl, hcap, hc0, hc1, hFN⟩ := one_own hMN
  have hf1 : fv3.oneCell' = true := SliceOf.oneCell hFN.plain
  have s1 := e1.size
  have x9 := e1.obj o9
  have x10 := e1.obj o10
  have l9 : p9 < w1.heap.size := (Array.getElem?_eq_some_iff.1 x9).1
  have l10 : p10 < w1.heap.size := (Array.getElem?_eq_some_iff.1 x10).1
  have hnn : ((d.msgs.length : Int) != (d.msgs.length : Int)) = false := by simp
  have hn1 : ((((1 : Nat) : Int)) != 1) = false := rfl
  subst hv9 hv10
  unfold n_phrasebooklaw05_SchemaGrows_c32
  simp (disch := first | assumption | (simp only [ONE]; done) | rfl | (simp only [SZ]; done) | omega | (simp only [SZ] at *; omega)) only [↓PR, QR, Int.reduceBEq, Int.reduceBNe, Int.reduceLT, Int.reduceLE, Int.reduceGT, Int.reduceGE, Int.reduceNeg, (cells_of_heap x9).1, (cells_of_heap x10).1, hnn]
  unfold n_phrasebooklaw05_SchemaGrows_c31
  simp (disch := first | assumption | (simp only [ONE]; done) | rfl | (simp only [SZ]; done) | omega | (simp only [SZ] at *; omega)) only [↓PR, QR, Int.reduceBEq, Int.reduceBNe, Int.reduceLT, Int.reduceLE, Int.reduceGT, Int.reduceGE, Int.reduceNeg, hn1]
  unfold n_phrasebooklaw05_SchemaGrows_c30
  simp (disch := first | assumption | (simp only [ONE]; done) | rfl | (simp only [SZ]; done) | omega | (simp only [SZ] at *; omega)) only [↓PR, QR, Int.reduceBEq, Int.reduceBNe, Int.reduceLT, Int.reduceLE, Int.reduceGT, Int.reduceGE, Int.reduceNeg]
  have eC : Ext w1 (w1.alloc (Obj.cells (defCells (oneD m) (.slice (some ⟨g3, 0, none⟩) 1 cap3)).toArray 44)) := ee
  have o11 := heap_new w1 (defCells (oneD m) (.slice (some ⟨g3, 0, none⟩) 1 cap3)).toArray 44
  replace hc0 := eC.cell hc0
  replace hc1 := eC.cell hc1
  have sC := eC.size
  have z9 := eC.obj x9
  have z10 := eC.obj x10
  have e2 := e1.trans eC
  have F3 := hFN.ext eC
  unfold n_phrasebooklaw05_SchemaGrows_c29
  show opV _ _ _ (w1.alloc (Obj.cells (defCells (oneD m) (.slice (some ⟨g3, 0, none⟩) 1 cap3)).toArray 44)) _
  generalize w1.heap.size = p11 at o11 F3 ⊢
  generalize (w1.alloc (Obj.cells (defCells (oneD m) (.slice (some ⟨g3, 0, none⟩) 1 cap3)).toArray 44)) = w2 at *
  simp (disch := first | assumption | (simp only [ONE]; done) | rfl | (simp only [SZ]; done) | omega | (simp only [SZ] at *; omega)) only [↓PR, QR, Int.reduceBEq, Int.reduceBNe, Int.reduceLT, Int.reduceLE, Int.reduceGT, Int.reduceGE, Int.reduceNeg, (cells_of_heap o11).1, ↓idxM1, hc0, hc1, (cells_of_heap z9).1]
  have eA : Ext w2 ((w2.alloc (Obj.cells #[.string name, fv3] TM)).alloc (Obj.cells #[.string name, fv3] TM)) := ee
  have oA := heap_new (w2.alloc (Obj.cells #[.string name, fv3] TM)) #[.string name, fv3] TM
  rw [World.size_alloc] at oA
  have sA : w2.heap.size ≤ ((w2.alloc (Obj.cells #[.string name, fv3] TM)).alloc (Obj.cells #[.string name, fv3] TM)).heap.size := eA.size
  have l11 : p11 < w2.heap.size := (Array.getElem?_eq_some_iff.1 o11).1
  have F4 := F3.ext eA
  replace z9 := eA.obj z9
  replace z10 := eA.obj z10
  have e3 := e2.trans eA
  have s3 := e3.size
  have sW := e.size
  have s0 := e0.size
  generalize w2.heap.size + 1 = bA at oA ⊢
  generalize ((w2.alloc (Obj.cells #[.string name, fv3] TM)).alloc (Obj.cells #[.string name, fv3] TM)) = w3 at *
  obtain ⟨css, hO9, hm9⟩ := N9.ext e3
  have hl9 : css.length = d.msgs.length := hm9.1
  obtain ⟨gr, capr, curr, hvr, hbr, hcr, _⟩ := hO9.1.2.resolve_left (fun h => by have h2 : css.length = 0 := h.2; omega)
  have hgr : gr < hi := hO9.2 gr (by rw [hvr]; rfl)
  refine op_appendL (l' := [(⟨[.string name, fv3], rfl⟩ : Cs 2)]) (b := bA) (o := 0) (c := 1) Try.underlying42 ty50 rfl (by decide) (fun x => x.2) (fun x hx u hu => ?_) hO9.1 (fun j x hx => ?_) (by omega) (by simp) (Nat.le_trans (Nat.mul_le_mul (show css.length + 1 ≤ 60 by omega) by50) (by decide)) (by simp; omega) ?_
  · simp only [List.mem_singleton] at hx
    subst hx
    simp only [List.mem_cons, List.not_mem_nil, or_false] at hu
    rcases hu with rfl | rfl
    · rfl
    · exact hf1
  · cases j with
    | succ j => cases hx
    | zero =>
      injection hx with hx
      subst hx
      intro j v hv
      rw [(cells_of_heap oA).1]
      simpa using hv
  rintro g cap w4 hown hg hgl hlt
  have hg' : w3.grownBy w4 (some gr) := by rw [hvr] at hg; exact hg
  have sv := save_grown hg'
  have aw : ∀ lo' hi', Away w3 lo' hi' gr (gr + 1) [TT, TC, TF] := fun _ _ => .inr (.inr ⟨rfl, TM, ⟨curr, _, hcr⟩, by decide⟩)
  have s4 := sv.size
  have N9' : MsgsN w4 lo w4.heap.size (.slice (some ⟨g, 0, none⟩) (css.length + 1) cap) (d.msgs ++ [⟨name, m.fields⟩]) := by
    refine ⟨css ++ [⟨[.string name, fv3], rfl⟩], ⟨hown, fun b hb => Option.some.inj (show some g = some b from hb) ▸ hlt⟩, by simp [hl9], fun j x cs hx hcs => ?_⟩
    by_cases hj : j < d.msgs.length
    · rw [List.getElem?_append_left hj] at hx
      rw [List.getElem?_append_left (by omega)] at hcs
      obtain ⟨fv, h1, h2⟩ := hm9.2 j x cs hx hcs
      exact ⟨fv, h1, (fields_save h2 sv (aw _ _)).mono (Nat.le_refl _) (by omega)⟩
    · rw [List.getElem?_append_right (by omega)] at hx
      rw [List.getElem?_append_right (by omega)] at hcs
      rw [hl9] at hcs
      have hj0 : j - d.msgs.length = 0 := by
        have := (List.getElem?_eq_some_iff.1 hx).1
        simp at this; omega
      rw [hj0] at hx hcs
      injection hx with hx
      injection hcs with hcs
      subst hx hcs
      exact ⟨fv3, rfl, (fields_save F4 sv (aw _ _)).mono (by omega) (by omega)⟩
  have N10' := msgs_save (N10.ext e3) sv (hd.imp (fun h => by omega) (fun h => .inl (by omega)))
  have n9 : p9 ≠ gr := by rintro rfl; rw [hcr] at z9; injection z9 with z9; injection z9 with _ z9 _; exact absurd z9 (by decide)
  have n10 : p10 ≠ gr := by rintro rfl; rw [hcr] at z10; injection z10 with z10; injection z10 with _ z10 _; exact absurd z10 (by decide)
  have y9 := sv.obj z9 (by omega)
  have y10 := sv.obj z10 (by omega)
  have EW : Ext W w4 := (e.trans e3).grown hg' (fun k hk => by injection hk with hk; omega)
  have o9' := heap_set (o := 0 + 1) y9 (.slice (some ⟨g, 0, none⟩) (css.length + 1) cap)
  have N9'' := N9'.only (Only.setCell w4 p9 (0 + 1) (.slice (some ⟨g, 0, none⟩) (css.length + 1) cap)) (.inr (.inr ⟨_, ⟨_, _, y9⟩, by decide⟩))
  have N10'' := N10'.only (Only.setCell w4 p9 (0 + 1) (.slice (some ⟨g, 0, none⟩) (css.length + 1) cap)) (.inr (.inr ⟨_, ⟨_, _, y9⟩, by decide⟩))
  have y10' := (Only.setCell w4 p9 (0 + 1) (.slice (some ⟨g, 0, none⟩) (css.length + 1) cap) p10 (Ne.symm hne)).trans y10
  have EW' : Ext W (w4.setCell ⟨p9, 0 + 1, none⟩ (.slice (some ⟨g, 0, none⟩) (css.length + 1) cap)) := EW.setCell g9 _
  have l39 : p3 ≠ p9 := by omega
  simp (disch := first | assumption | (simp only [ONE]; done) | rfl | (simp only [SZ]; done) | omega | (simp only [SZ] at *; omega)) only [↓PR, QR, Int.reduceBEq, Int.reduceBNe, Int.reduceLT, Int.reduceLE, Int.reduceGT, Int.reduceGE, Int.reduceNeg, (cells_of_heap y9).1, (cells_of_heap y9).2, (cells_of_heap (EW.obj o3)).1]
  exact lgr_check ht hn hk (e0.trans EW') hM (EW'.obj o3) (EW'.obj o8) (EW'.obj o6) h6 o9' N9''.plain y10' N10'' (by omega) ⟨by omega, by omega, by omega⟩
end
section
variable {W : World} {a : DefD} {mva t6 : Value} {R : Ending → World → Prop}
set_option maxHeartbeats 4000000 in
theorem lgr_region {K : Value → Value → World → Prop} (hA : MsgsOf W mva a.msgs) (ht : tame a)
    (hK : ∀ w mv9 mv10 lo hi lo2 hi2 p9 p10, Ext W w → W.heap.size ≤ lo → W.heap.size ≤ lo2 → hi ≤ w.heap.size → MsgsN w lo hi mv9 a.msgs → MsgsN w lo2 hi2 mv10 a.msgs → (hi2 ≤ lo ∨ hi ≤ lo2) → W.heap.size ≤ p9 → W.heap.size ≤ p10 → p9 ≠ p10 → w.heap[p9]? = some (.cells (defCells a mv9).toArray 44 (0, 0)) → w.heap[p10]? = some (.cells (defCells a mv10).toArray 44 (0, 0)) → K (.pointer (some ⟨p9, 0, none⟩)) (.pointer (some ⟨p10, 0, none⟩)) w) :
    (callK Try.prog 23 #[.agg (defCells a mva).toArray] (outQ Try.prog [] [(some 4, t6)] R) W fun t47 w => EC W w ∧ n_phrasebooklaw05_SchemaGrows_c43 t6 t47 (.agg (defCells a mva).toArray) (EC W) K [] R w) ∧ (opV Try.prog (Instr.alloc 44 true (.tuple #[])) (outQ Try.prog [] [(some 4, t6)] R) W fun t9 w => EC W w ∧ n_phrasebooklaw05_SchemaGrows_c49 t6 t9 (.agg (defCells a mva).toArray) (.agg (defCells a mva).toArray) (EC W) K [] R w) ∧ (opV Try.prog (Instr.alloc 44 true (.tuple #[])) (outQ Try.prog [] [(some 4, t6)] R) W fun t10 w => EC W w ∧ n_phrasebooklaw05_SchemaGrows_c55 t6 t10 (.agg (defCells a mva).toArray) (.agg (defCells a mva).toArray) (EC W) K [] R w) := by
  have E0 := Ext.refl W
  refine ⟨?_, ?_, ?_⟩
  · refine reg_cpy hA ht E0 fun mvA loA hiA w1 lA uA zA e1 nA => ?_
    have s1 := e1.size
    have E1 := E0.trans e1
    unfold n_phrasebooklaw05_SchemaGrows_c43
    refine ⟨?_, ?_, ?_⟩
    · refine reg_cpy hA ht E1 fun mvB loB hiB w2 lB uB zB e2 nB => ?_
      have s2 := e2.size
      have E2 := E1.trans e2
      unfold n_phrasebooklaw05_SchemaGrows_c36
      refine ⟨?_, ?_⟩
      · refine reg_alc E2 fun p6 w3 l6 u6 e3 h6 => ?_
        have s3 := e3.size
        have E3 := E2.trans e3
        refine reg_alc E3 fun p7 w4 l7 u7 e4 h7 => ?_
        have s4 := e4.size
        have E4 := E3.trans e4
        unfold n_phrasebooklaw05_SchemaGrows_c34
        exact reg_st E4 (e4.obj h6) h7 (by omega) (by omega) (by omega) (nA.ext (e2.trans (e3.trans e4))) (nB.ext (e3.trans e4)) (by omega) (by omega) (by omega) (by omega) (by omega) (fun w' a1 a2 a3 a4 a5 a6 => hK w' _ _ _ _ _ _ _ _ a1 (by omega) (by omega) a2 a3 a4 (by omega) (by omega) (by omega) (by omega) a5 a6)
      · refine reg_alc E2 fun p7 w3 l7 u7 e3 h7 => ?_
        have s3 := e3.size
        have E3 := E2.trans e3
        refine reg_alc E3 fun p6 w4 l6 u6 e4 h6 => ?_
        have s4 := e4.size
        have E4 := E3.trans e4
        unfold n_phrasebooklaw05_SchemaGrows_c35
        exact reg_st E4 h6 (e4.obj h7) (by omega) (by omega) (by omega) (nA.ext (e2.trans (e3.trans e4))) (nB.ext (e3.trans e4)) (by omega) (by omega) (by omega) (by omega) (by omega) (fun w' a1 a2 a3 a4 a5 a6 => hK w' _ _ _ _ _ _ _ _ a1 (by omega) (by omega) a2 a3 a4 (by omega) (by omega) (by omega) (by omega) a5 a6)
    · refine reg_alc E1 fun p6 w2 l6 u6 e2 h6 => ?_
      have s2 := e2.size
      have E2 := E1.trans e2
      unfold n_phrasebooklaw05_SchemaGrows_c39
      refine ⟨?_, ?_⟩
      · refine reg_cpy hA ht E2 fun mvB loB hiB w3 lB uB zB e3 nB => ?_
        have s3 := e3.size
        have E3 := E2.trans e3
        refine reg_alc E3 fun p7 w4 l7 u7 e4 h7 => ?_
        have s4 := e4.size
        have E4 := E3.trans e4
        unfold n_phrasebooklaw05_SchemaGrows_c37
        exact reg_st E4 ((e3.trans e4).obj h6) h7 (by omega) (by omega) (by omega) (nA.ext (e2.trans (e3.trans e4))) (nB.ext e4) (by omega) (by omega) (by omega) (by omega) (by omega) (fun w' a1 a2 a3 a4 a5 a6 => hK w' _ _ _ _ _ _ _ _ a1 (by omega) (by omega) a2 a3 a4 (by omega) (by omega) (by omega) (by omega) a5 a6)
      · refine reg_alc E2 fun p7 w3 l7 u7 e3 h7 => ?_
        have s3 := e3.size
        have E3 := E2.trans e3
        refine reg_cpy hA ht E3 fun mvB loB hiB w4 lB uB zB e4 nB => ?_
        have s4 := e4.size
        have E4 := E3.trans e4
        unfold n_phrasebooklaw05_SchemaGrows_c38
        exact reg_st E4 ((e3.trans e4).obj h6) (e4.obj h7) (by omega) (by omega) (by omega) (nA.ext (e2.trans (e3.trans e4))) nB (by omega) (by omega) (by omega) (by omega) (by omega) (fun w' a1 a2 a3 a4 a5 a6 => hK w' _ _ _ _ _ _ _ _ a1 (by omega) (by omega) a2 a3 a4 (by omega) (by omega) (by omega) (by omega) a5 a6)
    · refine reg_alc E1 fun p7 w2 l7 u7 e2 h7 => ?_
      have s2 := e2.size
      have E2 := E1.trans e2
      unfold n_phrasebooklaw05_SchemaGrows_c42
      refine ⟨?_, ?_⟩
      · refine reg_cpy hA ht E2 fun mvB loB hiB w3 lB uB zB e3 nB => ?_
        have s3 := e3.size
        have E3 := E2.trans e3
        refine reg_alc E3 fun p6 w4 l6 u6 e4 h6 => ?_
        have s4 := e4.size
        have E4 := E3.trans e4
        unfold n_phrasebooklaw05_SchemaGrows_c40
        exact reg_st E4 h6 ((e3.trans e4).obj h7) (by omega) (by omega) (by omega) (nA.ext (e2.trans (e3.trans e4))) (nB.ext e4) (by omega) (by omega) (by omega) (by omega) (by omega) (fun w' a1 a2 a3 a4 a5 a6 => hK w' _ _ _ _ _ _ _ _ a1 (by omega) (by omega) a2 a3 a4 (by omega) (by omega) (by omega) (by omega) a5 a6)
      · refine reg_alc E2 fun p6 w3 l6 u6 e3 h6 => ?_
        have s3 := e3.size
        have E3 := E2.trans e3
        refine reg_cpy hA ht E3 fun mvB loB hiB w4 lB uB zB e4 nB => ?_
        have s4 := e4.size
        have E4 := E3.trans e4
        unfold n_phrasebooklaw05_SchemaGrows_c41
        exact reg_st E4 (e4.obj h6) ((e3.trans e4).obj h7) (by omega) (by omega) (by omega) (nA.ext (e2.trans (e3.trans e4))) nB (by omega) (by omega) (by omega) (by omega) (by omega) (fun w' a1 a2 a3 a4 a5 a6 => hK w' _ _ _ _ _ _ _ _ a1 (by omega) (by omega) a2 a3 a4 (by omega) (by omega) (by omega) (by omega) a5 a6)
  · refine reg_alc E0 fun p6 w1 l6 u6 e1 h6 => ?_
    have s1 := e1.size
    have E1 := E0.trans e1
    unfold n_phrasebooklaw05_SchemaGrows_c49
    refine ⟨?_, ?_⟩
    · refine reg_cpy hA ht E1 fun mvA loA hiA w2 lA uA zA e2 nA => ?_
      have s2 := e2.size
      have E2 := E1.trans e2
      unfold n_phrasebooklaw05_SchemaGrows_c46
      refine ⟨?_, ?_⟩
      · refine reg_cpy hA ht E2 fun mvB loB hiB w3 lB uB zB e3 nB => ?_
        have s3 := e3.size
        have E3 := E2.trans e3
        refine reg_alc E3 fun p7 w4 l7 u7 e4 h7 => ?_
        have s4 := e4.size
        have E4 := E3.trans e4
        unfold n_phrasebooklaw05_SchemaGrows_c44
        exact reg_st E4 ((e2.trans (e3.trans e4)).obj h6) h7 (by omega) (by omega) (by omega) (nA.ext (e3.trans e4)) (nB.ext e4) (by omega) (by omega) (by omega) (by omega) (by omega) (fun w' a1 a2 a3 a4 a5 a6 => hK w' _ _ _ _ _ _ _ _ a1 (by omega) (by omega) a2 a3 a4 (by omega) (by omega) (by omega) (by omega) a5 a6)
      · refine reg_alc E2 fun p7 w3 l7 u7 e3 h7 => ?_
        have s3 := e3.size
        have E3 := E2.trans e3
        refine reg_cpy hA ht E3 fun mvB loB hiB w4 lB uB zB e4 nB => ?_
        have s4 := e4.size
        have E4 := E3.trans e4
        unfold n_phrasebooklaw05_SchemaGrows_c45
        exact reg_st E4 ((e2.trans (e3.trans e4)).obj h6) (e4.obj h7) (by omega) (by omega) (by omega) (nA.ext (e3.trans e4)) nB (by omega) (by omega) (by omega) (by omega) (by omega) (fun w' a1 a2 a3 a4 a5 a6 => hK w' _ _ _ _ _ _ _ _ a1 (by omega) (by omega) a2 a3 a4 (by omega) (by omega) (by omega) (by omega) a5 a6)
    · refine reg_alc E1 fun p7 w2 l7 u7 e2 h7 => ?_
      have s2 := e2.size
      have E2 := E1.trans e2
      unfold n_phrasebooklaw05_SchemaGrows_c48
      refine reg_cpy hA ht E2 fun mvA loA hiA w3 lA uA zA e3 nA => ?_
      have s3 := e3.size
      have E3 := E2.trans e3
      refine reg_cpy hA ht E3 fun mvB loB hiB w4 lB uB zB e4 nB => ?_
      have s4 := e4.size
      have E4 := E3.trans e4
      unfold n_phrasebooklaw05_SchemaGrows_c47
      exact reg_st E4 ((e2.trans (e3.trans e4)).obj h6) ((e3.trans e4).obj h7) (by omega) (by omega) (by omega) (nA.ext e4) nB (by omega) (by omega) (by omega) (by omega) (by omega) (fun w' a1 a2 a3 a4 a5 a6 => hK w' _ _ _ _ _ _ _ _ a1 (by omega) (by omega) a2 a3 a4 (by omega) (by omega) (by omega) (by omega) a5 a6)
  · refine reg_alc E0 fun p7 w1 l7 u7 e1 h7 => ?_
    have s1 := e1.size
    have E1 := E0.trans e1
    unfold n_phrasebooklaw05_SchemaGrows_c55
    refine ⟨?_, ?_⟩
    · refine reg_cpy hA ht E1 fun mvA loA hiA w2 lA uA zA e2 nA => ?_
      have s2 := e2.size
      have E2 := E1.trans e2
      unfold n_phrasebooklaw05_SchemaGrows_c52
      refine ⟨?_, ?_⟩
      · refine reg_cpy hA ht E2 fun mvB loB hiB w3 lB uB zB e3 nB => ?_
        have s3 := e3.size
        have E3 := E2.trans e3
        refine reg_alc E3 fun p6 w4 l6 u6 e4 h6 => ?_
        have s4 := e4.size
        have E4 := E3.trans e4
        unfold n_phrasebooklaw05_SchemaGrows_c50
        exact reg_st E4 h6 ((e2.trans (e3.trans e4)).obj h7) (by omega) (by omega) (by omega) (nA.ext (e3.trans e4)) (nB.ext e4) (by omega) (by omega) (by omega) (by omega) (by omega) (fun w' a1 a2 a3 a4 a5 a6 => hK w' _ _ _ _ _ _ _ _ a1 (by omega) (by omega) a2 a3 a4 (by omega) (by omega) (by omega) (by omega) a5 a6)
      · refine reg_alc E2 fun p6 w3 l6 u6 e3 h6 => ?_
        have s3 := e3.size
        have E3 := E2.trans e3
        refine reg_cpy hA ht E3 fun mvB loB hiB w4 lB uB zB e4 nB => ?_
        have s4 := e4.size
        have E4 := E3.trans e4
        unfold n_phrasebooklaw05_SchemaGrows_c51
        exact reg_st E4 (e4.obj h6) ((e2.trans (e3.trans e4)).obj h7) (by omega) (by omega) (by omega) (nA.ext (e3.trans e4)) nB (by omega) (by omega) (by omega) (by omega) (by omega) (fun w' a1 a2 a3 a4 a5 a6 => hK w' _ _ _ _ _ _ _ _ a1 (by omega) (by omega) a2 a3 a4 (by omega) (by omega) (by omega) (by omega) a5 a6)
    · refine reg_alc E1 fun p6 w2 l6 u6 e2 h6 => ?_
      have s2 := e2.size
      have E2 := E1.trans e2
      unfold n_phrasebooklaw05_SchemaGrows_c54
      refine reg_cpy hA ht E2 fun mvA loA hiA w3 lA uA zA e3 nA => ?_
      have s3 := e3.size
      have E3 := E2.trans e3
      refine reg_cpy hA ht E3 fun mvB loB hiB w4 lB uB zB e4 nB => ?_
      have s4 := e4.size
      have E4 := E3.trans e4
      unfold n_phrasebooklaw05_SchemaGrows_c53
      exact reg_st E4 ((e3.trans e4).obj h6) ((e2.trans (e3.trans e4)).obj h7) (by omega) (by omega) (by omega) (nA.ext e4) nB (by omega) (by omega) (by omega) (by omega) (by omega) (fun w' a1 a2 a3 a4 a5 a6 => hK w' _ _ _ _ _ _ _ _ a1 (by omega) (by omega) a2 a3 a4 (by omega) (by omega) (by omega) (by omega) a5 a6)
end
set_option maxHeartbeats 2000000 in
theorem SchemaGrows_ret (w0 : World) (v : Value) (d : DefD) (n : Int) (name : ByteArray) (hd : DefVal w0 v d) (hs : DefSm d) (hw : (Lit.int .u8 n).wf = true) : Ret Try.prog 6 #[v, .int .u8 n, .string name] w0 fun r w' => r = .bool true ∧ Ext w0 w' := by
  have hn : 0 ≤ n ∧ n ≤ 255 := by simpa [Lit.wf, IntKind.min, IntKind.max, IntKind.signed, IntKind.bits] using hw
  obtain ⟨at', rfl⟩ : ∃ a : Nat, n = a := ⟨n.toNat, by omega⟩
  obtain ⟨mv, rfl, hM⟩ := hd
  obtain ⟨A, c, rfl, hlc, hcm, hlm, hel⟩ := SliceOf.open hM
  refine n_phrasebooklaw05_SchemaGrows_sound (R := retR _) ?_; unfold n_phrasebooklaw05_SchemaGrows
  simp (disch := first | assumption | (simp only [ONE]; done) | rfl | (simp only [SZ]; done) | omega | (simp only [SZ] at *; omega)) only [↓PR, QR, Int.reduceBEq, Int.reduceBNe, Int.reduceLT, Int.reduceLE, Int.reduceGT, Int.reduceGE, Int.reduceNeg]
  simp only [World.size_alloc]
  generalize hA0 : ((w0.alloc (Obj.cells (defCells d (.slice A d.msgs.length c)).toArray 44)).alloc (Obj.cells #[.bool false] 4)) = A0
  have e0 : Ext w0 A0 := by rw [← hA0]; exact ee
  have o3 : A0.heap[w0.heap.size]? = some (.cells (defCells d (.slice A d.msgs.length c)).toArray 44 (0, 0)) := by rw [← hA0]; simp (disch := first | assumption | (simp only [ONE]; done) | rfl | (simp only [SZ]; done) | omega | (simp only [SZ] at *; omega)) only [↓PR, QR, Int.reduceBEq, Int.reduceBNe, Int.reduceLT, Int.reduceLE, Int.reduceGT, Int.reduceGE, Int.reduceNeg]
  have o6 : A0.heap[w0.heap.size + 1]? = some (.cells #[.bool false] 4 (0, 0)) := by rw [← hA0]; simp (disch := first | assumption | (simp only [ONE]; done) | rfl | (simp only [SZ]; done) | omega | (simp only [SZ] at *; omega)) only [↓PR, QR, Int.reduceBEq, Int.reduceBNe, Int.reduceLT, Int.reduceLE, Int.reduceGT, Int.reduceGE, Int.reduceNeg]
  clear hA0
  have h6 : w0.heap.size ≤ w0.heap.size + 1 := by omega
  generalize hp6 : w0.heap.size + 1 = p6 at o6 h6 ⊢
  generalize hp3 : w0.heap.size = p3 at o3 hp6 h6 ⊢
  rw [← hp3] at h6
  clear hp3 hp6
  refine callK_ret (fits_ret _ _ d ⟨_, rfl, hM.ext e0⟩ hs) ?_
  rintro _ w1 ⟨b, rfl, hfit, e1⟩
  have E1 := e0.trans e1
  have hstop : ∀ w', Ext w1 w' → n_phrasebooklaw05_SchemaGrows_c57 (.pointer (some ⟨p6, 0, none⟩)) [] (retR fun r w' => r = .bool true ∧ Ext w0 w') w' := by
    intro w2 e2
    unfold n_phrasebooklaw05_SchemaGrows_c57
    refine callK_ret (known_ret _) ?_
    rintro _ w3 ⟨rfl, e3⟩
    have y6 := (e1.trans (e2.trans e3)).obj o6
    simp (disch := first | assumption | (simp only [ONE]; done) | rfl | (simp only [SZ]; done) | omega | (simp only [SZ] at *; omega)) only [↓PR, QR, Int.reduceBEq, Int.reduceBNe, Int.reduceLT, Int.reduceLE, Int.reduceGT, Int.reduceGE, Int.reduceNeg, (cells_of_heap y6).1, (cells_of_heap y6).2, outX_nil, retV, resOne, (cells_of_heap (heap_set (o := 0) y6 (.bool true))).1]
    exact ⟨trivial, (E1.trans (e2.trans e3)).setCell h6 _⟩
  unfold n_phrasebooklaw05_SchemaGrows_c60
  cases b with
  | false =>
    simp (disch := first | assumption | (simp only [ONE]; done) | rfl | (simp only [SZ]; done) | omega | (simp only [SZ] at *; omega)) only [↓PR, QR, Int.reduceBEq, Int.reduceBNe, Int.reduceLT, Int.reduceLE, Int.reduceGT, Int.reduceGE, Int.reduceNeg]
    unfold n_phrasebooklaw05_SchemaGrows_c59
    simp (disch := first | assumption | (simp only [ONE]; done) | rfl | (simp only [SZ]; done) | omega | (simp only [SZ] at *; omega)) only [↓PR, QR, Int.reduceBEq, Int.reduceBNe, Int.reduceLT, Int.reduceLE, Int.reduceGT, Int.reduceGE, Int.reduceNeg]
    exact hstop _ (Ext.refl _)
  | true =>
  replace hfit := hfit rfl
  by_cases hz : d.msgs.length = 0
  · have d1 : ((d.msgs.length : Int) == 0) = true := by simp; exact List.eq_nil_of_length_eq_zero hz
    simp (disch := first | assumption | (simp only [ONE]; done) | rfl | (simp only [SZ]; done) | omega | (simp only [SZ] at *; omega)) only [↓PR, QR, Int.reduceBEq, Int.reduceBNe, Int.reduceLT, Int.reduceLE, Int.reduceGT, Int.reduceGE, Int.reduceNeg, d1]
    unfold n_phrasebooklaw05_SchemaGrows_c59
    simp (disch := first | assumption | (simp only [ONE]; done) | rfl | (simp only [SZ]; done) | omega | (simp only [SZ] at *; omega)) only [↓PR, QR, Int.reduceBEq, Int.reduceBNe, Int.reduceLT, Int.reduceLE, Int.reduceGT, Int.reduceGE, Int.reduceNeg]
    exact hstop _ (Ext.refl _)
  have d1 : ((d.msgs.length : Int) == 0) = false := by simp; intro h; apply hz; rw [h]; rfl
  by_cases h59 : d.msgs.length ≤ 59
  · have d2 : decide ((d.msgs.length : Int) > 59) = false := by simp; omega
    have hrem : (IntKind.i64.wrap (at' : Int)).tmod (d.msgs.length : Int) = ((at' % d.msgs.length : Nat) : Int) := by
      rw [wrap_ok (by omega) (by omega)]; exact (Int.ofNat_tmod at' d.msgs.length).symm
    have hlt : at' % d.msgs.length < d.msgs.length := Nat.mod_lt _ (by omega)
    have hne0 : (d.msgs.length : Int) ≠ 0 := by omega
    obtain ⟨m, hm⟩ := getElem?_lt hlt
    simp (disch := first | assumption | (simp only [ONE]; done) | rfl | (simp only [SZ]; done) | omega | (simp only [SZ] at *; omega)) only [↓PR, QR, Int.reduceBEq, Int.reduceBNe, Int.reduceLT, Int.reduceLE, Int.reduceGT, Int.reduceGE, Int.reduceNeg, d1, d2]
    unfold n_phrasebooklaw05_SchemaGrows_c59
    simp (disch := first | assumption | (simp only [ONE]; done) | rfl | (simp only [SZ]; done) | omega | (simp only [SZ] at *; omega)) only [↓PR, QR, Int.reduceBEq, Int.reduceBNe, Int.reduceLT, Int.reduceLE, Int.reduceGT, Int.reduceGE, Int.reduceNeg, d2]
    unfold n_phrasebooklaw05_SchemaGrows_c58
    simp (disch := first | assumption | (simp only [ONE]; done) | rfl | (simp only [SZ]; done) | omega | (simp only [SZ] at *; omega)) only [↓PR, QR, Int.reduceBEq, Int.reduceBNe, Int.reduceLT, Int.reduceLE, Int.reduceGT, Int.reduceGE, Int.reduceNeg, hrem]
    have e2 : Ext w1 (w1.alloc (Obj.cells #[.int .i64 ((at' % d.msgs.length : Nat) : Int)] 3)) := ee
    have o8 := heap_new w1 #[.int .i64 ((at' % d.msgs.length : Nat) : Int)] 3
    generalize w1.heap.size = p8 at o8 ⊢
    generalize (w1.alloc (Obj.cells #[.int .i64 ((at' % d.msgs.length : Nat) : Int)] 3)) = w2 at e2 o8 ⊢
    have f2 := e1.trans e2
    have y3 := f2.obj o3
    have y6 := f2.obj o6
    refine drawK_intro ?_
    have eD : Ext w2 w2.drew := (Ext.refl w2).wdrew
    have E2 : Ext w0 w2.drew := e0.trans (f2.trans eD)
    unfold n_phrasebooklaw05_SchemaGrows_c56
    simp (disch := first | assumption | (simp only [ONE]; done) | rfl | (simp only [SZ]; done) | omega | (simp only [SZ] at *; omega)) only [↓PR, QR, Int.reduceBEq, Int.reduceBNe, Int.reduceLT, Int.reduceLE, Int.reduceGT, Int.reduceGE, Int.reduceNeg, (cells_of_heap y3).1]
    exact lgr_region (hM.ext E2) (fits_tame hfit) (fun w mv9 mv10 lo hi lo2 hi2 p9 p10 h1 h2 h3 h4 h5 hh6 h7 h8 h9 h10 h11 h12 => lgr_mid (fits_calm hfit) (fits_tame hfit) h59 hm E2 h1 hM (eD.obj y3) (eD.obj o8) (eD.obj y6) h6 h2 h3 h4 h5 hh6 h7 h8 h9 h10 h11 h12)
  · have d2 : decide ((d.msgs.length : Int) > 59) = true := by simp; omega
    simp (disch := first | assumption | (simp only [ONE]; done) | rfl | (simp only [SZ]; done) | omega | (simp only [SZ] at *; omega)) only [↓PR, QR, Int.reduceBEq, Int.reduceBNe, Int.reduceLT, Int.reduceLE, Int.reduceGT, Int.reduceGE, Int.reduceNeg, d1, d2]
    unfold n_phrasebooklaw05_SchemaGrows_c59
    simp (disch := first | assumption | (simp only [ONE]; done) | rfl | (simp only [SZ]; done) | omega | (simp only [SZ] at *; omega)) only [↓PR, QR, Int.reduceBEq, Int.reduceBNe, Int.reduceLT, Int.reduceLE, Int.reduceGT, Int.reduceGE, Int.reduceNeg, d2]
    exact hstop _ (Ext.refl _)
end Go.Proofs.Ytiajhbbmgglmlaa
namespace Go.Proofs.Ytiajhbbmgglmlaa
open Sw
open Go.ChangeShapes Go.WideShapes Go.RowKit Go.ChangeAt Go.Deep
theorem grows_own : ownKnob Try.prog.godebug = none := by kernel_rfl
theorem grows_laidOut : laidOutB Try.prog = true := by kernel_rfl
set_option maxRecDepth 100000 in
theorem grows_lifted (os : Os) (started : os.Started) (H : Type) (enc : TypeId × Value → H) :
    ReturnsInHanded {} Try.checked os 6 .any (Rows.schemaGrowsSpec.pre6 enc Try.prog Try.f6 Rows.schemaGrowsRow.domain false) (Rows.schemaGrowsSpec.post enc Try.prog Try.f6 false true false false) := by
  refine returnsInHanded_of_change_sized (C := Try.checked) grows_own started (by kernel_rfl) Try.func6
    (ChangeSpec.witness6 (enc := enc) (C := Try.checked) false ⟨#[], #[.agg #[.string ByteArray.empty, .slice none 0 0, .string ByteArray.empty], .int .u8 0, .string ByteArray.empty], []⟩ 8 (by kernel_rfl) (by kernel_rfl) (by kernel_rfl) (by kernel_rfl)) ?_
  intro W base args ds gs before hval hW _ hsz _
  have hW' := hW
  obtain ⟨p, q, hA0, hV, rfl, _, _⟩ := hW
  have hA : DataW.TrodAll enc Try.prog W 0 (fun _ => true) true Try.f6.params.toList args.toList ds p := hA0
  rw [Try.params6] at hA hval hsz
  obtain ⟨v0, vs0, d0, ds0, p0, q0, ha0, rfl, rfl, h0, r0⟩ := trodAll_cons hA
  obtain ⟨v1, vs1, d1, ds1, p1, q1, ha1, rfl, rfl, h1, r1⟩ := trodAll_cons r0
  obtain ⟨v2, vs2, d2, ds2, p2, q2, ha2, rfl, rfl, h2, r2⟩ := trodAll_cons r1
  obtain ⟨rfl, rfl, rfl⟩ := trodAll_nil r2
  subst ha2 ha1
  obtain rfl : args = #[v0, v1, v2] := by cases args; simp_all
  obtain ⟨f0, hf0, hs0⟩ := def_val (hval 0 _ v0 rfl rfl) h0 (reached_of (j := 0) hsz rfl rfl)
  obtain ⟨n1, rfl, _, _, hw1⟩ := open_int Try.underlying5 (hval 1 _ v1 rfl rfl) h1
  obtain ⟨s2, rfl, _⟩ := open_str Try.underlying9 (hval 2 _ v2 rfl rfl) h2
  refine Calls.mono (SchemaGrows_ret W v0 f0 n1 s2 hf0 hs0 hw1) fun e W' ⟨v, he, hv, hx⟩ => ?_
  subst he hv
  exact ⟨_, rfl, law_post grows_laidOut (by decide +kernel) rfl hW' hx rfl Try.underlying4 rfl rfl rfl⟩
theorem grows_holds : Rows.SchemaGrowsSaid :=
  OpenClaim.holds_of_wide 6 Try.f6 rfl rfl rfl rfl rfl rfl rfl ⟨rfl, rfl, rfl, rfl, rfl⟩ rfl rfl rfl rfl rfl (by kernel_rfl) Try.func6 (by kernel_rfl)
    (of_decide_eq_true (by kernel_rfl)) (by unfold Func.isWrapper; first | (rw [if_pos (by decide +kernel)]; kernel_rfl) | (rw [if_neg (by decide +kernel)]; exact ⟨rfl, rfl⟩))
    (fun os started H enc _ => grows_lifted os started H enc)
end Go.Proofs.Ytiajhbbmgglmlaa
