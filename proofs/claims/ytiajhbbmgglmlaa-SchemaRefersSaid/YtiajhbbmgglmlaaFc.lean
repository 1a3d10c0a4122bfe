/-
  phrasebooklaw05.SchemaRefers returns true for every message and every number, and leaves its arguments as they were; no condition is asked.
-/
import Derived.Test.YtiajhbbmgglmlaaFc6
set_option linter.all false
namespace Go.Proofs.Ytiajhbbmgglmlaa
open Sw
open Go.RowKit (intOf Below)
set_option maxRecDepth 100000
def sumF (l : List MsgD) : Nat := (l.map fun m => m.fields.length).sum
def okF (f : FieldD) : Prop := f.cases.length ≤ 50 ∧ f.terms.length ≤ 10
def fitsP (d : DefD) : Prop := d.msgs.length ≤ 70 ∧ sumF d.msgs ≤ 400 ∧ ∀ m ∈ d.msgs, ∀ f ∈ m.fields, okF f
theorem sumF_take {l : List MsgD} {k : Nat} {x : MsgD} (hx : l[k]? = some x) : sumF (l.take (k + 1)) = sumF (l.take k) + x.fields.length := by
  rw [take_snoc hx]; simp [sumF]
theorem le_sumF {l : List MsgD} {m : MsgD} (h : m ∈ l) : m.fields.length ≤ sumF l := by
  unfold sumF
  induction l with
  | nil => cases h
  | cons a l ih =>
    rcases List.mem_cons.1 h with rfl | h
    · simp
    · have := ih h; simp at this ⊢; omega
theorem forall_take {α : Type} {p : α → Prop} {l : List α} {k : Nat} {x : α} (h : ∀ y ∈ l.take k, p y) (hx : l[k]? = some x) (hp : p x) : ∀ y ∈ l.take (k + 1), p y := by
  rw [take_snoc hx]
  intro y hy
  rcases List.mem_append.1 hy with hy | hy
  · exact h y hy
  · simp only [List.mem_singleton] at hy; subst hy; exact hp
theorem fits_ret (w0 : World) (v : Value) (d : DefD) (hd : DefVal w0 v d) (hs : DefSm d) : Ret Try.prog 17 #[v] w0 fun r w' => ∃ b, r = .bool b ∧ (b = true → fitsP d) ∧ Ext w0 w' := by
  obtain ⟨mv, rfl, hM⟩ := hd
  obtain ⟨A, c, rfl, hlc, hcm, hlm, hel⟩ := SliceOf.open hM
  refine n_phrasebooklaw05_fits_sound (R := retR _) ?_; unfold n_phrasebooklaw05_fits
  simp (disch := first | assumption | (simp only [ONE]; done) | rfl | (simp only [SZ]; done) | omega | (simp only [SZ] at *; omega)) only [↓PR, QR, Int.reduceBEq, Int.reduceBNe, Int.reduceLT, Int.reduceLE, Int.reduceGT, Int.reduceGE, Int.reduceNeg]
  have hBW := ElemAt.new (w := w0) (defCells d (.slice A d.msgs.length c)) (44)
  have eW : Ext w0 (w0.alloc (Obj.cells (List.toArray (defCells d (.slice A d.msgs.length c))) (44))) := (Ext.refl _).alloc _
  generalize (w0.alloc (Obj.cells (List.toArray (defCells d (.slice A d.msgs.length c))) (44))) = W at hBW eW ⊢
  refine loop2_intro (fun a0 a1 w => ∃ (k : Nat) , a0 = .int .i64 (sumF (d.msgs.take k) : Nat) ∧ a1 = .int .i64 (k : Int) ∧ k ≤ d.msgs.length ∧ Ext W w ∧ sumF (d.msgs.take k) ≤ 400 ∧ ∀ m ∈ d.msgs.take k, ∀ f ∈ m.fields, okF f) (fun a0 a1 _ => d.msgs.length - (intOf a1).toNat) ⟨0, rfl, rfl, Nat.zero_le _, ee, ⟨by simp [sumF], by simp⟩⟩ ?_
  rintro _ _ w ⟨k, rfl, rfl, hk, e, hI⟩
  have se := e.size
  rcases drop_cases hk with ⟨x, hx, hd, hlt, hdec⟩ | ⟨hk, hd, hdec⟩
  · obtain ⟨h400, hok⟩ := hI
    obtain ⟨b, o, cs, rfl, hl, hA, fv, rfl, hF⟩ := hel k x hx
    obtain ⟨A2, c2, rfl, hlc2, hcm2, hlm2, hel2⟩ := SliceOf.open hF
    have hxm := List.mem_of_getElem? hx
    have hsx := hs.2 x hxm
    have hx1 := hsx.1
    have e' := eW.trans e
    unfold n_phrasebooklaw05_fits_c5
    by_cases hk70 : k ≤ 70
    · have d1 : decide ((k : Int) ≤ 70) = true := by simp; omega
      simp (disch := first | assumption | (simp only [ONE]; done) | rfl | (simp only [SZ]; done) | omega | (simp only [SZ] at *; omega)) only [↓PR, QR, Int.reduceBEq, Int.reduceBNe, Int.reduceLT, Int.reduceLE, Int.reduceGT, Int.reduceGE, Int.reduceNeg, hBW.c3, hdec, d1]
      unfold n_phrasebooklaw05_fits_c4
      have hwr : IntKind.i64.wrap ((sumF (d.msgs.take k) : Int) + (x.fields.length : Int)) = ((sumF (d.msgs.take (k + 1)) : Nat) : Int) := by
        rw [sumF_take hx, wrap_ok (by omega) (by omega)]; omega
      by_cases hn : sumF (d.msgs.take (k + 1)) ≤ 400
      · have d2 : decide (((sumF (d.msgs.take (k + 1)) : Nat) : Int) > 400) = false := by simp; omega
        simp (disch := first | assumption | (simp only [ONE]; done) | rfl | (simp only [SZ]; done) | omega | (simp only [SZ] at *; omega)) only [↓PR, QR, Int.reduceBEq, Int.reduceBNe, Int.reduceLT, Int.reduceLE, Int.reduceGT, Int.reduceGE, Int.reduceNeg, hBW.c3, (hA.c2 e').1, (hA.c2 e').2, hwr, d2]
        rw [hwr]
        refine loop1_intro (fun a0 wb => ∃ (kb : Nat) , a0 = .int .i64 (kb : Int) ∧ kb ≤ x.fields.length ∧ Ext w wb ∧ ∀ f ∈ x.fields.take kb, okF f) (fun a0 _ => x.fields.length - (intOf a0).toNat) ⟨0, rfl, Nat.zero_le _, ee, by simp⟩ ?_
        rintro _ wb ⟨kb, rfl, hkb, eb, hIb⟩
        have seb := eb.size
        rcases drop_cases hkb with ⟨xb, hxb, hdb, hltb, hdecb⟩ | ⟨hkb, hdb, hdecb⟩
        · obtain ⟨b2, o2, cs2, rfl, hl2, hA2, hE2⟩ := hel2 kb xb hxb
          obtain ⟨tv, cv, rfl, hT, hC, ht1, hc1⟩ := hE2.op
          obtain ⟨A3, c3, rfl, hlc3, hcm3, hlm3, hel3⟩ := SliceOf.open hC
          obtain ⟨A4, c4, rfl, hlc4, hcm4, hlm4, hel4⟩ := SliceOf.open hT
          have eb' := e'.trans eb
          unfold n_phrasebooklaw05_fits_c2
          simp (disch := first | assumption | (simp only [ONE]; done) | rfl | (simp only [SZ]; done) | omega | (simp only [SZ] at *; omega)) only [↓PR, QR, Int.reduceBEq, Int.reduceBNe, Int.reduceLT, Int.reduceLE, Int.reduceGT, Int.reduceGE, Int.reduceNeg, hdecb]
          unfold n_phrasebooklaw05_fits_c1
          have hcell := hA2.c15 eb'
          by_cases hc50 : xb.cases.length ≤ 50
          · have d3 : decide ((xb.cases.length : Int) > 50) = false := by simp; omega
            by_cases ht10 : xb.terms.length ≤ 10
            · have d4 : decide ((xb.terms.length : Int) > 10) = false := by simp; omega
              simp (disch := first | assumption | (simp only [ONE]; done) | rfl | (simp only [SZ]; done) | omega | (simp only [SZ] at *; omega)) only [↓PR, QR, Int.reduceBEq, Int.reduceBNe, Int.reduceLT, Int.reduceLE, Int.reduceGT, Int.reduceGE, Int.reduceNeg, hcell, d3, d4]
              exact ⟨⟨kb + 1, rfl, by omega, ee, forall_take hIb hxb ⟨hc50, ht10⟩⟩, meas_lt hltb⟩
            · have d4 : decide ((xb.terms.length : Int) > 10) = true := by simp; omega
              simp (disch := first | assumption | (simp only [ONE]; done) | rfl | (simp only [SZ]; done) | omega | (simp only [SZ] at *; omega)) only [↓PR, QR, Int.reduceBEq, Int.reduceBNe, Int.reduceLT, Int.reduceLE, Int.reduceGT, Int.reduceGE, Int.reduceNeg, hcell, d3, d4]
              exact ⟨false, rfl, by simp, ee⟩
          · have d3 : decide ((xb.cases.length : Int) > 50) = true := by simp; omega
            simp (disch := first | assumption | (simp only [ONE]; done) | rfl | (simp only [SZ]; done) | omega | (simp only [SZ] at *; omega)) only [↓PR, QR, Int.reduceBEq, Int.reduceBNe, Int.reduceLT, Int.reduceLE, Int.reduceGT, Int.reduceGE, Int.reduceNeg, hcell, d3]
            exact ⟨false, rfl, by simp, ee⟩
        · subst hkb
          rw [List.take_length] at hIb
          unfold n_phrasebooklaw05_fits_c2
          simp (disch := first | assumption | (simp only [ONE]; done) | rfl | (simp only [SZ]; done) | omega | (simp only [SZ] at *; omega)) only [↓PR, QR, Int.reduceBEq, Int.reduceBNe, Int.reduceLT, Int.reduceLE, Int.reduceGT, Int.reduceGE, Int.reduceNeg, hdecb]
          exact ⟨⟨k + 1, rfl, rfl, by omega, ee, ⟨hn, forall_take hok hx hIb⟩⟩, meas_lt hlt⟩
      · have d2 : decide (((sumF (d.msgs.take (k + 1)) : Nat) : Int) > 400) = true := by simp; omega
        simp (disch := first | assumption | (simp only [ONE]; done) | rfl | (simp only [SZ]; done) | omega | (simp only [SZ] at *; omega)) only [↓PR, QR, Int.reduceBEq, Int.reduceBNe, Int.reduceLT, Int.reduceLE, Int.reduceGT, Int.reduceGE, Int.reduceNeg, hBW.c3, (hA.c2 e').1, (hA.c2 e').2, hwr, d2]
        exact ⟨false, rfl, by simp, ee⟩
    · have d1 : decide ((k : Int) ≤ 70) = false := by simp; omega
      have d2 : decide ((d.msgs.length : Int) ≤ 70) = false := by simp; omega
      simp (disch := first | assumption | (simp only [ONE]; done) | rfl | (simp only [SZ]; done) | omega | (simp only [SZ] at *; omega)) only [↓PR, QR, Int.reduceBEq, Int.reduceBNe, Int.reduceLT, Int.reduceLE, Int.reduceGT, Int.reduceGE, Int.reduceNeg, hBW.c3, hdec, d1, n_phrasebooklaw05_fits_c3, d2]
      exact ⟨false, rfl, by simp, ee⟩
  · subst hk
    obtain ⟨h400, hok⟩ := hI
    rw [List.take_length] at h400 hok
    unfold n_phrasebooklaw05_fits_c5
    simp (disch := first | assumption | (simp only [ONE]; done) | rfl | (simp only [SZ]; done) | omega | (simp only [SZ] at *; omega)) only [↓PR, QR, Int.reduceBEq, Int.reduceBNe, Int.reduceLT, Int.reduceLE, Int.reduceGT, Int.reduceGE, Int.reduceNeg, hBW.c3, hdec, n_phrasebooklaw05_fits_c3]
    exact ⟨_, rfl, fun hb => ⟨by have := of_decide_eq_true hb; omega, h400, hok⟩, ee⟩
end Go.Proofs.Ytiajhbbmgglmlaa
namespace Go.Proofs.Ytiajhbbmgglmlaa
open Sw
open Go.RowKit (intOf Below)
set_option maxRecDepth 100000
theorem refsF_len {f : FieldD} (h : okF f) : (refsF f).length ≤ 50 := by
  unfold refsF
  split
  · simp
  · split
    · simpa using h.1
    · simp
theorem allRefs_len : ∀ {l : List FieldD}, (∀ f ∈ l, okF f) → (allRefs l).length ≤ l.length * 50
  | [], _ => by simp [allRefs]
  | f :: l, h => by
    have h1 := refsF_len (h f (List.mem_cons_self ..))
    have h2 := allRefs_len (l := l) (fun g hg => h g (List.mem_cons_of_mem _ hg))
    unfold allRefs at *
    rw [List.flatMap_cons, List.length_append, List.length_cons]
    omega
theorem fits_calm {d : DefD} (h : fitsP d) : calm d := fun m hm => by
  have h1 := le_sumF hm
  have h2 := h.2.1
  have h3 := allRefs_len (h.2.2 m hm)
  exact ⟨by omega, fun f hf => by have := (h.2.2 m hm f hf).2; omega⟩
theorem fits_tame {d : DefD} (h : fitsP d) : tame d := ⟨by have := h.1; omega, fun m hm => ⟨by have := le_sumF hm; have := h.2.1; omega, fun f hf => ⟨by have := (h.2.2 m hm f hf).2; omega, by have := (h.2.2 m hm f hf).1; omega⟩⟩⟩
end Go.Proofs.Ytiajhbbmgglmlaa
namespace Go.Sw
open Go.RowKit (Below)
section
variable {P : Program} {QP : List PanicEntry → World → Prop} {w : World}
theorem op_appendL {α : Type} {t ty T n m : Nat} {z : Value} {agg : Bool} {enc : α → List Value} {v : Value} {l l' : List α} {base : Nat} {k : Value → World → Prop}
    (ht : P.underlying t = some (.slice T)) (hT : TyInfo P T agg n m z) (hz : z.cells.size = n) (h0 : 0 < n) (hn : ∀ x, (enc x).length = n) (h1 : ∀ x, x ∈ l' → ∀ u ∈ enc x, u.oneCell' = true)
    (hown : OwnE w base T n enc v l) {b o c : Nat} (hc : ∀ j x, l'[j]? = some x → ElemAt w b (o + j * n) (enc x)) (hbase : base ≤ w.heap.size) (hl' : 0 < l'.length) (hm : (l.length + l'.length) * m ≤ 140737488355328) (hb : l.length + l'.length ≤ 140737488355328)
    (hk : ∀ g cap w', OwnE w' base T n enc (.slice (some ⟨g, 0, none⟩) (l.length + l'.length) cap) (l ++ l') → w.grownBy w' v.ownBlock → (v.ownBlock = some g ∨ g = w.heap.size) → g < w'.heap.size → k (.slice (some ⟨g, 0, none⟩) (l.length + l'.length) cap) w') :
    opV P (Builtin.append_ #[t, t] ty #[v, .slice (some ⟨b, o, none⟩) l'.length c]) QP w k := by
  obtain ⟨⟨i, hi, hs, hby, hzz⟩, _⟩ := hT
  have hfl : (l'.flatMap enc).length = l'.length * n := by
    clear hm hb hc h1 hk hl'
    induction l' with
    | nil => simp
    | cons a l ih => rw [List.flatMap_cons, List.length_append, hn, ih, List.length_cons, Nat.add_mul]; omega
  have hcells : ∀ j u, (l'.flatMap enc)[j]? = some u → w.cell? ((⟨b, o, none⟩ : Addr).add j) = some u := by
    intro j u hu
    have hj : j < l'.length * n := by have := (List.getElem?_eq_some_iff.1 hu).1; rwa [hfl] at this
    have hq : j / n < l'.length := Nat.div_lt_of_lt_mul (by rw [Nat.mul_comm]; exact hj)
    obtain ⟨x, hx⟩ := getElem?_lt hq
    have hjn : j % n < (enc x).length := by rw [hn]; exact Nat.mod_lt _ h0
    have hdm : j / n * n + j % n = j := by rw [Nat.mul_comm]; exact Nat.div_add_mod j n
    have hg := flatMap_get hn l' (j / n) x (j % n) _ hx (List.getElem?_eq_getElem hjn)
    rw [hdm, hu] at hg
    injection hg with hg
    rw [Addr.add_lit]
    have := hc _ _ hx (j % n) _ (List.getElem?_eq_getElem hjn)
    rw [hg, ← this]
    congr 2; omega
  obtain ⟨g, cap, w', hr, ho, hg, hgl, hlt⟩ := run_append_lies (P := P) (w := w) t ty base T i z n m ht hi hzz hs hby hz h0 v l.length (l.flatMap enc) hown ⟨b, o, none⟩ l'.length c (l'.flatMap enc) hfl hcells
    (by intro u hu; obtain ⟨x, hx, hux⟩ := List.mem_flatMap.1 hu; exact h1 x hx u hux) hl' (by simp only [maxLen]; omega) hm hbase _ rfl
  rw [opV_ok hr]
  refine hk g cap w' ?_ hg hgl hlt
  unfold OwnE
  rw [List.flatMap_append, List.length_append]; exact ho
end
theorem OwnE.grown {α : Type} {w w' : World} {lo n : Nat} {T : TypeId} {enc : α → List Value} {v : Value} {l : List α} {row : Option Nat} (h : OwnE w lo T n enc v l) (hg : w.grownBy w' row) (hne : ∀ b, v.ownBlock = some b → row ≠ some b) : OwnE w' lo T n enc v l := by
  obtain ⟨h1, h2⟩ := h
  refine ⟨h1, ?_⟩
  rcases h2 with h2 | ⟨g, cap, cur, hv, hb, hc, h3⟩
  · exact .inl h2
  · refine .inr ⟨g, cap, cur, hv, hb, ?_, h3⟩
    rw [hg.block g (Array.getElem?_eq_some_iff.1 hc).1 (fun e => hne g (by rw [hv]; rfl) e.symm)]
    exact hc
end Go.Sw
namespace Go.Proofs.Ytiajhbbmgglmlaa
open Sw
open Go.RowKit (intOf Below)
set_option maxRecDepth 100000
def addS (o : List ByteArray) (s : ByteArray) : List ByteArray := if o.any (fun y => decide (y = s)) then o else o ++ [s]
theorem dedup_snoc : ∀ (l seen : List ByteArray) (s : ByteArray), dedupA seen (l ++ [s]) = dedupA seen l ++ (if (seen ++ l).any (fun y => decide (s = y)) then [] else [s])
  | [], seen, s => by
    simp only [List.nil_append, dedupA, List.append_nil]
  | a :: l, seen, s => by
    simp only [List.cons_append, dedupA]
    rw [dedup_snoc l (seen ++ [a]) s]
    have : (seen ++ [a] ++ l) = seen ++ a :: l := by simp
    rw [this]
    split <;> simp
theorem mem_dedup : ∀ (l seen : List ByteArray) (s : ByteArray), s ∈ dedupA seen l ↔ s ∈ l ∧ s ∉ seen
  | [], seen, s => by simp [dedupA]
  | a :: l, seen, s => by
    simp only [dedupA]
    by_cases h : (seen.any fun y => decide (a = y)) = true
    · rw [if_pos h, mem_dedup l]
      have ha : a ∈ seen := by obtain ⟨y, h1, h2⟩ := List.any_eq_true.1 h; simp at h2; subst h2; exact h1
      simp only [List.mem_append, List.mem_singleton, List.mem_cons, not_or]
      constructor
      · rintro ⟨h1, h2, h3⟩; exact ⟨.inr h1, h2⟩
      · rintro ⟨h1 | h1, h2⟩
        · subst h1; exact absurd ha h2
        · exact ⟨h1, h2, ⟨fun (e : s = a) => h2 (e ▸ ha), by simp⟩⟩
    · rw [if_neg h]
      have ha : a ∉ seen := fun h2 => h (List.any_eq_true.2 ⟨a, h2, by simp⟩)
      simp only [List.mem_cons, mem_dedup l, List.mem_append, List.mem_singleton, not_or]
      by_cases e : s = a
      · subst e; simp [ha]
      · simp [e]
theorem dedup_fold (l : List ByteArray) : dedupA [] l = l.foldl addS [] := by
  refine snoc_induct (motive := fun l => dedupA [] l = l.foldl addS []) rfl (fun l a ih => ?_) l
  rw [dedup_snoc, List.foldl_append, ← ih, List.nil_append]
  show _ = addS (dedupA [] l) a
  unfold addS
  have : ((dedupA [] l).any fun y => decide (y = a)) = (l.any fun y => decide (a = y)) := by
    rw [Bool.eq_iff_iff, List.any_eq_true, List.any_eq_true]
    constructor
    · rintro ⟨y, h1, h2⟩; simp at h2; subst h2; exact ⟨y, ((mem_dedup l [] y).1 h1).1, by simp⟩
    · rintro ⟨y, h1, h2⟩; simp at h2; subst h2; exact ⟨a, (mem_dedup l [] a).2 ⟨h1, by simp⟩, by simp⟩
  rw [this]
  split <;> simp
theorem addS_len (o : List ByteArray) (s : ByteArray) : o.length ≤ (addS o s).length ∧ (addS o s).length ≤ o.length + 1 := by unfold addS; split <;> simp
theorem foldl_addS_len : ∀ (l o : List ByteArray), (l.foldl addS o).length ≤ o.length + l.length
  | [], o => by simp
  | s :: l, o => by
    have h1 := foldl_addS_len l (addS o s)
    have h2 := (addS_len o s).2
    simp only [List.foldl_cons, List.length_cons]; omega
abbrev OwnS (w : World) (base : Nat) (v : Value) (l : List ByteArray) : Prop := OwnE w base 9 1 strEnc v l
theorem append_strL {w : World} {QP : List PanicEntry → World → Prop} {k : Value → World → Prop} {base : Nat} {v : Value} {l : List ByteArray} (s : ByteArray) {p : Nat} (hown : OwnS w base v l) (hp : w.heap[p]? = some (.cells #[.string s] 9 (0, 0))) (hbase : base ≤ w.heap.size) (hl : l.length ≤ 1048576)
    (hk : ∀ v' w', OwnS w' base v' (l ++ [s]) → w.grownBy w' v.ownBlock → (∀ b, v'.ownBlock = some b → v.ownBlock = some b ∨ b = w.heap.size) → k v' w') :
    opV Try.prog (Builtin.append_ #[63, 63] 63 #[v, .slice (some ⟨p, 0, none⟩) 1 1]) QP w k := by
  have hby := by9
  refine op_appendL (l' := [s]) Try.underlying63 ty9 rfl (by decide) (fun _ => rfl) (fun x _ u hu => by simp at hu; subst hu; rfl) hown (fun j x hx => ?_) hbase (Nat.zero_lt_one) ?_ (by simp; omega) ?_
  · cases j with
    | zero =>
      simp at hx; subst hx
      intro j v hv
      rw [(cells_of_heap hp).1]
      simpa using hv
    | succ j => simp at hx
  · simp only [List.length_cons, List.length_nil]
    exact Nat.le_trans (Nat.mul_le_mul (Nat.add_le_add_right hl 1) hby) (by decide)
  · intro g cap w' h1 h2 h3 h4
    refine hk _ w' h1 h2 (fun b hb => ?_)
    simp only [Value.ownBlock, Option.some.injEq] at hb
    subst hb
    exact h3
def Apart (v u : Value) : Prop := ∀ b, v.ownBlock = some b → u.ownBlock ≠ some b
theorem OwnS.lt {w : World} {base : Nat} {v : Value} {l : List ByteArray} (h : OwnS w base v l) : ∀ b, v.ownBlock = some b → b < w.heap.size := fun b hb => (World.ownsRow.lt h b hb).2
theorem Apart.after {v u v' : Value} {n : Nat} (h : Apart v u) (hu : ∀ b, u.ownBlock = some b → b < n) (hv : ∀ b, v'.ownBlock = some b → v.ownBlock = some b ∨ b = n) : Apart v' u := fun b hb e => by
  rcases hv b hb with h1 | h1
  · exact h b h1 e
  · have := hu b e; omega
def refsL (m : MsgD) : List ByteArray := dedupA [] (allRefs m.fields)
section
variable {W : World} {R : Ending → World → Prop}
theorem rre_in2 {w : World} (e : Ext W w) (sv t6 t4 : Value) (out L : List ByteArray) (hO : OwnS w W.heap.size sv out) (hL : OwnS w W.heap.size t6 L) (hA : Apart sv t6) (hlen : out.length + L.length ≤ 1048576) (next1 : Value → Value → World → Prop)
    (i : Nat) (hi : i < 9223372036854775807) (h4 : t4 = .int .i64 (i : Int)) (hn : ∀ sv' w', Ext W w' → OwnS w' W.heap.size sv' (L.foldl addS out) → next1 sv' (.int .i64 ((i + 1 : Nat) : Int)) w') :
    loop2 (fun t3 t8 w next7 => n_phrasebookref05_Refers_c5 t3 t4 t6 t8 next1 next7 R w) sv (.int .i64 0) w := by
  refine loop2_intro (fun a b w' => ∃ (k : Nat) (sv' : Value), a = sv' ∧ b = .int .i64 k ∧ k ≤ L.length ∧ Ext W w' ∧ OwnS w' W.heap.size sv' ((L.take k).foldl addS out) ∧ OwnS w' W.heap.size t6 L ∧ Apart sv' t6) (fun _ b _ => L.length - (intOf b).toNat) ⟨0, sv, rfl, rfl, by omega, e, hO, hL, hA⟩ ?_
  rintro _ _ w1 ⟨k, sv', rfl, rfl, hk, e1, hO1, hL1, hA1⟩
  have hsl := hL1.slice (E := EStr) (fun _ => rfl) (fun _ _ => rfl)
  obtain ⟨A, c, h6, hlc, hcm, hlm, hel⟩ := SliceOf.open hsl
  unfold n_phrasebookref05_Refers_c5
  rcases drop_cases hk with ⟨x, hx, hd, hlt, hdec⟩ | ⟨hk, hd, hdec⟩
  · have hstep : (L.take (k + 1)).foldl addS out = addS ((L.take k).foldl addS out) x := by rw [take_snoc hx, List.foldl_append]; rfl
    have hol : ((L.take k).foldl addS out).length ≤ 1048576 := by
      have := foldl_addS_len (L.take k) out
      have h2 : (L.take k).length ≤ L.length := by rw [List.length_take]; omega
      omega
    generalize ((L.take k).foldl addS out) = o1 at hO1 hstep hol
    obtain ⟨b6, o6, cs6, hA6, _, hE6, hcs6⟩ := hel k x hx
    subst h6 hA6
    subst hcs6
    simp (disch := first | assumption | (simp only [ONE]; done) | rfl | (simp only [SZ]; done) | omega | (simp only [SZ] at *; omega)) only [↓PR, QR, Int.reduceBEq, Int.reduceBNe, Int.reduceLT, Int.reduceLE, Int.reduceGT, Int.reduceGE, Int.reduceNeg, hdec]
    refine loop2_intro (fun a b w' => ∃ (j : Nat), a = .bool ((o1.take j).any fun y => decide (y = x)) ∧ b = .int .i64 j ∧ j ≤ o1.length ∧ Ext w1 w') (fun _ b _ => o1.length - (intOf b).toNat) ⟨0, by simp, rfl, by omega, Ext.refl _⟩ ?_
    rintro _ _ w2 ⟨j, rfl, rfl, hj, e2⟩
    have hso := hO1.slice (E := EStr) (fun _ => rfl) (fun _ _ => rfl)
    obtain ⟨A3, c3, h3, hlc3, hcm3, hlm3, hel3⟩ := SliceOf.open hso
    unfold n_phrasebookref05_Refers_c4
    rcases drop_cases hj with ⟨y, hy, hdj, hltj, hdecj⟩ | ⟨hj, hdj, hdecj⟩
    · obtain ⟨b3, o3, cs3, hA3, _, hE3, hcs3⟩ := hel3 j y hy
      subst h3 hA3
      subst hcs3
      have hany : ((o1.take (j + 1)).any fun y => decide (y = x)) = (((o1.take j).any fun y => decide (y = x)) || decide (y = x)) := by rw [take_snoc hy, List.any_append]; simp
      simp (disch := first | assumption | (simp only [ONE]; done) | rfl | (simp only [SZ]; done) | omega | (simp only [SZ] at *; omega)) only [↓PR, QR, Int.reduceBEq, Int.reduceBNe, Int.reduceLT, Int.reduceLE, Int.reduceGT, Int.reduceGE, Int.reduceNeg, hdecj]
      refine drawK_intro ?_
      unfold n_phrasebookref05_Refers_c1
      generalize hsn : ((o1.take j).any fun y => decide (y = x)) = sn at hany
      cases sn with
      | true =>
        simp (disch := first | assumption | (simp only [ONE]; done) | rfl | (simp only [SZ]; done) | omega | (simp only [SZ] at *; omega)) only [↓PR, QR, Int.reduceBEq, Int.reduceBNe, Int.reduceLT, Int.reduceLE, Int.reduceGT, Int.reduceGE, Int.reduceNeg]
        refine ⟨⟨j + 1, ?_, rfl, by omega, ee⟩, meas_lt hltj⟩
        rw [hany]; rfl
      | false =>
        simp (disch := first | assumption | (simp only [ONE]; done) | rfl | (simp only [SZ]; done) | omega | (simp only [SZ] at *; omega)) only [↓PR, QR, Int.reduceBEq, Int.reduceBNe, Int.reduceLT, Int.reduceLE, Int.reduceGT, Int.reduceGE, Int.reduceNeg, hE3.c1 e2, hE6.c1 e2]
        refine ⟨⟨j + 1, ?_, rfl, by omega, ee⟩, meas_lt hltj⟩
        rw [hany]; rfl
    · subst hj
      rw [List.take_length]
      have hadd : addS o1 x = if (o1.any fun y => decide (y = x)) = true then o1 else o1 ++ [x] := rfl
      rw [hadd] at hstep
      subst h3
      simp (disch := first | assumption | (simp only [ONE]; done) | rfl | (simp only [SZ]; done) | omega | (simp only [SZ] at *; omega)) only [↓PR, QR, Int.reduceBEq, Int.reduceBNe, Int.reduceLT, Int.reduceLE, Int.reduceGT, Int.reduceGE, Int.reduceNeg, hdecj]
      unfold n_phrasebookref05_Refers_c3
      generalize (o1.any fun y => decide (y = x)) = sn at hstep
      cases sn with
      | true =>
        rw [if_pos rfl] at hstep
        simp (disch := first | assumption | (simp only [ONE]; done) | rfl | (simp only [SZ]; done) | omega | (simp only [SZ] at *; omega)) only [↓PR, QR, Int.reduceBEq, Int.reduceBNe, Int.reduceLT, Int.reduceLE, Int.reduceGT, Int.reduceGE, Int.reduceNeg]
        exact ⟨⟨k + 1, _, rfl, rfl, by omega, e1.trans e2, by rw [hstep]; exact hO1.ext e2, hL1.ext e2, hA1⟩, meas_lt hlt⟩
      | false =>
        rw [if_neg (by simp)] at hstep
        simp (disch := first | assumption | (simp only [ONE]; done) | rfl | (simp only [SZ]; done) | omega | (simp only [SZ] at *; omega)) only [↓PR, QR, Int.reduceBEq, Int.reduceBNe, Int.reduceLT, Int.reduceLE, Int.reduceGT, Int.reduceGE, Int.reduceNeg, n_phrasebookref05_Refers_c2, hE6.c1 e2]
        have ea : Ext w1 (w2.alloc (Obj.cells #[.string x] 9)) := e2.alloc _
        have hsz : (w2.alloc (Obj.cells #[.string x] 9)).heap.size = w2.heap.size + 1 := by simp only [World.size_alloc]
        have s1 := e1.size
        have s2 := e2.size
        refine append_strL x (hO1.ext ea) (heap_new w2 _ _) (by omega) hol ?_
        intro v' w' hO' hg hv'
        have ew : Ext W w' := (e1.trans ea).grown hg (fun b hb => (World.ownsRow.lt hO1 b hb).1)
        simp (disch := first | assumption | (simp only [ONE]; done) | rfl | (simp only [SZ]; done) | omega | (simp only [SZ] at *; omega)) only [↓PR, QR, Int.reduceBEq, Int.reduceBNe, Int.reduceLT, Int.reduceLE, Int.reduceGT, Int.reduceGE, Int.reduceNeg]
        refine ⟨⟨k + 1, v', rfl, rfl, by omega, ew, by rw [hstep]; exact hO', (hL1.ext ea).grown hg (fun b hb e => hA1 b e hb), hA1.after (fun b hb => ?_) hv'⟩, meas_lt hlt⟩
        have := hL1.lt b hb
        omega
  · subst hk
    rw [List.take_length] at hO1
    subst h6
    rw [h4]
    simp (disch := first | assumption | (simp only [ONE]; done) | rfl | (simp only [SZ]; done) | omega | (simp only [SZ] at *; omega)) only [↓PR, QR, Int.reduceBEq, Int.reduceBNe, Int.reduceLT, Int.reduceLE, Int.reduceGT, Int.reduceGE, Int.reduceNeg, hdec]
    exact hn _ w1 e1 hO1
theorem rre_c8 {w : World} (e : Ext W w) (x : FieldD) (tv cv : Value) (p5 : Nat) (o5 : w.heap[p5]? = some (.cells (fieldCells x tv cv).toArray 28 (0, 0))) (hC : CasesOf W cv x.cases) (sv t6 t4 : Value) (out : List ByteArray) (hO : OwnS w W.heap.size sv out) (hlen : out.length + (refsF x).length ≤ 1048576)
    (h6 : (x.kind ≠ 9 ∧ OwnS w W.heap.size t6 (refsF x) ∧ Apart sv t6) ∨ (x.kind = 9 ∧ t6 = .slice none 0 0)) (next1 : Value → Value → World → Prop) (i : Nat) (hi : i < 9223372036854775807) (h4 : t4 = .int .i64 (i : Int))
    (hn : ∀ sv' w', Ext W w' → OwnS w' W.heap.size sv' ((refsF x).foldl addS out) → next1 sv' (.int .i64 ((i + 1 : Nat) : Int)) w') :
    loop2 (fun t6 t7 w next5 => n_phrasebookref05_Refers_c8 sv t4 (.pointer (some ⟨p5, 0, none⟩)) t6 t7 next1 next5 R w) t6 (.int .i64 0) w := by
  rcases h6 with ⟨hk, hL, hA⟩ | ⟨hk, rfl⟩
  · refine loop2_intro (fun a b w' => a = t6 ∧ b = .int .i64 0 ∧ w' = w) (fun _ _ _ => 0) ⟨rfl, rfl, rfl⟩ ?_
    rintro _ _ _ ⟨rfl, rfl, rfl⟩
    unfold n_phrasebookref05_Refers_c8
    have k9 : (x.kind == 9) = false := by simpa using hk
    simp (disch := first | assumption | (simp only [ONE]; done) | rfl | (simp only [SZ]; done) | omega | (simp only [SZ] at *; omega)) only [↓PR, QR, Int.reduceBEq, Int.reduceBNe, Int.reduceLT, Int.reduceLE, Int.reduceGT, Int.reduceGE, Int.reduceNeg, (cells_of_heap o5).1, k9, n_phrasebookref05_Refers_c7]
    exact rre_in2 e sv _ t4 out (refsF x) hO hL hA hlen next1 i hi h4 hn
  · have hr : refsF x = x.cases.map (·.of) := by unfold refsF; rw [if_neg (by omega), if_pos hk]
    have k9 : (x.kind == 9) = true := by simpa using hk
    obtain ⟨A, c, rfl, hlc, hcm, hlm, hel⟩ := SliceOf.open hC
    have l5 : p5 < w.heap.size := (Array.getElem?_eq_some_iff.1 o5).1
    rw [hr] at hlen hn
    simp only [List.length_map] at hlen
    refine loop2_intro (fun a b w' => ∃ (k : Nat) (u : Value), a = u ∧ b = .int .i64 k ∧ k ≤ x.cases.length ∧ Ext W w' ∧ w'.heap[p5]? = some (.cells (fieldCells x tv (.slice A x.cases.length c)).toArray 28 (0, 0)) ∧ OwnS w' w.heap.size u ((x.cases.take k).map (·.of)) ∧ OwnS w' W.heap.size sv out ∧ w.heap.size ≤ w'.heap.size) (fun _ b _ => x.cases.length - (intOf b).toNat) ⟨0, _, rfl, rfl, by omega, e, o5, OwnE.nil _ _ _ _ _, hO, Nat.le_refl _⟩ ?_
    rintro u _ w1 ⟨k, _, rfl, rfl, hk1, e1, y5, hU, hO1, hs1⟩
    have hAp : Apart sv u := fun b hb e => by
      have h1 := hO.lt b hb
      have h2 := (World.ownsRow.lt hU b e).1
      omega
    unfold n_phrasebookref05_Refers_c8
    rcases drop_cases hk1 with ⟨y, hy, hd, hlt, hdec⟩ | ⟨hk1, hd, hdec⟩
    · obtain ⟨b, o, cs, rfl, hl, hA, rfl⟩ := hel k y hy
      simp (disch := first | assumption | (simp only [ONE]; done) | rfl | (simp only [SZ]; done) | omega | (simp only [SZ] at *; omega)) only [↓PR, QR, Int.reduceBEq, Int.reduceBNe, Int.reduceLT, Int.reduceLE, Int.reduceGT, Int.reduceGE, Int.reduceNeg, (cells_of_heap y5).1, k9, hdec, n_phrasebookref05_Refers_c7]
      unfold n_phrasebookref05_Refers_c6
      simp (disch := first | assumption | (simp only [ONE]; done) | rfl | (simp only [SZ]; done) | omega | (simp only [SZ] at *; omega)) only [↓PR, QR, Int.reduceBEq, Int.reduceBNe, Int.reduceLT, Int.reduceLE, Int.reduceGT, Int.reduceGE, Int.reduceNeg, (cells_of_heap y5).1, hA.c3 e1]
      have ea : Ext w1 (w1.alloc (Obj.cells #[.string y.of] 9)) := ee
      have hsz : (w1.alloc (Obj.cells #[.string y.of] 9)).heap.size = w1.heap.size + 1 := by simp only [World.size_alloc]
      have sW := e.size
      refine append_strL y.of (hU.ext ea) (heap_new w1 _ _) (by omega) (by rw [List.length_map, List.length_take]; omega) ?_
      intro v' w' hO' hg hv'
      have ew : Ext W w' := (e1.trans ea).grown hg (fun b hb => by have := (World.ownsRow.lt hU b hb).1; omega)
      have hsw := hg.size
      simp (disch := first | assumption | (simp only [ONE]; done) | rfl | (simp only [SZ]; done) | omega | (simp only [SZ] at *; omega)) only [↓PR, QR, Int.reduceBEq, Int.reduceBNe, Int.reduceLT, Int.reduceLE, Int.reduceGT, Int.reduceGE, Int.reduceNeg]
      refine ⟨⟨k + 1, v', rfl, rfl, by omega, ew, ?_, ?_, (hO1.ext ea).grown hg (fun b hb e => hAp b hb e), by omega⟩, meas_lt hlt⟩
      · rw [hg.block p5 (by omega) (fun e => by have := (World.ownsRow.lt hU p5 e.symm).1; omega)]
        exact ea.obj y5
      · rw [take_snoc hy, List.map_append]; exact hO'
    · subst hk1
      rw [List.take_length] at hU
      simp (disch := first | assumption | (simp only [ONE]; done) | rfl | (simp only [SZ]; done) | omega | (simp only [SZ] at *; omega)) only [↓PR, QR, Int.reduceBEq, Int.reduceBNe, Int.reduceLT, Int.reduceLE, Int.reduceGT, Int.reduceGE, Int.reduceNeg, (cells_of_heap y5).1, k9, hdec, n_phrasebookref05_Refers_c7]
      exact rre_in2 e1 sv _ t4 out (x.cases.map (·.of)) hO1 (OwnE.base hU e.size) hAp (by simpa using hlen) next1 i hi h4 hn
theorem rRefers_ret (w0 : World) (v : Value) (m : MsgD) (hm : MsgVal w0 v m) (hb : (allRefs m.fields).length ≤ 1048576) :
    Ret Try.prog 25 #[v] w0 fun r w' => OwnS w' w0.heap.size r (refsL m) ∧ Ext w0 w' := by
  obtain ⟨fv, rfl, hF⟩ := hm
  obtain ⟨A, c, rfl, hlc, hcm, hlm, hel⟩ := SliceOf.open hF
  refine n_phrasebookref05_Refers_sound (R := retR _) ?_; unfold n_phrasebookref05_Refers
  simp (disch := first | assumption | (simp only [ONE]; done) | rfl | (simp only [SZ]; done) | omega | (simp only [SZ] at *; omega)) only [↓PR, QR, Int.reduceBEq, Int.reduceBNe, Int.reduceLT, Int.reduceLE, Int.reduceGT, Int.reduceGE, Int.reduceNeg]
  have hBW := ElemAt.new (w := w0) (msgCells m (.slice A m.fields.length c)) (50)
  have eW : Ext w0 (w0.alloc (Obj.cells (List.toArray (msgCells m (.slice A m.fields.length c))) (50))) := (Ext.refl _).alloc _
  generalize (w0.alloc (Obj.cells (List.toArray (msgCells m (.slice A m.fields.length c))) (50))) = W at hBW eW ⊢
  have hW : w0.heap.size ≤ W.heap.size := eW.size
  refine loop2_intro (fun a b w' => ∃ (k : Nat) (sv : Value), a = sv ∧ b = .int .i64 k ∧ k ≤ m.fields.length ∧ Ext W w' ∧ OwnS w' W.heap.size sv (dedupA [] (allRefs (m.fields.take k)))) (fun _ b _ => m.fields.length - (intOf b).toNat) ⟨0, _, rfl, rfl, by omega, Ext.refl _, OwnE.nil _ _ _ _ _⟩ ?_
  rintro sv _ w1 ⟨k, _, rfl, rfl, hk, e, hO⟩
  have e' := eW.trans e
  have s1 := e.size
  unfold n_phrasebookref05_Refers_c13
  rcases drop_cases hk with ⟨x, hx, hd, hlt, hdec⟩ | ⟨hk, hd, hdec⟩
  · obtain ⟨b, o, cs, rfl, hl, hA, hE⟩ := hel k x hx
    obtain ⟨tv, cv, rfl, hT, hC, ht1, hc1⟩ := hE.op
    have hpre : allRefs (m.fields.take (k + 1)) = allRefs (m.fields.take k) ++ refsF x := by unfold allRefs; rw [take_snoc hx, List.flatMap_append]; simp
    have hle : (allRefs (m.fields.take k)).length + (refsF x).length ≤ 1048576 := by
      have h1 : (allRefs (m.fields.take (k + 1))).length ≤ (allRefs m.fields).length := by
        conv => rhs; rw [← List.take_append_drop (k + 1) m.fields]
        unfold allRefs
        rw [List.flatMap_append, List.length_append]; omega
      rw [hpre, List.length_append] at h1; omega
    have hout : (dedupA [] (allRefs (m.fields.take k))).length ≤ (allRefs (m.fields.take k)).length := by
      rw [dedup_fold]; have := foldl_addS_len (allRefs (m.fields.take k)) []; simpa using this
    have hle' : (dedupA [] (allRefs (m.fields.take k))).length + (refsF x).length ≤ 1048576 := by omega
    have hnext : dedupA [] (allRefs (m.fields.take (k + 1))) = (refsF x).foldl addS (dedupA [] (allRefs (m.fields.take k))) := by rw [hpre, dedup_fold, dedup_fold, List.foldl_append]
    simp (disch := first | assumption | (simp only [ONE]; done) | rfl | (simp only [SZ]; done) | omega | (simp only [SZ] at *; omega)) only [↓PR, QR, Int.reduceBEq, Int.reduceBNe, Int.reduceLT, Int.reduceLE, Int.reduceGT, Int.reduceGE, Int.reduceNeg, hdec, hBW.c2]
    unfold n_phrasebookref05_Refers_c12
    simp (disch := first | assumption | (simp only [ONE]; done) | rfl | (simp only [SZ]; done) | omega | (simp only [SZ] at *; omega)) only [↓PR, QR, Int.reduceBEq, Int.reduceBNe, Int.reduceLT, Int.reduceLE, Int.reduceGT, Int.reduceGE, Int.reduceNeg, hBW.c2, hA.c15 e']
    have ea : Ext w1 (w1.alloc (Obj.cells (fieldCells x tv cv).toArray 28)) := ee
    have o5 := heap_new w1 (fieldCells x tv cv).toArray 28
    have hO2 := hO.ext ea
    have ew := e.trans ea
    have hbn : ∀ sv' w', Ext W w' → OwnS w' W.heap.size sv' ((refsF x).foldl addS (dedupA [] (allRefs (m.fields.take k)))) → (∃ (k' : Nat) (sv : Value), sv' = sv ∧ (Value.int .i64 ((k + 1 : Nat) : Int)) = .int .i64 k' ∧ k' ≤ m.fields.length ∧ Ext W w' ∧ OwnS w' W.heap.size sv (dedupA [] (allRefs (m.fields.take k')))) ∧ m.fields.length - (intOf (Value.int .i64 ((k + 1 : Nat) : Int))).toNat < m.fields.length - (intOf (Value.int .i64 (k : Int))).toNat :=
      fun sv' w' ew h => ⟨⟨k + 1, sv', rfl, rfl, by omega, ew, by rw [hnext]; exact h⟩, meas_lt hlt⟩
    have hCW := CasesOf.ext hC eW
    have lo : ∀ b, sv.ownBlock = some b → b < w1.heap.size := fun b hb => hO.lt b hb
    generalize hw2 : (w1.alloc (Obj.cells (fieldCells x tv cv).toArray 28)) = w2 at ea o5 hO2 ew
    have hs2 : w2.heap.size = w1.heap.size + 1 := by rw [← hw2]; simp only [World.size_alloc]
    by_cases hr : x.kind = 7 ∨ x.kind = 8 ∨ x.kind = 12
    · have hrf : refsF x = [x.of] := by unfold refsF; rw [if_pos hr]
      have tail : joinK (fun (t6 : Value) (w : World) => loop2 (fun t6 t7 w next5 => n_phrasebookref05_Refers_c8 sv (.int .i64 (k : Int)) (.pointer (some ⟨w1.heap.size, 0, none⟩)) t6 t7 (fun a0' a1' w' => (∃ (k' : Nat) (sv : Value), a0' = sv ∧ a1' = .int .i64 k' ∧ k' ≤ m.fields.length ∧ Ext W w' ∧ OwnS w' W.heap.size sv (dedupA [] (allRefs (m.fields.take k')))) ∧ m.fields.length - (intOf a1').toNat < m.fields.length - (intOf (Value.int .i64 (k : Int))).toNat) next5 (retR fun r w' => OwnS w' w0.heap.size r (refsL m) ∧ Ext w0 w') w) t6 (.int .i64 0) w) fun K4 => n_phrasebookref05_Refers_c9 (.pointer (some ⟨w1.heap.size, 0, none⟩)) K4 (retR fun r w' => OwnS w' w0.heap.size r (refsL m) ∧ Ext w0 w') w2 := by
        rw [joinK_eq]
        unfold n_phrasebookref05_Refers_c9
        simp (disch := first | assumption | (simp only [ONE]; done) | rfl | (simp only [SZ]; done) | omega | (simp only [SZ] at *; omega)) only [↓PR, QR, Int.reduceBEq, Int.reduceBNe, Int.reduceLT, Int.reduceLE, Int.reduceGT, Int.reduceGE, Int.reduceNeg, (cells_of_heap o5).1]
        have eb : Ext w2 (w2.alloc (Obj.cells #[.string x.of] 9)) := ee
        have hsb : (w2.alloc (Obj.cells #[.string x.of] 9)).heap.size = w2.heap.size + 1 := by simp only [World.size_alloc]
        refine append_strL x.of (OwnE.nil _ W.heap.size _ _ _) (heap_new w2 _ _) (by omega) (by decide) ?_
        intro v' w' hO' hg hv'
        have eg : Ext w1 w' := (ea.trans eb).grown hg (fun b hb => by cases hb)
        refine rre_c8 (e.trans eg) x tv cv w1.heap.size ?_ hCW sv v' _ _ (hO.ext eg) hle' (.inl ⟨by omega, by rw [hrf]; exact hO', fun b hb e => ?_⟩) _ k (by omega) rfl hbn
        · exact (Ext.grown (Ext.refl _) hg (fun b hb => by cases hb)).obj (eb.obj o5)
        · rcases hv' b e with h1 | h1
          · cases h1
          · have := lo b hb; omega
      rw [joinK_eq] at tail
      rcases hr with h7 | h8 | h12
      · have k7 : (x.kind == 7) = true := by simpa using h7
        simp (disch := first | assumption | (simp only [ONE]; done) | rfl | (simp only [SZ]; done) | omega | (simp only [SZ] at *; omega)) only [↓PR, QR, Int.reduceBEq, Int.reduceBNe, Int.reduceLT, Int.reduceLE, Int.reduceGT, Int.reduceGE, Int.reduceNeg, k7, n_phrasebookref05_Refers_c11, n_phrasebookref05_Refers_c10]
        exact tail
      · have k7 : (x.kind == 7) = false := by simp; omega
        have k8 : (x.kind == 8) = true := by simpa using h8
        simp (disch := first | assumption | (simp only [ONE]; done) | rfl | (simp only [SZ]; done) | omega | (simp only [SZ] at *; omega)) only [↓PR, QR, Int.reduceBEq, Int.reduceBNe, Int.reduceLT, Int.reduceLE, Int.reduceGT, Int.reduceGE, Int.reduceNeg, k7, k8, n_phrasebookref05_Refers_c11, n_phrasebookref05_Refers_c10, (cells_of_heap o5).1]
        exact tail
      · have k7 : (x.kind == 7) = false := by simp; omega
        have k8 : (x.kind == 8) = false := by simp; omega
        have k12 : (x.kind == 12) = true := by simpa using h12
        simp (disch := first | assumption | (simp only [ONE]; done) | rfl | (simp only [SZ]; done) | omega | (simp only [SZ] at *; omega)) only [↓PR, QR, Int.reduceBEq, Int.reduceBNe, Int.reduceLT, Int.reduceLE, Int.reduceGT, Int.reduceGE, Int.reduceNeg, k7, k8, k12, n_phrasebookref05_Refers_c11, n_phrasebookref05_Refers_c10, (cells_of_heap o5).1]
        exact tail
    · have k7 : (x.kind == 7) = false := by simp; omega
      have k8 : (x.kind == 8) = false := by simp; omega
      have k12 : (x.kind == 12) = false := by simp; omega
      simp (disch := first | assumption | (simp only [ONE]; done) | rfl | (simp only [SZ]; done) | omega | (simp only [SZ] at *; omega)) only [↓PR, QR, Int.reduceBEq, Int.reduceBNe, Int.reduceLT, Int.reduceLE, Int.reduceGT, Int.reduceGE, Int.reduceNeg, k7, k8, k12, n_phrasebookref05_Refers_c11, n_phrasebookref05_Refers_c10, (cells_of_heap o5).1]
      refine rre_c8 ew x tv cv w1.heap.size o5 hCW sv _ _ _ hO2 hle' ?_ _ k (by omega) rfl hbn
      by_cases h9 : x.kind = 9
      · exact .inr ⟨h9, rfl⟩
      · have hrf : refsF x = [] := by unfold refsF; rw [if_neg hr, if_neg h9]
        exact .inl ⟨h9, by rw [hrf]; exact OwnE.nil _ _ _ _ _, fun b _ e => by cases e⟩
  · subst hk
    rw [List.take_length] at hO
    simp (disch := first | assumption | (simp only [ONE]; done) | rfl | (simp only [SZ]; done) | omega | (simp only [SZ] at *; omega)) only [↓PR, QR, Int.reduceBEq, Int.reduceBNe, Int.reduceLT, Int.reduceLE, Int.reduceGT, Int.reduceGE, Int.reduceNeg, hdec, hBW.c2]
    exact ⟨OwnE.base hO hW, ee⟩
end
end Go.Proofs.Ytiajhbbmgglmlaa
namespace Go.Proofs.Ytiajhbbmgglmlaa
open Sw
open Go.RowKit (intOf Below)
set_option maxRecDepth 100000
structure Save (lo hi : Nat) (w w' : World) : Prop where
  os : w'.os = w.os
  tape : w'.tape = w.tape
  output : w'.output = w.output
  size : w.heap.size ≤ w'.heap.size
  block : ∀ k, k < w.heap.size → (k < lo ∨ hi ≤ k) → w'.heap[k]? = w.heap[k]?
section
variable {lo hi : Nat} {w w' w1 w2 : World}
theorem Save.refl (lo hi : Nat) (w : World) : Save lo hi w w := ⟨rfl, rfl, rfl, Nat.le_refl _, fun _ _ _ => rfl⟩
theorem Save.ext (h : Save lo hi w w1) (e : Ext w1 w2) : Save lo hi w w2 := ⟨e.os.trans h.os, e.tape.trans h.tape, e.output.trans h.output, Nat.le_trans h.size e.size, fun k hk hb => (e.block k (Nat.lt_of_lt_of_le hk h.size)).trans (h.block k hk hb)⟩
theorem Save.trans (h : Save lo hi w w1) (k : Save lo hi w1 w2) : Save lo hi w w2 := ⟨k.os.trans h.os, k.tape.trans h.tape, k.output.trans h.output, Nat.le_trans h.size k.size, fun i hi' hb => (k.block i (Nat.lt_of_lt_of_le hi' h.size) hb).trans (h.block i hi' hb)⟩
theorem Save.setCell (h : Save lo hi w w1) {b o : Nat} (h1 : lo ≤ b) (h2 : b < hi) (v : Value) : Save lo hi w (w1.setCell ⟨b, o, none⟩ v) :=
  ⟨h.os, h.tape, h.output, by rw [World.size_setCell]; exact h.size, fun k hk hb => (Only.setCell w1 b o v k (by omega)).trans (h.block k hk hb)⟩
theorem Save.to_ext {a : World} (h : Save lo hi w w') (e : Ext a w) (hl : a.heap.size ≤ lo) : Ext a w' := ⟨h.os.trans e.os, h.tape.trans e.tape, h.output.trans e.output, Nat.le_trans e.size h.size, fun k hk => (h.block k (Nat.lt_of_lt_of_le hk e.size) (.inl (by omega))).trans (e.block k hk)⟩
theorem Save.obj (h : Save lo hi w w') {b : Nat} {o : Obj} (hb : w.heap[b]? = some o) (hr : b < lo ∨ hi ≤ b) : w'.heap[b]? = some o := (h.block b (Array.getElem?_eq_some_iff.1 hb).1 hr).trans hb
theorem Save.cell (h : Save lo hi w w') {b o : Nat} {v : Value} (hb : w.cell? ⟨b, o, none⟩ = some v) (hr : b < lo ∨ hi ≤ b) : w'.cell? ⟨b, o, none⟩ = some v := (World.cell?_of_block (h.block b (World.block_lt_of_cell? w _ hb) hr)).trans hb
theorem Save.strs (h : Save lo hi w w') {pb : Nat} {sv : Value} {l : List ByteArray} (hs : StrsAt w pb sv l) (hp : hi ≤ pb) : StrsAt w' pb sv l := by
  obtain ⟨h1, ⟨A, c, hv, h2, h3, h4⟩, h5⟩ := hs
  refine ⟨h.cell h1 (.inr hp), ⟨A, c, hv, h2, h3, fun hne => ?_⟩, h5⟩
  obtain ⟨b, o, hA, hel⟩ := h4 hne
  refine ⟨b, o, hA, fun k x hx => ?_⟩
  obtain ⟨cs, a1, a2, a3⟩ := hel k x hx
  have hb : pb < b := h5 ⟨b, o, none⟩ _ _ (by rw [hv, hA])
  exact ⟨cs, a1, fun j v hv => h.cell (a2 j v hv) (.inr (by omega)), a3⟩
def ShapeC (w : World) (lo hi : Nat) (cv : Value) : Prop := cv = .slice none 0 0 ∨ ∃ g len cap cur, cv = .slice (some ⟨g, 0, none⟩) len cap ∧ lo ≤ g ∧ g < hi ∧ w.heap[g]? = some (.cells cur TC (0, 0)) ∧ len * 3 ≤ cur.size ∧ len ≤ 1048576
def ShapeF (w : World) (lo hi : Nat) (fv : Value) (n : Nat) : Prop := (fv = .slice none 0 0 ∧ n = 0) ∨ ∃ g cap cur, fv = .slice (some ⟨g, 0, none⟩) n cap ∧ lo ≤ g ∧ g < hi ∧ w.heap[g]? = some (.cells cur TF (0, 0)) ∧ n * 15 ≤ cur.size ∧ ∀ k, k < n → ∃ cv, cur[k * 15 + 12]? = some cv ∧ ShapeC w lo hi cv
theorem ShapeC.set {cv : Value} (h : ShapeC w lo hi cv) (b o : Nat) (v : Value) : ShapeC (w.setCell ⟨b, o, none⟩ v) lo hi cv := by
  rcases h with h | ⟨g, len, cap, cur, h1, h2, h3, h4, h5, h6⟩
  · exact .inl h
  · by_cases e : g = b
    · subst e
      exact .inr ⟨g, len, cap, _, h1, h2, h3, heap_set h4 v, by simpa using h5, h6⟩
    · exact .inr ⟨g, len, cap, cur, h1, h2, h3, (Only.setCell w b o v g e).trans h4, h5, h6⟩
theorem ShapeC.ext {cv : Value} (h : ShapeC w lo hi cv) (e : Ext w w') : ShapeC w' lo hi cv := by
  rcases h with h | ⟨g, len, cap, cur, h1, h2, h3, h4, h5, h6⟩
  · exact .inl h
  · exact .inr ⟨g, len, cap, cur, h1, h2, h3, e.obj h4, h5, h6⟩
theorem ShapeF.ext {fv : Value} {n : Nat} (h : ShapeF w lo hi fv n) (e : Ext w w') : ShapeF w' lo hi fv n := by
  rcases h with h | ⟨g, cap, cur, h1, h2, h3, h4, h5, h6⟩
  · exact .inl h
  · exact .inr ⟨g, cap, cur, h1, h2, h3, e.obj h4, h5, fun k hk => let ⟨cv, a, b⟩ := h6 k hk; ⟨cv, a, b.ext e⟩⟩
theorem ShapeF.set {fv : Value} {n : Nat} (h : ShapeF w lo hi fv n) (b o : Nat) (v : Value) (ho : ∀ T cur, w.heap[b]? = some (.cells cur T (0, 0)) → T = TF → o % 15 ≠ 12) : ShapeF (w.setCell ⟨b, o, none⟩ v) lo hi fv n := by
  rcases h with h | ⟨g, cap, cur, h1, h2, h3, h4, h5, h6⟩
  · exact .inl h
  · by_cases e : g = b
    · subst e
      refine .inr ⟨g, cap, _, h1, h2, h3, heap_set h4 v, by simpa using h5, fun k hk => ?_⟩
      obtain ⟨cv, a, hc⟩ := h6 k hk
      have := ho _ _ h4 rfl
      refine ⟨cv, ?_, hc.set _ _ _⟩
      rw [Array.getElem?_setIfInBounds_ne (by omega)]
      exact a
    · exact .inr ⟨g, cap, cur, h1, h2, h3, (Only.setCell w b o v g e).trans h4, h5, fun k hk => let ⟨cv, a, c⟩ := h6 k hk; ⟨cv, a, c.set _ _ _⟩⟩
theorem FieldsN.shape {fv : Value} {l : List FieldD} (h : FieldsN w lo hi fv l) (ht : ∀ f ∈ l, f.cases.length ≤ 1048576) : ShapeF w lo hi fv l.length := by
  obtain ⟨css, ⟨⟨h1, h2⟩, h3⟩, hm1, hm2⟩ := h
  rcases h2 with ⟨hv, h0⟩ | ⟨g, cap, cur, hv, hb, hc, hn, _, hsz, htake⟩
  · exact .inl ⟨hv, by rw [← hm1]; exact h0⟩
  · refine .inr ⟨g, cap, cur, by rw [hv, hm1], hb, h3 g (by rw [hv]; rfl), hc, by rw [hsz, ← hm1]; exact Nat.mul_le_mul_right _ hn, fun k hk => ?_⟩
    obtain ⟨x, hx⟩ := getElem?_lt hk
    obtain ⟨cs, hcs⟩ := getElem?_lt (l := css) (k := k) (by rw [hm1]; exact hk)
    obtain ⟨tv, cv, he, hT, hC⟩ := hm2 k x cs hx hcs
    refine ⟨cv, ?_, ?_⟩
    · have := flatMap_get (enc := (Subtype.val : Cs 15 → List Value)) (fun x => x.2) css k cs 12 cv hcs (by rw [he]; rfl)
      rw [← htake, List.getElem?_take] at this
      split at this
      · simpa using this
      · cases this
    · obtain ⟨⟨_, h2⟩, h3⟩ := hC
      rcases h2 with ⟨hv, _⟩ | ⟨g, cap, cur, hv, hb, hc, hn, _, hsz, _⟩
      · exact .inl hv
      · exact .inr ⟨g, _, cap, cur, hv, hb, h3 g (by rw [hv]; rfl), hc, by rw [hsz]; exact Nat.mul_le_mul_right _ hn, ht x (List.mem_of_getElem? hx)⟩
end
end Go.Proofs.Ytiajhbbmgglmlaa
namespace Go.Proofs.Ytiajhbbmgglmlaa
open Sw
def n_phrasebooklaw05_SchemaRefers_c1 (t4 t6 t8 t9 : Value) (next2 : Value → World → Prop) (ds : List Deferred) (R : Ending → World → Prop) (w : World) : Prop :=
 opV Try.prog (Instr.fieldAt 50 t6 1) (outQ Try.prog ds [(some 4, t4)] R) w fun t59 w =>
 opV Try.prog (Instr.loadAt 48 t59) (outQ Try.prog ds [(some 4, t4)] R) w fun t60 w =>
 opV Try.prog (Instr.indexAt 48 t60 t8) (outQ Try.prog ds [(some 4, t4)] R) w fun t62 w =>
 opV Try.prog (Instr.fieldAt 28 t62 11) (outQ Try.prog ds [(some 4, t4)] R) w fun t63 w =>
 opV Try.prog (Instr.loadAt 26 t63) (outQ Try.prog ds [(some 4, t4)] R) w fun t64 w =>
 opV Try.prog (Instr.indexAt 26 t64 t9) (outQ Try.prog ds [(some 4, t4)] R) w fun t66 w =>
 opV Try.prog (Instr.fieldAt 62 t66 2) (outQ Try.prog ds [(some 4, t4)] R) w fun t67 w =>
 opU Try.prog (Instr.storeAt 9 t67 (.string { data := #[121] })) (outQ Try.prog ds [(some 4, t4)] R) w fun w =>
 opV Try.prog (binS .add 3 true t9 (.int .i64 1)) (outQ Try.prog ds [(some 4, t4)] R) w fun t58 w =>
 next2 t58 w
def n_phrasebooklaw05_SchemaRefers_c2 (t4 t6 t8 t9 : Value) (next1 : Value → World → Prop) (next2 : Value → World → Prop) (ds : List Deferred) (R : Ending → World → Prop) (w : World) : Prop :=
 opV Try.prog (Instr.fieldAt 50 t6 1) (outQ Try.prog ds [(some 4, t4)] R) w fun t49 w =>
 opV Try.prog (Instr.loadAt 48 t49) (outQ Try.prog ds [(some 4, t4)] R) w fun t50 w =>
 opV Try.prog (Instr.indexAt 48 t50 t8) (outQ Try.prog ds [(some 4, t4)] R) w fun t52 w =>
 opV Try.prog (Instr.fieldAt 28 t52 11) (outQ Try.prog ds [(some 4, t4)] R) w fun t53 w =>
 opV Try.prog (Instr.loadAt 26 t53) (outQ Try.prog ds [(some 4, t4)] R) w fun t54 w =>
 opV Try.prog (Builtin.len_ #[26] 3 #[t54]) (outQ Try.prog ds [(some 4, t4)] R) w fun t55 w =>
 opV Try.prog (binS .lss 3 false t9 t55) (outQ Try.prog ds [(some 4, t4)] R) w fun t56 w =>
 condP t56 (
 n_phrasebooklaw05_SchemaRefers_c1 t4 t6 t8 t9 next2 ds R w) (
 opV Try.prog (binS .add 3 true t8 (.int .i64 1)) (outQ Try.prog ds [(some 4, t4)] R) w fun t42 w =>
 next1 t42 w)
def n_phrasebooklaw05_SchemaRefers_c3 (t3 t11 t12 : Value) (Kr4 : World → Prop) (Qr4 : List PanicEntry → World → Prop) (Xr4 : Nat → World → Prop) (R : Ending → World → Prop) (w : World) : Prop :=
 opV Try.prog (Instr.loadAt 3 t12) Qr4 w fun t88 w =>
 opV Try.prog (binS .add 3 true t88 (.int .i64 1)) Qr4 w fun t89 w =>
 opU Try.prog (Instr.storeAt 3 t12 t89) Qr4 w fun w =>
 opV Try.prog (Instr.loadAt 3 t11) Qr4 w fun t90 w =>
 opV Try.prog (binS .eql 3 true t90 (.int .i64 0)) Qr4 w fun t91 w =>
 joinK (fun (t95 : Value) (w : World) =>
 pickK t91 t95 (.bool false) fun t96 =>
 condP t96 (
 Xr4 1 w) (
 Kr4 w)) fun K6 =>
 guardP t91 true (
 opV Try.prog (Instr.loadAt 3 t12) Qr4 w fun t93 w =>
 opV Try.prog (Instr.loadAt 3 t3) Qr4 w fun t94 w =>
 opV Try.prog (binS .geq 3 false t93 t94) Qr4 w fun t95 w =>
 K6 t95 w) (
 K6 undef w)
def n_phrasebooklaw05_SchemaRefers_c4 (t3 t4 t10 t11 t12 t75 : Value) (Kr4 : World → Prop) (Qr4 : List PanicEntry → World → Prop) (Xr4 : Nat → World → Prop) (R : Ending → World → Prop) (w : World) : Prop :=
 opV Try.prog (Instr.loadAt 3 t12) Qr4 w fun t76 w =>
 opV Try.prog (Instr.loadAt 63 t10) Qr4 w fun t77 w =>
 opV Try.prog (Builtin.len_ #[63] 3 #[t77]) Qr4 w fun t78 w =>
 opV Try.prog (binS .geq 3 false t76 t78) Qr4 w fun t79 w =>
 joinK (fun (t86 : Value) (w : World) =>
 pickK t79 (.bool true) t86 fun t87 =>
 condP t87 (
 opU Try.prog (Instr.storeAt 4 t4 (.bool false)) Qr4 w fun w =>
 Xr4 0 w) (
 n_phrasebooklaw05_SchemaRefers_c3 t3 t11 t12 Kr4 Qr4 Xr4 R w)) fun K5 =>
 guardP t79 false (
 opV Try.prog (Instr.loadAt 63 t10) Qr4 w fun t82 w =>
 opV Try.prog (Instr.loadAt 3 t12) Qr4 w fun t83 w =>
 opV Try.prog (Instr.indexAt 63 t82 t83) Qr4 w fun t84 w =>
 opV Try.prog (Instr.loadAt 9 t84) Qr4 w fun t85 w =>
 opV Try.prog (binS .neq 9 false t75 t85) Qr4 w fun t86 w =>
 K5 t86 w) (
 K5 undef w)
def n_phrasebooklaw05_SchemaRefers_c5 (t4 t11 : Value) (next3 : List Deferred → Value → World → Prop) (ds : List Deferred) (R : Ending → World → Prop) (w : World) : Prop :=
 opV Try.prog (Instr.loadAt 3 t11) (outQ Try.prog ds [(some 4, t4)] R) w fun t118 w =>
 opV Try.prog (Instr.alloc 3 true (.tuple #[])) (outQ Try.prog ds [(some 4, t4)] R) w fun t11 w =>
 opU Try.prog (Instr.storeAt 3 t11 t118) (outQ Try.prog ds [(some 4, t4)] R) w fun w =>
 opV Try.prog (Instr.loadAt 3 t11) (outQ Try.prog ds [(some 4, t4)] R) w fun t72 w =>
 opV Try.prog (binS .add 3 true t72 (.int .i64 1)) (outQ Try.prog ds [(some 4, t4)] R) w fun t73 w =>
 opU Try.prog (Instr.storeAt 3 t11 t73) (outQ Try.prog ds [(some 4, t4)] R) w fun w =>
 next3 ds t11 w
def n_phrasebooklaw05_SchemaRefers_c6 (t4 t11 t107 t116 : Value) (next3 : List Deferred → Value → World → Prop) (ds : List Deferred) (R : Ending → World → Prop) (w : World) : Prop :=
 pickK t107 (.bool true) t116 fun t117 =>
 condP t117 (
 opU Try.prog (Instr.storeAt 4 t4 (.bool false)) (outQ Try.prog ds [(some 4, t4)] R) w fun w =>
 outX Try.prog ds [(some 4, t4)] R w) (
 n_phrasebooklaw05_SchemaRefers_c5 t4 t11 next3 ds R w)
def n_phrasebooklaw05_SchemaRefers_c7 (t4 t11 t107 t111 t115 : Value) (next3 : List Deferred → Value → World → Prop) (ds : List Deferred) (R : Ending → World → Prop) (w : World) : Prop :=
 joinK (fun (t116 : Value) (w : World) =>
 n_phrasebooklaw05_SchemaRefers_c6 t4 t11 t107 t116 next3 ds R w) fun K10 =>
 guardP t107 false (
 pickK t111 t115 (.bool false) fun t116 =>
 K10 t116 w) (
 K10 undef w)
def n_phrasebooklaw05_SchemaRefers_c8 (t4 t10 t11 t12 t107 t111 : Value) (next3 : List Deferred → Value → World → Prop) (ds : List Deferred) (R : Ending → World → Prop) (w : World) : Prop :=
 joinK (fun (t115 : Value) (w : World) =>
 n_phrasebooklaw05_SchemaRefers_c7 t4 t11 t107 t111 t115 next3 ds R w) fun K9 =>
 guardP t111 true (
 opV Try.prog (Instr.loadAt 3 t12) (outQ Try.prog ds [(some 4, t4)] R) w fun t112 w =>
 opV Try.prog (Instr.loadAt 63 t10) (outQ Try.prog ds [(some 4, t4)] R) w fun t113 w =>
 opV Try.prog (Builtin.len_ #[63] 3 #[t113]) (outQ Try.prog ds [(some 4, t4)] R) w fun t114 w =>
 opV Try.prog (binS .neq 3 false t112 t114) (outQ Try.prog ds [(some 4, t4)] R) w fun t115 w =>
 K9 t115 w) (
 K9 undef w)
def n_phrasebooklaw05_SchemaRefers_c9 (t4 t10 t11 t12 t98 t106 : Value) (next3 : List Deferred → Value → World → Prop) (ds : List Deferred) (R : Ending → World → Prop) (w : World) : Prop :=
 pickK t98 t106 (.bool false) fun t107 =>
 joinK (fun (t111 : Value) (w : World) =>
 n_phrasebooklaw05_SchemaRefers_c8 t4 t10 t11 t12 t107 t111 next3 ds R w) fun K8 =>
 guardP t107 false (
 opV Try.prog (Instr.loadAt 3 t11) (outQ Try.prog ds [(some 4, t4)] R) w fun t109 w =>
 opV Try.prog (binS .eql 3 true t109 (.int .i64 1)) (outQ Try.prog ds [(some 4, t4)] R) w fun t110 w =>
 K8 t110 w) (
 K8 undef w)
def n_phrasebooklaw05_SchemaRefers_c10 (t3 t4 t10 t12 : Value) (K7 : Value → World → Prop) (ds : List Deferred) (R : Ending → World → Prop) (w : World) : Prop :=
 opV Try.prog (Instr.loadAt 3 t12) (outQ Try.prog ds [(some 4, t4)] R) w fun t100 w =>
 opV Try.prog (Instr.loadAt 63 t10) (outQ Try.prog ds [(some 4, t4)] R) w fun t101 w =>
 opV Try.prog (Builtin.len_ #[63] 3 #[t101]) (outQ Try.prog ds [(some 4, t4)] R) w fun t102 w =>
 opV Try.prog (Instr.loadAt 3 t3) (outQ Try.prog ds [(some 4, t4)] R) w fun t103 w =>
 opV Try.prog (Builtin.max_ #[3, 3] 3 #[(.int .i64 1), t103]) (outQ Try.prog ds [(some 4, t4)] R) w fun t104 w =>
 opV Try.prog (Builtin.min_ #[3, 3] 3 #[t102, t104]) (outQ Try.prog ds [(some 4, t4)] R) w fun t105 w =>
 opV Try.prog (binS .neq 3 false t100 t105) (outQ Try.prog ds [(some 4, t4)] R) w fun t106 w =>
 K7 t106 w
def n_phrasebooklaw05_SchemaRefers_c11 (t3 t4 t10 t11 t12 : Value) (next3 : List Deferred → Value → World → Prop) (ds : List Deferred) (R : Ending → World → Prop) (w : World) : Prop :=
 opV Try.prog (Instr.loadAt 3 t11) (outQ Try.prog ds [(some 4, t4)] R) w fun t97 w =>
 opV Try.prog (binS .eql 3 true t97 (.int .i64 0)) (outQ Try.prog ds [(some 4, t4)] R) w fun t98 w =>
 joinK (fun (t106 : Value) (w : World) =>
 n_phrasebooklaw05_SchemaRefers_c9 t4 t10 t11 t12 t98 t106 next3 ds R w) fun K7 =>
 guardP t98 true (
 n_phrasebooklaw05_SchemaRefers_c10 t3 t4 t10 t12 K7 ds R w) (
 K7 undef w)
def n_phrasebooklaw05_SchemaRefers_c12 (t4 t11 : Value) (next3 : List Deferred → Value → World → Prop) (ds : List Deferred) (R : Ending → World → Prop) (w : World) : Prop :=
 opV Try.prog (Instr.loadAt 3 t11) (outQ Try.prog ds [(some 4, t4)] R) w fun t118 w =>
 opV Try.prog (Instr.alloc 3 true (.tuple #[])) (outQ Try.prog ds [(some 4, t4)] R) w fun t11 w =>
 opU Try.prog (Instr.storeAt 3 t11 t118) (outQ Try.prog ds [(some 4, t4)] R) w fun w =>
 opV Try.prog (Instr.loadAt 3 t11) (outQ Try.prog ds [(some 4, t4)] R) w fun t72 w =>
 opV Try.prog (binS .add 3 true t72 (.int .i64 1)) (outQ Try.prog ds [(some 4, t4)] R) w fun t73 w =>
 opU Try.prog (Instr.storeAt 3 t11 t73) (outQ Try.prog ds [(some 4, t4)] R) w fun w =>
 next3 ds t11 w
def n_phrasebooklaw05_SchemaRefers_c13 (t4 t11 t107 t116 : Value) (next3 : List Deferred → Value → World → Prop) (ds : List Deferred) (R : Ending → World → Prop) (w : World) : Prop :=
 pickK t107 (.bool true) t116 fun t117 =>
 condP t117 (
 opU Try.prog (Instr.storeAt 4 t4 (.bool false)) (outQ Try.prog ds [(some 4, t4)] R) w fun w =>
 outX Try.prog ds [(some 4, t4)] R w) (
 n_phrasebooklaw05_SchemaRefers_c12 t4 t11 next3 ds R w)
def n_phrasebooklaw05_SchemaRefers_c14 (t4 t11 t107 t111 t115 : Value) (next3 : List Deferred → Value → World → Prop) (ds : List Deferred) (R : Ending → World → Prop) (w : World) : Prop :=
 joinK (fun (t116 : Value) (w : World) =>
 n_phrasebooklaw05_SchemaRefers_c13 t4 t11 t107 t116 next3 ds R w) fun K14 =>
 guardP t107 false (
 pickK t111 t115 (.bool false) fun t116 =>
 K14 t116 w) (
 K14 undef w)
def n_phrasebooklaw05_SchemaRefers_c15 (t4 t10 t11 t12 t107 t111 : Value) (next3 : List Deferred → Value → World → Prop) (ds : List Deferred) (R : Ending → World → Prop) (w : World) : Prop :=
 joinK (fun (t115 : Value) (w : World) =>
 n_phrasebooklaw05_SchemaRefers_c14 t4 t11 t107 t111 t115 next3 ds R w) fun K13 =>
 guardP t111 true (
 opV Try.prog (Instr.loadAt 3 t12) (outQ Try.prog ds [(some 4, t4)] R) w fun t112 w =>
 opV Try.prog (Instr.loadAt 63 t10) (outQ Try.prog ds [(some 4, t4)] R) w fun t113 w =>
 opV Try.prog (Builtin.len_ #[63] 3 #[t113]) (outQ Try.prog ds [(some 4, t4)] R) w fun t114 w =>
 opV Try.prog (binS .neq 3 false t112 t114) (outQ Try.prog ds [(some 4, t4)] R) w fun t115 w =>
 K13 t115 w) (
 K13 undef w)
def n_phrasebooklaw05_SchemaRefers_c16 (t4 t10 t11 t12 t98 t106 : Value) (next3 : List Deferred → Value → World → Prop) (ds : List Deferred) (R : Ending → World → Prop) (w : World) : Prop :=
 pickK t98 t106 (.bool false) fun t107 =>
 joinK (fun (t111 : Value) (w : World) =>
 n_phrasebooklaw05_SchemaRefers_c15 t4 t10 t11 t12 t107 t111 next3 ds R w) fun K12 =>
 guardP t107 false (
 opV Try.prog (Instr.loadAt 3 t11) (outQ Try.prog ds [(some 4, t4)] R) w fun t109 w =>
 opV Try.prog (binS .eql 3 true t109 (.int .i64 1)) (outQ Try.prog ds [(some 4, t4)] R) w fun t110 w =>
 K12 t110 w) (
 K12 undef w)
def n_phrasebooklaw05_SchemaRefers_c17 (t3 t4 t10 t12 : Value) (K11 : Value → World → Prop) (ds : List Deferred) (R : Ending → World → Prop) (w : World) : Prop :=
 opV Try.prog (Instr.loadAt 3 t12) (outQ Try.prog ds [(some 4, t4)] R) w fun t100 w =>
 opV Try.prog (Instr.loadAt 63 t10) (outQ Try.prog ds [(some 4, t4)] R) w fun t101 w =>
 opV Try.prog (Builtin.len_ #[63] 3 #[t101]) (outQ Try.prog ds [(some 4, t4)] R) w fun t102 w =>
 opV Try.prog (Instr.loadAt 3 t3) (outQ Try.prog ds [(some 4, t4)] R) w fun t103 w =>
 opV Try.prog (Builtin.max_ #[3, 3] 3 #[(.int .i64 1), t103]) (outQ Try.prog ds [(some 4, t4)] R) w fun t104 w =>
 opV Try.prog (Builtin.min_ #[3, 3] 3 #[t102, t104]) (outQ Try.prog ds [(some 4, t4)] R) w fun t105 w =>
 opV Try.prog (binS .neq 3 false t100 t105) (outQ Try.prog ds [(some 4, t4)] R) w fun t106 w =>
 K11 t106 w
def n_phrasebooklaw05_SchemaRefers_c18 (t3 t4 t10 t11 t12 : Value) (next3 : List Deferred → Value → World → Prop) (ds : List Deferred) (R : Ending → World → Prop) (w : World) : Prop :=
 opV Try.prog (Instr.loadAt 3 t11) (outQ Try.prog ds [(some 4, t4)] R) w fun t97 w =>
 opV Try.prog (binS .eql 3 true t97 (.int .i64 0)) (outQ Try.prog ds [(some 4, t4)] R) w fun t98 w =>
 joinK (fun (t106 : Value) (w : World) =>
 n_phrasebooklaw05_SchemaRefers_c16 t4 t10 t11 t12 t98 t106 next3 ds R w) fun K11 =>
 guardP t98 true (
 n_phrasebooklaw05_SchemaRefers_c17 t3 t4 t10 t12 K11 ds R w) (
 K11 undef w)
def n_phrasebooklaw05_SchemaRefers_c19 (t4 : Value) (ds : List Deferred) (R : Ending → World → Prop) (w : World) : Prop :=
 callK Try.prog 8 #[] (outQ Try.prog ds [(some 4, t4)] R) w fun t119 w =>
 opU Try.prog (Instr.storeAt 4 t4 t119) (outQ Try.prog ds [(some 4, t4)] R) w fun w =>
 outX Try.prog ds [(some 4, t4)] R w
def n_phrasebooklaw05_SchemaRefers_c20 (t3 t4 t10 t11 t33 : Value) (next3 : List Deferred → Value → World → Prop) (ds : List Deferred) (R : Ending → World → Prop) (w : World) : Prop :=
 opV Try.prog (Instr.alloc 3 true (.tuple #[])) (outQ Try.prog ds [(some 4, t4)] R) w fun t12 w =>
 opU Try.prog (Instr.storeAt 3 t12 (.int .i64 0)) (outQ Try.prog ds [(some 4, t4)] R) w fun w =>
 rangeN Try.prog t33 ds (fun l4 t75 w Kr4 Xr4 Qr4 =>
 busyK l4 w fun w =>
 n_phrasebooklaw05_SchemaRefers_c4 t3 t4 t10 t11 t12 t75 Kr4 Qr4 Xr4 R w) (fun ch ds w => outQ Try.prog ds [(some 4, t4)] R ch w) w (fun ds w =>
 n_phrasebooklaw05_SchemaRefers_c11 t3 t4 t10 t11 t12 next3 ds R w) [fun ds w =>
 outX Try.prog ds [(some 4, t4)] R w, fun ds w =>
 n_phrasebooklaw05_SchemaRefers_c18 t3 t4 t10 t11 t12 next3 ds R w]
def n_phrasebooklaw05_SchemaRefers_c21 (t3 t4 t10 t11 t33 : Value) (next3 : List Deferred → Value → World → Prop) (ds : List Deferred) (R : Ending → World → Prop) (w : World) : Prop :=
 opV Try.prog (Instr.loadAt 3 t11) (outQ Try.prog ds [(some 4, t4)] R) w fun t70 w =>
 opV Try.prog (binS .lss 3 true t70 (.int .i64 2)) (outQ Try.prog ds [(some 4, t4)] R) w fun t71 w =>
 condP t71 (
 n_phrasebooklaw05_SchemaRefers_c20 t3 t4 t10 t11 t33 next3 ds R w) (
 n_phrasebooklaw05_SchemaRefers_c19 t4 ds R w)
def n_phrasebooklaw05_SchemaRefers_c22 (t3 t4 t33 t69 : Value) (ds : List Deferred) (R : Ending → World → Prop) (w : World) : Prop :=
 opV Try.prog (Instr.alloc 63 true (.tuple #[])) (outQ Try.prog ds [(some 4, t4)] R) w fun t10 w =>
 opU Try.prog (Instr.storeAt 63 t10 t69) (outQ Try.prog ds [(some 4, t4)] R) w fun w =>
 opV Try.prog (Instr.alloc 3 true (.tuple #[])) (outQ Try.prog ds [(some 4, t4)] R) w fun t11 w =>
 opU Try.prog (Instr.storeAt 3 t11 (.int .i64 0)) (outQ Try.prog ds [(some 4, t4)] R) w fun w =>
 loopM1 (fun ds t11 w next3 =>
 n_phrasebooklaw05_SchemaRefers_c21 t3 t4 t10 t11 t33 next3 ds R w) ds t11 w
def n_phrasebooklaw05_SchemaRefers_c23 (t2 t3 t4 t33 : Value) (ds : List Deferred) (R : Ending → World → Prop) (w : World) : Prop :=
 opV Try.prog (Instr.loadAt 50 t2) (outQ Try.prog ds [(some 4, t4)] R) w fun t68 w =>
 callK Try.prog 25 #[t68] (outQ Try.prog ds [(some 4, t4)] R) w fun t69 w =>
 n_phrasebooklaw05_SchemaRefers_c22 t3 t4 t33 t69 ds R w
def n_phrasebooklaw05_SchemaRefers_c24 (t4 t6 t8 : Value) (next1 : Value → World → Prop) (ds : List Deferred) (R : Ending → World → Prop) (w : World) : Prop :=
 opV Try.prog (Instr.fieldAt 50 t6 1) (outQ Try.prog ds [(some 4, t4)] R) w fun t43 w =>
 opV Try.prog (Instr.loadAt 48 t43) (outQ Try.prog ds [(some 4, t4)] R) w fun t44 w =>
 opV Try.prog (Instr.indexAt 48 t44 t8) (outQ Try.prog ds [(some 4, t4)] R) w fun t46 w =>
 opV Try.prog (Instr.fieldAt 28 t46 8) (outQ Try.prog ds [(some 4, t4)] R) w fun t47 w =>
 opU Try.prog (Instr.storeAt 9 t47 (.string { data := #[120] })) (outQ Try.prog ds [(some 4, t4)] R) w fun w =>
 loop1 (fun t9 w next2 =>
 n_phrasebooklaw05_SchemaRefers_c2 t4 t6 t8 t9 next1 next2 ds R w) (.int .i64 0) w
def n_phrasebooklaw05_SchemaRefers_c25 (t2 t3 t4 t6 t8 t33 : Value) (next1 : Value → World → Prop) (ds : List Deferred) (R : Ending → World → Prop) (w : World) : Prop :=
 opV Try.prog (Instr.fieldAt 50 t6 1) (outQ Try.prog ds [(some 4, t4)] R) w fun t37 w =>
 opV Try.prog (Instr.loadAt 48 t37) (outQ Try.prog ds [(some 4, t4)] R) w fun t38 w =>
 opV Try.prog (Builtin.len_ #[48] 3 #[t38]) (outQ Try.prog ds [(some 4, t4)] R) w fun t39 w =>
 opV Try.prog (binS .lss 3 false t8 t39) (outQ Try.prog ds [(some 4, t4)] R) w fun t40 w =>
 condP t40 (
 n_phrasebooklaw05_SchemaRefers_c24 t4 t6 t8 next1 ds R w) (
 n_phrasebooklaw05_SchemaRefers_c23 t2 t3 t4 t33 ds R w)
def n_phrasebooklaw05_SchemaRefers_c26 (t2 t3 t4 t6 t33 : Value) (ds : List Deferred) (R : Ending → World → Prop) (w : World) : Prop :=
 opV Try.prog (binS .eql 59 true t33 .nilFunc) (outQ Try.prog ds [(some 4, t4)] R) w fun t35 w =>
 condP t35 (
 opU Try.prog (Instr.storeAt 4 t4 (.bool false)) (outQ Try.prog ds [(some 4, t4)] R) w fun w =>
 outX Try.prog ds [(some 4, t4)] R w) (
 loop1 (fun t8 w next1 =>
 n_phrasebooklaw05_SchemaRefers_c25 t2 t3 t4 t6 t8 t33 next1 ds R w) (.int .i64 0) w)
def n_phrasebooklaw05_SchemaRefers_c27 (t2 t3 t4 t5 : Value) (ds : List Deferred) (R : Ending → World → Prop) (w : World) : Prop :=
 opV Try.prog (Instr.fieldAt 44 t5 1) (outQ Try.prog ds [(some 4, t4)] R) w fun t28 w =>
 opV Try.prog (Instr.loadAt 42 t28) (outQ Try.prog ds [(some 4, t4)] R) w fun t29 w =>
 opV Try.prog (Instr.indexAt 42 t29 (.int .i64 0)) (outQ Try.prog ds [(some 4, t4)] R) w fun t30 w =>
 opV Try.prog (Instr.loadAt 50 t30) (outQ Try.prog ds [(some 4, t4)] R) w fun t31 w =>
 opV Try.prog (Instr.alloc 50 true (.tuple #[])) (outQ Try.prog ds [(some 4, t4)] R) w fun t6 w =>
 opU Try.prog (Instr.storeAt 50 t6 t31) (outQ Try.prog ds [(some 4, t4)] R) w fun w =>
 opV Try.prog (Instr.loadAt 50 t6) (outQ Try.prog ds [(some 4, t4)] R) w fun t32 w =>
 callK Try.prog 24 #[t32] (outQ Try.prog ds [(some 4, t4)] R) w fun t33 w =>
 n_phrasebooklaw05_SchemaRefers_c26 t2 t3 t4 t6 t33 ds R w
def n_phrasebooklaw05_SchemaRefers_c28 (t2 t3 t4 t23 : Value) (ds : List Deferred) (R : Ending → World → Prop) (w : World) : Prop :=
 opV Try.prog (Instr.alloc 44 true (.tuple #[])) (outQ Try.prog ds [(some 4, t4)] R) w fun t5 w =>
 opU Try.prog (Instr.storeAt 44 t5 t23) (outQ Try.prog ds [(some 4, t4)] R) w fun w =>
 opV Try.prog (Instr.fieldAt 44 t5 1) (outQ Try.prog ds [(some 4, t4)] R) w fun t24 w =>
 opV Try.prog (Instr.loadAt 42 t24) (outQ Try.prog ds [(some 4, t4)] R) w fun t25 w =>
 opV Try.prog (Builtin.len_ #[42] 3 #[t25]) (outQ Try.prog ds [(some 4, t4)] R) w fun t26 w =>
 opV Try.prog (binS .neq 3 true t26 (.int .i64 1)) (outQ Try.prog ds [(some 4, t4)] R) w fun t27 w =>
 condP t27 (
 opU Try.prog (Instr.storeAt 4 t4 (.bool false)) (outQ Try.prog ds [(some 4, t4)] R) w fun w =>
 outX Try.prog ds [(some 4, t4)] R w) (
 n_phrasebooklaw05_SchemaRefers_c27 t2 t3 t4 t5 ds R w)
def n_phrasebooklaw05_SchemaRefers_c29 (t4 : Value) (ds : List Deferred) (R : Ending → World → Prop) (w : World) : Prop :=
 callK Try.prog 8 #[] (outQ Try.prog ds [(some 4, t4)] R) w fun t19 w =>
 opU Try.prog (Instr.storeAt 4 t4 t19) (outQ Try.prog ds [(some 4, t4)] R) w fun w =>
 outX Try.prog ds [(some 4, t4)] R w
def n_phrasebooklaw05_SchemaRefers_c30 (t2 t3 t4 : Value) (ds : List Deferred) (R : Ending → World → Prop) (w : World) : Prop :=
 opV Try.prog (Instr.loadAt 50 t2) (outQ Try.prog ds [(some 4, t4)] R) w fun t20 w =>
 opV Try.prog (Instr.buildSlice 42 1 #[(0, t20)]) (outQ Try.prog ds [(some 4, t4)] R) w fun t21 w =>
 opV Try.prog (Instr.build 44 #[(1, t21)]) (outQ Try.prog ds [(some 4, t4)] R) w fun t22 w =>
 callK Try.prog 23 #[t22] (outQ Try.prog ds [(some 4, t4)] R) w fun t23 w =>
 n_phrasebooklaw05_SchemaRefers_c28 t2 t3 t4 t23 ds R w
def n_phrasebooklaw05_SchemaRefers_c31 (t2 t3 t4 t17 : Value) (ds : List Deferred) (R : Ending → World → Prop) (w : World) : Prop :=
 opV Try.prog (Op.unary .not t17) (outQ Try.prog ds [(some 4, t4)] R) w fun t18 w =>
 condP t18 (
 n_phrasebooklaw05_SchemaRefers_c29 t4 ds R w) (
 n_phrasebooklaw05_SchemaRefers_c30 t2 t3 t4 ds R w)
def n_phrasebooklaw05_SchemaRefers (t0 t1 : Value) (R : Ending → World → Prop) (w : World) : Prop :=
 (fun (ds : List Deferred) =>
 opV Try.prog (Instr.box 50 t0) (outQ Try.prog ds [(some 4, undef)] R) w fun t2 w =>
 opV Try.prog (Instr.box 3 t1) (outQ Try.prog ds [(some 4, undef)] R) w fun t3 w =>
 opV Try.prog (Instr.alloc 4 true (.tuple #[])) (outQ Try.prog ds [(some 4, undef)] R) w fun t4 w =>
 opV Try.prog (Instr.loadAt 50 t2) (outQ Try.prog ds [(some 4, t4)] R) w fun t14 w =>
 opV Try.prog (Instr.buildSlice 42 1 #[(0, t14)]) (outQ Try.prog ds [(some 4, t4)] R) w fun t15 w =>
 opV Try.prog (Instr.build 44 #[(1, t15)]) (outQ Try.prog ds [(some 4, t4)] R) w fun t16 w =>
 callK Try.prog 17 #[t16] (outQ Try.prog ds [(some 4, t4)] R) w fun t17 w =>
 n_phrasebooklaw05_SchemaRefers_c31 t2 t3 t4 t17 ds R w) []
set_option maxRecDepth 100000 in
set_option maxHeartbeats 4000000 in
theorem n_phrasebooklaw05_SchemaRefers_sound {t0 t1 : Value} {R : Ending → World → Prop} {w : World} (h : n_phrasebooklaw05_SchemaRefers t0 t1 R w) : Calls Try.prog 5 #[t0, t1] w R := by
  refine calls_of_denM (args := [t0, t1]) Try.func5 rfl (Nat.le_of_ble_eq_true rfl) ?_
  unfold n_phrasebooklaw05_SchemaRefers at h
  dsimp only at h
  refine zs <| zr ?_
  refine zq h fun t2 w h => ?_
  refine zq h fun t3 w h => ?_
  refine zq h fun t4 w h => ?_
  refine zn <| zk <| zs <| zs <| zr ?_
  refine zq h fun t14 w h => ?_
  refine sim_buildSlice h rfl (fun _ _ h => outQ_of rfl h) ?_; intro t15 w h
  refine sim_build h rfl (fun _ _ h => outQ_of rfl h) ?_; intro t16 w h
  refine sim_call h c17 rfl (fun _ _ h => outQ_of rfl h) ?_; intro t17 w h
  refine zq h fun t18 w h => ?_
  refine zn <| zk ?_
  refine sim_cond h rfl (fun h => ?_) (fun h => ?_)
  · refine zs <| zr ?_
    refine sim_call h c8 rfl (fun _ _ h => outQ_of rfl h) ?_; intro t19 w h
    refine sim_unit h rfl rfl (fun _ _ h => outQ_of rfl h) ?_; intro w h
    refine zn <| zk <| sim_ret <| sim_then_ret ?_
    exact Sw.bodyM_ret rfl h
  · refine sim_skip <| zk <| zs <| zr ?_
    refine zq h fun t20 w h => ?_
    refine sim_buildSlice h rfl (fun _ _ h => outQ_of rfl h) ?_; intro t21 w h
    refine sim_build h rfl (fun _ _ h => outQ_of rfl h) ?_; intro t22 w h
    refine sim_call h c23 rfl (fun _ _ h => outQ_of rfl h) ?_; intro t23 w h
    refine zq h fun t5 w h => ?_
    refine sim_unit h rfl rfl (fun _ _ h => outQ_of rfl h) ?_; intro w h
    refine zn <| zk <| zs <| zs <| zr ?_
    refine zq h fun t24 w h => ?_
    refine zq h fun t25 w h => ?_
    refine sim_builtin h rfl (fun _ _ h => outQ_of rfl h) ?_; intro t26 w h
    refine sim_bin h rfl rfl rfl (fun _ _ h => outQ_of rfl h) ?_; intro t27 w h
    refine zn <| zk ?_
    refine sim_cond h rfl (fun h => ?_) (fun h => ?_)
    · refine zs <| zr ?_
      refine sim_unit h rfl rfl (fun _ _ h => outQ_of rfl h) ?_; intro w h
      refine zn <| zk <| sim_ret <| sim_then_ret ?_
      exact Sw.bodyM_ret rfl h
    · refine sim_skip <| zk <| zs <| zr ?_
      refine zq h fun t28 w h => ?_
      refine zq h fun t29 w h => ?_
      refine zq h fun t30 w h => ?_
      refine zq h fun t31 w h => ?_
      refine zq h fun t6 w h => ?_
      refine sim_unit h rfl rfl (fun _ _ h => outQ_of rfl h) ?_; intro w h
      refine zn <| zk <| zs <| zr ?_
      refine zq h fun t32 w h => ?_
      refine sim_call h c24 rfl (fun _ _ h => outQ_of rfl h) ?_; intro t33 w h
      refine zm <| zn <| zk <| zs <| zs <| zr <| zm ?_
      refine sim_bin h rfl rfl rfl (fun _ _ h => outQ_of rfl h) ?_; intro t35 w h
      refine zn <| zk ?_
      refine sim_cond h rfl (fun h => ?_) (fun h => ?_)
      · refine zs <| zr ?_
        refine sim_unit h rfl rfl (fun _ _ h => outQ_of rfl h) ?_; intro w h
        refine zn <| zk <| sim_ret <| sim_then_ret ?_
        exact Sw.bodyM_ret rfl h
      · refine sim_skip <| zk <| zs <| zs <| zr <| zm <| zn <| zk <| sim_block ?_
        obtain ⟨I, μ, h0, hr⟩ := h
        refine sim_loop [8, 9, 36, 37, 38, 39, 40, 41, 42, 43, 44, 45, 46, 47, 48, 49, 50, 51, 52, 53, 54, 55, 56, 57, 58, 59, 60, 61, 62, 63, 64, 65, 66, 67] (by kernel_rfl) (fun ρ w => I (ρ 8) w) (fun ρ w => μ (ρ 8) w) h0 (fun σ w hI => ?_)
        have h := hr _ _ hI
        clear hr h0 hI
        refine zs <| zs <| zr <| zm ?_
        refine zq h fun t37 w h => ?_
        refine zq h fun t38 w h => ?_
        refine sim_builtin h rfl (fun _ _ h => outQ_of rfl h) ?_; intro t39 w h
        refine sim_bin h rfl rfl rfl (fun _ _ h => outQ_of rfl h) ?_; intro t40 w h
        refine zn <| zk ?_
        refine sim_cond h rfl (fun h => ?_) (fun h => ?_)
        · refine sim_skip <| zk <| zs <| sim_block <| zs <| zr ?_
          refine zq h fun t43 w h => ?_
          refine zq h fun t44 w h => ?_
          refine zm ?_
          refine zq h fun t46 w h => ?_
          refine zq h fun t47 w h => ?_
          refine sim_unit h rfl rfl (fun _ _ h => outQ_of rfl h) ?_; intro w h
          refine zn <| zk <| zs <| zr <| zm <| zn <| zk <| sim_block ?_
          obtain ⟨I, μ, h0, hr⟩ := h
          refine sim_loop [9, 48, 49, 50, 51, 52, 53, 54, 55, 56, 57, 58, 59, 60, 61, 62, 63, 64, 65, 66, 67] (by kernel_rfl) (fun ρ w => I (ρ 9) w) (fun ρ w => μ (ρ 9) w) h0 (fun σ w hI => ?_)
          have h := hr _ _ hI
          clear hr h0 hI
          refine zs <| zs <| zr <| zm ?_
          refine zq h fun t49 w h => ?_
          refine zq h fun t50 w h => ?_
          refine zm ?_
          refine zq h fun t52 w h => ?_
          refine zq h fun t53 w h => ?_
          refine zq h fun t54 w h => ?_
          refine sim_builtin h rfl (fun _ _ h => outQ_of rfl h) ?_; intro t55 w h
          refine sim_bin h rfl rfl rfl (fun _ _ h => outQ_of rfl h) ?_; intro t56 w h
          refine zn <| zk ?_
          refine sim_cond h rfl (fun h => ?_) (fun h => ?_)
          · refine sim_skip <| zk <| zs <| sim_block <| zr ?_
            refine zq h fun t59 w h => ?_
            refine zq h fun t60 w h => ?_
            refine zm ?_
            refine zq h fun t62 w h => ?_
            refine zq h fun t63 w h => ?_
            refine zq h fun t64 w h => ?_
            refine zm ?_
            refine zq h fun t66 w h => ?_
            refine zq h fun t67 w h => ?_
            refine sim_unit h rfl rfl (fun _ _ h => outQ_of rfl h) ?_; intro w h
            refine zn <| sim_block_normal <| zk <| zr <| zm ?_
            refine sim_bin h rfl rfl rfl (fun _ _ h => outQ_of rfl h) ?_; intro t58 w h
            refine zm <| zn <| zk ?_
            exact ⟨rfl, h⟩
          · refine sim_exit <| sim_then_exit <| sim_then_exit <| sim_block_hit <| sim_block_normal <| zk <| zr <| zm ?_
            refine sim_bin h rfl rfl rfl (fun _ _ h => outQ_of rfl h) ?_; intro t42 w h
            refine zm <| zn <| zk ?_
            exact ⟨rfl, h⟩
        · refine sim_exit <| sim_then_exit <| sim_then_exit <| sim_block_hit <| zk <| zs <| zr ?_
          refine zq h fun t68 w h => ?_
          refine sim_call h c25 rfl (fun _ _ h => outQ_of rfl h) ?_; intro t69 w h
          refine zq h fun t10 w h => ?_
          refine sim_unit h rfl rfl (fun _ _ h => outQ_of rfl h) ?_; intro w h
          refine zn <| zk <| zs <| zs <| zr ?_
          refine zq h fun t11 w h => ?_
          refine sim_unit h rfl rfl (fun _ _ h => outQ_of rfl h) ?_; intro w h
          refine zn <| zk <| sim_block ?_
          obtain ⟨I, μ, h0, hr⟩ := h
          refine sim_loopM [11, 12, 70, 71, 72, 73, 74, 97, 98, 99, 100, 101, 102, 103, 104, 105, 106, 107, 108, 109, 110, 111, 112, 113, 114, 115, 116, 117, 118] (by kernel_rfl) (fun ρ ds w => I ds (ρ 11) w) (fun ρ w => μ (ρ 11) w) h0 (fun σ ds w hI => ?_)
          have h := hr _ _ _ hI
          clear hr h0 hI
          refine zs <| zs <| zr ?_
          refine zq h fun t70 w h => ?_
          refine sim_bin h rfl rfl rfl (fun _ _ h => outQ_of rfl h) ?_; intro t71 w h
          refine zn <| zk ?_
          refine sim_cond h rfl (fun h => ?_) (fun h => ?_)
          · refine sim_skip <| zk <| zs <| sim_block <| zs <| zr ?_
            refine zq h fun t12 w h => ?_
            refine sim_unit h rfl rfl (fun _ _ h => outQ_of rfl h) ?_; intro w h
            refine zn <| zk <| zs <| zs <| zr <| zm <| zn <| zk <| sim_block ?_
            refine sim_range [.ret, .exit 6] h rfl (fun l4 t75 w Kr4 Xr4 Qr4 h => ?_) (fun ds w h => ?_) (fun c ds w h => ?_) (fun ch ds w h => outQ_of rfl h)
            · refine zr <| zm <| zn <| zk ?_
              obtain ⟨hr, h⟩ := h
              refine ⟨rfl, hr, fun w hb => ?_⟩
              have h := h w hb
              refine sim_block <| zs <| zs <| sim_regionG ?_
              refine sim_seg 5 rfl ?_
              refine zv h fun t76 w h => ?_
              refine zv h fun t77 w h => ?_
              refine zx h fun t78 w h => ?_
              refine zb h fun t79 w h => ?_
              refine zm <| zn ?_
              refine joinK_elim h (fun K5 hK h => ?_)
              refine sim_groupJ 6 4 false [81, 82, 83, 84, 85, 86] (fun ρ w => K5 (ρ 86) w) rfl rfl (fun T hT => guardP_mono h (fun h => ?_) (fun h => ?_)) (fun σ w h => ?_)
              · refine zm ?_
                refine zv h fun t82 w h => ?_
                refine zv h fun t83 w h => ?_
                refine zv h fun t84 w h => ?_
                refine zv h fun t85 w h => ?_
                refine zb h fun t86 w h => ?_
                refine zn ?_
                exact zt hT h
              · exact zt hT h
              subst hK
              refine sim_seg 1 rfl ?_
              refine sim_pick h rfl rfl rfl ?_; intro t87 h
              refine zn <| sim_end <| zk ?_
              refine sim_cond h rfl (fun h => ?_) (fun h => ?_)
              · refine zs <| zr ?_
                refine zu h fun w h => ?_
                refine zn <| zk <| sim_ret <| sim_then_ret <| sim_block_ret ?_
                exact ⟨rfl, 0, rfl, h⟩
              · refine sim_skip <| zk <| zs <| zr ?_
                refine zv h fun t88 w h => ?_
                refine zb h fun t89 w h => ?_
                refine zu h fun w h => ?_
                refine zn <| zk <| zs <| sim_regionG ?_
                refine sim_seg 3 rfl ?_
                refine zv h fun t90 w h => ?_
                refine zb h fun t91 w h => ?_
                refine zm <| zn ?_
                refine joinK_elim h (fun K6 hK h => ?_)
                refine sim_groupJ 3 2 true [93, 94, 95] (fun ρ w => K6 (ρ 95) w) rfl rfl (fun T hT => guardP_mono h (fun h => ?_) (fun h => ?_)) (fun σ w h => ?_)
                · refine zv h fun t93 w h => ?_
                  refine zv h fun t94 w h => ?_
                  refine zb h fun t95 w h => ?_
                  refine zn ?_
                  exact zt hT h
                · exact zt hT h
                subst hK
                refine sim_seg 1 rfl ?_
                refine sim_pick h rfl rfl rfl ?_; intro t96 h
                refine zn <| sim_end <| zk ?_
                refine sim_cond h rfl (fun h => ?_) (fun h => ?_)
                · refine sim_exit ?_
                  refine sim_block_miss rfl ?_
                  exact ⟨rfl, 1, rfl, h⟩
                · refine sim_skip <| sim_block_normal ?_
                  exact ⟨rfl, h⟩
            · refine sim_block_normal <| zk <| zs <| sim_regionG ?_
              refine sim_seg 3 rfl ?_
              refine zq h fun t97 w h => ?_
              refine sim_bin h rfl rfl rfl (fun _ _ h => outQ_of rfl h) ?_; intro t98 w h
              refine zm <| zn ?_
              refine joinK_elim h (fun K7 hK h => ?_)
              refine sim_groupJ 7 2 true [100, 101, 102, 103, 104, 105, 106] (fun ρ w => K7 (ρ 106) w) rfl rfl (fun T hT => guardP_mono h (fun h => ?_) (fun h => ?_)) (fun σ w h => ?_)
              · refine zq h fun t100 w h => ?_
                refine zq h fun t101 w h => ?_
                refine sim_builtin h rfl (fun _ _ h => outQ_of rfl h) ?_; intro t102 w h
                refine zq h fun t103 w h => ?_
                refine sim_builtin h rfl (fun _ _ h => outQ_of rfl h) ?_; intro t104 w h
                refine sim_builtin h rfl (fun _ _ h => outQ_of rfl h) ?_; intro t105 w h
                refine sim_bin h rfl rfl rfl (fun _ _ h => outQ_of rfl h) ?_; intro t106 w h
                refine zn ?_
                exact zt hT h
              · exact zt hT h
              subst hK
              refine sim_seg 2 rfl ?_
              refine sim_pick h rfl rfl rfl ?_; intro t107 h
              refine zm <| zn ?_
              refine joinK_elim h (fun K8 hK h => ?_)
              refine sim_groupJ 3 11 false [109, 110, 111] (fun ρ w => K8 (ρ 111) w) rfl rfl (fun T hT => guardP_mono h (fun h => ?_) (fun h => ?_)) (fun σ w h => ?_)
              · refine zq h fun t109 w h => ?_
                refine sim_bin h rfl rfl rfl (fun _ _ h => outQ_of rfl h) ?_; intro t110 w h
                refine zm <| zn ?_
                exact zt hT h
              · exact zt hT h
              subst hK
              refine joinK_elim h (fun K9 hK h => ?_)
              refine sim_groupJ 4 14 true [112, 113, 114, 115] (fun ρ w => K9 (ρ 115) w) rfl rfl (fun T hT => guardP_mono h (fun h => ?_) (fun h => ?_)) (fun σ w h => ?_)
              · refine zq h fun t112 w h => ?_
                refine zq h fun t113 w h => ?_
                refine sim_builtin h rfl (fun _ _ h => outQ_of rfl h) ?_; intro t114 w h
                refine sim_bin h rfl rfl rfl (fun _ _ h => outQ_of rfl h) ?_; intro t115 w h
                refine zn ?_
                exact zt hT h
              · exact zt hT h
              subst hK
              refine joinK_elim h (fun K10 hK h => ?_)
              refine sim_groupJ 1 11 false [116] (fun ρ w => K10 (ρ 116) w) rfl rfl (fun T hT => guardP_mono h (fun h => ?_) (fun h => ?_)) (fun σ w h => ?_)
              · refine sim_pick h rfl rfl rfl ?_; intro t116 h
                refine zn ?_
                exact zt hT h
              · exact zt hT h
              subst hK
              refine sim_seg 1 rfl ?_
              refine sim_pick h rfl rfl rfl ?_; intro t117 h
              refine zn <| sim_end <| zk ?_
              refine sim_cond h rfl (fun h => ?_) (fun h => ?_)
              · refine zs <| zr ?_
                refine sim_unit h rfl rfl (fun _ _ h => outQ_of rfl h) ?_; intro w h
                refine zn <| zk <| sim_ret <| sim_block_ret <| sim_then_ret <| sim_then_ret <| sim_block_ret <| sim_then_ret ?_
                exact Sw.bodyM_ret rfl h
              · refine sim_skip <| sim_block_normal <| zk <| zs <| zs <| zr ?_
                refine zq h fun t118 w h => ?_
                refine zn <| zk <| zr ?_
                refine zq h fun t11 w h => ?_
                refine sim_unit h rfl rfl (fun _ _ h => outQ_of rfl h) ?_; intro w h
                refine zn <| zk <| zr ?_
                refine zq h fun t72 w h => ?_
                refine sim_bin h rfl rfl rfl (fun _ _ h => outQ_of rfl h) ?_; intro t73 w h
                refine sim_unit h rfl rfl (fun _ _ h => outQ_of rfl h) ?_; intro w h
                refine zn <| zk ?_
                exact h
            · rcases c with _ | c
              · refine ⟨_, rfl, .inl ⟨rfl, ?_⟩⟩
                refine sim_block_ret <| sim_then_ret <| sim_block_ret <| sim_then_ret <| sim_then_ret <| sim_block_ret <| sim_then_ret ?_
                exact Sw.bodyM_ret rfl h
              rcases c with _ | c
              · refine ⟨_, rfl, .inr ⟨_, rfl, ?_⟩⟩
                refine sim_block_hit <| zk <| zs <| sim_regionG ?_
                refine sim_seg 3 rfl ?_
                refine zq h fun t97 w h => ?_
                refine sim_bin h rfl rfl rfl (fun _ _ h => outQ_of rfl h) ?_; intro t98 w h
                refine zm <| zn ?_
                refine joinK_elim h (fun K11 hK h => ?_)
                refine sim_groupJ 7 2 true [100, 101, 102, 103, 104, 105, 106] (fun ρ w => K11 (ρ 106) w) rfl rfl (fun T hT => guardP_mono h (fun h => ?_) (fun h => ?_)) (fun σ w h => ?_)
                · refine zq h fun t100 w h => ?_
                  refine zq h fun t101 w h => ?_
                  refine sim_builtin h rfl (fun _ _ h => outQ_of rfl h) ?_; intro t102 w h
                  refine zq h fun t103 w h => ?_
                  refine sim_builtin h rfl (fun _ _ h => outQ_of rfl h) ?_; intro t104 w h
                  refine sim_builtin h rfl (fun _ _ h => outQ_of rfl h) ?_; intro t105 w h
                  refine sim_bin h rfl rfl rfl (fun _ _ h => outQ_of rfl h) ?_; intro t106 w h
                  refine zn ?_
                  exact zt hT h
                · exact zt hT h
                subst hK
                refine sim_seg 2 rfl ?_
                refine sim_pick h rfl rfl rfl ?_; intro t107 h
                refine zm <| zn ?_
                refine joinK_elim h (fun K12 hK h => ?_)
                refine sim_groupJ 3 11 false [109, 110, 111] (fun ρ w => K12 (ρ 111) w) rfl rfl (fun T hT => guardP_mono h (fun h => ?_) (fun h => ?_)) (fun σ w h => ?_)
                · refine zq h fun t109 w h => ?_
                  refine sim_bin h rfl rfl rfl (fun _ _ h => outQ_of rfl h) ?_; intro t110 w h
                  refine zm <| zn ?_
                  exact zt hT h
                · exact zt hT h
                subst hK
                refine joinK_elim h (fun K13 hK h => ?_)
                refine sim_groupJ 4 14 true [112, 113, 114, 115] (fun ρ w => K13 (ρ 115) w) rfl rfl (fun T hT => guardP_mono h (fun h => ?_) (fun h => ?_)) (fun σ w h => ?_)
                · refine zq h fun t112 w h => ?_
                  refine zq h fun t113 w h => ?_
                  refine sim_builtin h rfl (fun _ _ h => outQ_of rfl h) ?_; intro t114 w h
                  refine sim_bin h rfl rfl rfl (fun _ _ h => outQ_of rfl h) ?_; intro t115 w h
                  refine zn ?_
                  exact zt hT h
                · exact zt hT h
                subst hK
                refine joinK_elim h (fun K14 hK h => ?_)
                refine sim_groupJ 1 11 false [116] (fun ρ w => K14 (ρ 116) w) rfl rfl (fun T hT => guardP_mono h (fun h => ?_) (fun h => ?_)) (fun σ w h => ?_)
                · refine sim_pick h rfl rfl rfl ?_; intro t116 h
                  refine zn ?_
                  exact zt hT h
                · exact zt hT h
                subst hK
                refine sim_seg 1 rfl ?_
                refine sim_pick h rfl rfl rfl ?_; intro t117 h
                refine zn <| sim_end <| zk ?_
                refine sim_cond h rfl (fun h => ?_) (fun h => ?_)
                · refine zs <| zr ?_
                  refine sim_unit h rfl rfl (fun _ _ h => outQ_of rfl h) ?_; intro w h
                  refine zn <| zk <| sim_ret <| sim_block_ret <| sim_then_ret <| sim_then_ret <| sim_block_ret <| sim_then_ret ?_
                  exact Sw.bodyM_ret rfl h
                · refine sim_skip <| sim_block_normal <| zk <| zs <| zs <| zr ?_
                  refine zq h fun t118 w h => ?_
                  refine zn <| zk <| zr ?_
                  refine zq h fun t11 w h => ?_
                  refine sim_unit h rfl rfl (fun _ _ h => outQ_of rfl h) ?_; intro w h
                  refine zn <| zk <| zr ?_
                  refine zq h fun t72 w h => ?_
                  refine sim_bin h rfl rfl rfl (fun _ _ h => outQ_of rfl h) ?_; intro t73 w h
                  refine sim_unit h rfl rfl (fun _ _ h => outQ_of rfl h) ?_; intro w h
                  refine zn <| zk ?_
                  exact h
              exact h.elim
          · refine sim_exit <| sim_then_exit <| sim_then_exit <| sim_block_hit <| zk <| zs <| zr ?_
            refine sim_call h c8 rfl (fun _ _ h => outQ_of rfl h) ?_; intro t119 w h
            refine sim_unit h rfl rfl (fun _ _ h => outQ_of rfl h) ?_; intro w h
            refine zn <| zk <| sim_ret ?_
            exact Sw.bodyM_ret rfl h
end Go.Proofs.Ytiajhbbmgglmlaa
namespace Go.Proofs.Ytiajhbbmgglmlaa
open Sw
open Go.RowKit (intOf Below)
set_option maxRecDepth 100000
def oneD (m : MsgD) : DefD := ⟨ByteArray.empty, [m], ByteArray.empty⟩
theorem one_val {w : World} {p : Nat} {m : MsgD} {fv : Value} (hF : FieldsOf w fv m.fields) (o : w.heap[p]? = some (.cells (msgCells m fv).toArray 50 (0, 0))) : DefVal w (.agg #[.string ByteArray.empty, .slice (some ⟨p, 0, none⟩) 1 1, .string ByteArray.empty]) (oneD m) := by
  refine ⟨_, rfl, _, 1, rfl, by simp [oneD], by decide, fun _ => ⟨p, 0, rfl, fun k x hx => ?_⟩⟩
  cases k with
  | succ k => simp [oneD] at hx
  | zero =>
    simp [oneD] at hx; subst hx
    exact ⟨msgCells m fv, rfl, fun j v hv => by rw [(cells_of_heap o).1]; simpa using hv, _, rfl, hF⟩
theorem one_sm {m : MsgD} (h : MsgSm m) : DefSm (oneD m) := ⟨by simp [oneD], fun x hx => by simp [oneD] at hx; subst hx; exact h⟩
theorem one_own {w : World} {lo hi : Nat} {mv : Value} {m : MsgD} (h : MsgsN w lo hi mv [m]) : ∃ g cap fv, mv = .slice (some ⟨g, 0, none⟩) 1 cap ∧ 1 ≤ cap ∧ w.cell? ⟨g, 0, none⟩ = some (.string m.name) ∧ w.cell? ⟨g, 1, none⟩ = some fv ∧ FieldsN w lo hi fv m.fields := by
  obtain ⟨css, ⟨⟨h1, h2⟩, h3⟩, hm1, hm2⟩ := h
  have hl : css.length = 1 := hm1
  rcases h2 with ⟨hv, h0⟩ | ⟨g, cap, cur, hv, hb, hc, hn, _, hsz, htake⟩
  · omega
  · obtain ⟨c0, hc0⟩ := getElem?_lt (l := css) (k := 0) (by omega)
    obtain ⟨fv, he, hF⟩ := hm2 0 m c0 rfl hc0
    rw [hl] at hv hn htake
    refine ⟨g, cap, fv, hv, hn, ?_, ?_, hF⟩
    · have := flatMap_get (enc := (Subtype.val : Cs 2 → List Value)) (fun x => x.2) css 0 c0 0 (.string m.name) hc0 (by rw [he]; rfl)
      rw [← htake, List.getElem?_take] at this
      rw [(cells_of_heap hc).1]
      simpa using this
    · have := flatMap_get (enc := (Subtype.val : Cs 2 → List Value)) (fun x => x.2) css 0 c0 1 fv hc0 (by rw [he]; rfl)
      rw [← htake, List.getElem?_take] at this
      rw [(cells_of_heap hc).1]
      simpa using this
theorem idxM1 {w : World} {QP : List PanicEntry → World → Prop} {k : Value → World → Prop} (b c : Nat) : opV Try.prog (Instr.indexAt 42 (.slice (some ⟨b, 0, none⟩) 1 c) (.int .i64 0)) QP w k = k (.pointer (some ⟨b, 0, none⟩)) w := op_indexN Try.underlying42 ty50 b 0 1 c .i64 0 (by decide)
section
variable {R : Ending → World → Prop}
theorem lrf_loop {W : World} {lo hi n p2 p3 p4 p6 : Nat} {fv t33 nm : Value} (hS : ShapeF W lo hi fv n) (hn : n ≤ 1048576) (hhi : hi ≤ W.heap.size) (o6 : W.heap[p6]? = some (.cells #[nm, fv] 50 (0, 0))) (h6 : hi ≤ p6)
    (hK : ∀ w', Save lo hi W w' → n_phrasebooklaw05_SchemaRefers_c23 (.pointer (some ⟨p2, 0, none⟩)) (.pointer (some ⟨p3, 0, none⟩)) (.pointer (some ⟨p4, 0, none⟩)) t33 [] R w') :
    loop1 (fun t8 w next1 => n_phrasebooklaw05_SchemaRefers_c25 (.pointer (some ⟨p2, 0, none⟩)) (.pointer (some ⟨p3, 0, none⟩)) (.pointer (some ⟨p4, 0, none⟩)) (.pointer (some ⟨p6, 0, none⟩)) t8 t33 next1 [] R w) (.int .i64 0) W := by
  refine loop1_intro (fun i w' => ∃ k : Nat, i = .int .i64 k ∧ k ≤ n ∧ Save lo hi W w' ∧ ShapeF w' lo hi fv n) (fun i _ => n - (intOf i).toNat) ⟨0, rfl, by omega, Save.refl _ _ _, hS⟩ ?_
  rintro _ w' ⟨k, rfl, hk, hs, hS'⟩
  have y6 := hs.obj o6 (.inr h6)
  have l6 : p6 < w'.heap.size := (Array.getElem?_eq_some_iff.1 y6).1
  unfold n_phrasebooklaw05_SchemaRefers_c25
  rcases hS' with ⟨rfl, h0⟩ | ⟨g, cap, cur, rfl, hg1, hg2, hc, hcl, hk12⟩
  · have hz : decide ((k : Int) < ((0 : Nat) : Int)) = false := by simp
    simp (disch := first | assumption | (simp only [ONE]; done) | rfl | (simp only [SZ]; done) | omega | (simp only [SZ] at *; omega)) only [↓PR, QR, Int.reduceBEq, Int.reduceBNe, Int.reduceLT, Int.reduceLE, Int.reduceGT, Int.reduceGE, Int.reduceNeg, (cells_of_heap y6).1, hz]
    exact hK w' hs
  · by_cases hlt : k < n
    · have d1 : decide ((k : Int) < (n : Int)) = true := by simp; omega
      obtain ⟨cv, hcv, hSC⟩ := hk12 k hlt
      obtain ⟨u, hu⟩ : ∃ u, cur[k * 15 + 9]? = some u := ⟨_, Array.getElem?_eq_getElem (by omega)⟩
      simp (disch := first | assumption | (simp only [ONE]; done) | rfl | (simp only [SZ]; done) | omega | (simp only [SZ] at *; omega)) only [↓PR, QR, Int.reduceBEq, Int.reduceBNe, Int.reduceLT, Int.reduceLE, Int.reduceGT, Int.reduceGE, Int.reduceNeg, (cells_of_heap y6).1, d1]
      unfold n_phrasebooklaw05_SchemaRefers_c24
      have a1 : w'.cell? ⟨g, k * 15 + 9, none⟩ = some u := by rw [(cells_of_heap hc).1]; exact hu
      simp (disch := first | assumption | (simp only [ONE]; done) | rfl | (simp only [SZ]; done) | omega | (simp only [SZ] at *; omega)) only [↓PR, QR, Int.reduceBEq, Int.reduceBNe, Int.reduceLT, Int.reduceLE, Int.reduceGT, Int.reduceGE, Int.reduceNeg, (cells_of_heap y6).1, a1, (cells_of_heap hc).2]
      have s1 : Save lo hi W (w'.setCell ⟨g, k * 15 + 9, none⟩ (.string ⟨#[120]⟩)) := hs.setCell hg1 hg2 _
      have hc1 := heap_set (o := k * 15 + 9) hc (.string ⟨#[120]⟩)
      have hcv1 : (cur.setIfInBounds (k * 15 + 9) (.string ⟨#[120]⟩))[k * 15 + 12]? = some cv := by rw [Array.getElem?_setIfInBounds_ne (by omega)]; exact hcv
      have hSC1 := hSC.set g (k * 15 + 9) (.string ⟨#[120]⟩)
      have hSF1 : ShapeF (w'.setCell ⟨g, k * 15 + 9, none⟩ (.string ⟨#[120]⟩)) lo hi (.slice (some ⟨g, 0, none⟩) n cap) n := ShapeF.set (.inr ⟨g, cap, cur, rfl, hg1, hg2, hc, hcl, hk12⟩) g _ _ (fun _ _ _ _ => by omega)
      generalize (cur.setIfInBounds (k * 15 + 9) (.string ⟨#[120]⟩)) = cur1 at hc1 hcv1
      generalize (w'.setCell ⟨g, k * 15 + 9, none⟩ (.string ⟨#[120]⟩)) = w1 at s1 hc1 hSC1 hSF1 ⊢
      clear hS hs hSC hc hcl hk12 hcv hu a1 y6 l6
      obtain ⟨len, hlen⟩ : ∃ len : Nat, ∀ w, ShapeC w lo hi cv → ∃ A cc, cv = .slice A len cc := by
        rcases hSC1 with rfl | ⟨gc, len, cc, cur, rfl, _⟩
        · exact ⟨0, fun _ _ => ⟨_, _, rfl⟩⟩
        · exact ⟨len, fun _ _ => ⟨_, _, rfl⟩⟩
      refine loop1_intro (fun i w'' => ∃ (j : Nat) (cur' : Array Value), i = .int .i64 j ∧ j ≤ len ∧ Save lo hi W w'' ∧ ShapeF w'' lo hi (.slice (some ⟨g, 0, none⟩) n cap) n ∧ ShapeC w'' lo hi cv ∧ w''.heap[g]? = some (.cells cur' TF (0, 0)) ∧ cur'[k * 15 + 12]? = some cv) (fun i _ => len - (intOf i).toNat) ⟨0, cur1, rfl, by omega, s1, hSF1, hSC1, hc1, hcv1⟩ ?_
      rintro _ w2 ⟨j, cur2, rfl, hj, s2, hSF2, hSC2, hc2, hcv2⟩
      have y6 := s2.obj o6 (.inr h6)
      have a1 : w2.cell? ⟨g, k * 15 + 12, none⟩ = some cv := by rw [(cells_of_heap hc2).1]; exact hcv2
      unfold n_phrasebooklaw05_SchemaRefers_c2
      by_cases hjl : j < len
      · have d2 : decide ((j : Int) < (len : Int)) = true := by simp; omega
        rcases hSC2 with rfl | ⟨gc, len', cc, curc, rfl, hgc1, hgc2, hcc, hccl, hcc6⟩
        · obtain ⟨A, cc, h⟩ := hlen w2 (.inl rfl)
          injection h with _ h
          omega
        · obtain ⟨A, cc', h⟩ := hlen w2 (.inr ⟨gc, len', cc, curc, rfl, hgc1, hgc2, hcc, hccl, hcc6⟩)
          injection h with _ h _
          subst h
          obtain ⟨u, hu⟩ : ∃ u, curc[j * 3 + 2]? = some u := ⟨_, Array.getElem?_eq_getElem (by omega)⟩
          have a2 : w2.cell? ⟨gc, j * 3 + 2, none⟩ = some u := by rw [(cells_of_heap hcc).1]; exact hu
          have hne : g ≠ gc := by rintro rfl; rw [hc2] at hcc; injection hcc with hcc; injection hcc with _ hcc; exact absurd hcc (by decide)
          simp (disch := first | assumption | (simp only [ONE]; done) | rfl | (simp only [SZ]; done) | omega | (simp only [SZ] at *; omega)) only [↓PR, QR, Int.reduceBEq, Int.reduceBNe, Int.reduceLT, Int.reduceLE, Int.reduceGT, Int.reduceGE, Int.reduceNeg, (cells_of_heap y6).1, a1, d2]
          unfold n_phrasebooklaw05_SchemaRefers_c1
          simp (disch := first | assumption | (simp only [ONE]; done) | rfl | (simp only [SZ]; done) | omega | (simp only [SZ] at *; omega)) only [↓PR, QR, Int.reduceBEq, Int.reduceBNe, Int.reduceLT, Int.reduceLE, Int.reduceGT, Int.reduceGE, Int.reduceNeg, (cells_of_heap y6).1, a1, a2, (cells_of_heap hcc).2]
          refine ⟨⟨j + 1, cur2, rfl, by omega, s2.setCell hgc1 hgc2 _, hSF2.set gc _ _ (fun T cur hT hTF => ?_), ShapeC.set (.inr ⟨gc, _, cc, curc, rfl, hgc1, hgc2, hcc, hccl, hcc6⟩) _ _ _, hc2, hcv2⟩, meas_lt hjl⟩
          rw [hcc] at hT
          injection hT with hT
          injection hT with _ hT
          subst hTF
          exact absurd hT (by decide)
      · have hje : j = len := by omega
        obtain ⟨A, cc, hcvv⟩ := hlen w2 hSC2
        subst hcvv
        have d2 : decide ((j : Int) < (len : Int)) = false := by simp; omega
        simp (disch := first | assumption | (simp only [ONE]; done) | rfl | (simp only [SZ]; done) | omega | (simp only [SZ] at *; omega)) only [↓PR, QR, Int.reduceBEq, Int.reduceBNe, Int.reduceLT, Int.reduceLE, Int.reduceGT, Int.reduceGE, Int.reduceNeg, (cells_of_heap y6).1, a1, d2]
        exact ⟨⟨k + 1, rfl, by omega, s2, hSF2⟩, meas_lt hlt⟩
    · have d1 : decide ((k : Int) < (n : Int)) = false := by simp; omega
      simp (disch := first | assumption | (simp only [ONE]; done) | rfl | (simp only [SZ]; done) | omega | (simp only [SZ] at *; omega)) only [↓PR, QR, Int.reduceBEq, Int.reduceBNe, Int.reduceLT, Int.reduceLE, Int.reduceGT, Int.reduceGE, Int.reduceNeg, (cells_of_heap y6).1, d1]
      exact hK w' hs
theorem lrf_after1 {w0 W w2 : World} {p3 p4 p10 p11 p12 : Nat} {many : Int} {t k n : Nat} {A : Option Addr} {cc : Nat} {ds : List Deferred} {next3 : List Deferred → Value → World → Prop} (x3 : w2.heap[p3]? = some (.cells #[.int .i64 many] 3 (0, 0))) (x10 : w2.heap[p10]? = some (.cells #[.slice A n cc] 63 (0, 0))) (y11 : w2.heap[p11]? = some (.cells #[.int .i64 (t : Int)] 3 (0, 0))) (y12 : w2.heap[p12]? = some (.cells #[.int .i64 (k : Int)] 3 (0, 0)))
    (ht : t < 2) (h0 : t = 0 → (k : Int) = min (n : Int) (max 1 many)) (h1 : t = 1 → k = n) (hn : ∀ w', w2.heap.size < w'.heap.size → w'.heap[w2.heap.size]? = some (.cells #[.int .i64 ((t + 1 : Nat) : Int)] 3 (0, 0)) → Ext w2 w' → next3 ds (.pointer (some ⟨w2.heap.size, 0, none⟩)) w') :
    n_phrasebooklaw05_SchemaRefers_c11 (.pointer (some ⟨p3, 0, none⟩)) (.pointer (some ⟨p4, 0, none⟩)) (.pointer (some ⟨p10, 0, none⟩)) (.pointer (some ⟨p11, 0, none⟩)) (.pointer (some ⟨p12, 0, none⟩)) next3 ds R w2 := by
  have fin : n_phrasebooklaw05_SchemaRefers_c5 (.pointer (some ⟨p4, 0, none⟩)) (.pointer (some ⟨p11, 0, none⟩)) next3 ds R w2 := by
    unfold n_phrasebooklaw05_SchemaRefers_c5
    simp (disch := first | assumption | (simp only [ONE]; done) | rfl | (simp only [SZ]; done) | omega | (simp only [SZ] at *; omega)) only [↓PR, QR, Int.reduceBEq, Int.reduceBNe, Int.reduceLT, Int.reduceLE, Int.reduceGT, Int.reduceGE, Int.reduceNeg, (cells_of_heap y11).1]
    exact hn _ (by simp only [World.size_alloc]; omega) (by simpa using heap_new w2 #[.int .i64 ((t + 1 : Nat) : Int)] 3) ee
  unfold n_phrasebooklaw05_SchemaRefers_c11
  have hcase : t = 0 ∨ t = 1 := by omega
  rcases hcase with rfl | rfl
  · have hm : (if (if many > 1 then many else 1) < (n : Int) then (if many > 1 then many else 1) else (n : Int)) = (k : Int) := by
      rw [h0 rfl]
      split <;> split <;> omega
    have d0 : ((((0 : Nat) : Int)) == 0) = true := rfl
    have d1 : ((((0 : Nat) : Int)) == 1) = false := rfl
    have dk : ((k : Int) != (k : Int)) = false := by simp
    simp (disch := first | assumption | (simp only [ONE]; done) | rfl | (simp only [SZ]; done) | omega | (simp only [SZ] at *; omega)) only [↓PR, QR, Int.reduceBEq, Int.reduceBNe, Int.reduceLT, Int.reduceLE, Int.reduceGT, Int.reduceGE, Int.reduceNeg, (cells_of_heap y11).1, d0, n_phrasebooklaw05_SchemaRefers_c10, (cells_of_heap y12).1, (cells_of_heap x10).1, (cells_of_heap x3).1, hm, dk, n_phrasebooklaw05_SchemaRefers_c9, d1, n_phrasebooklaw05_SchemaRefers_c8, n_phrasebooklaw05_SchemaRefers_c7, n_phrasebooklaw05_SchemaRefers_c6]
    exact fin
  · have d0 : ((((1 : Nat) : Int)) == 0) = false := rfl
    have d1 : ((((1 : Nat) : Int)) == 1) = true := rfl
    have dk : ((k : Int) != (n : Int)) = false := by rw [h1 rfl]; simp
    simp (disch := first | assumption | (simp only [ONE]; done) | rfl | (simp only [SZ]; done) | omega | (simp only [SZ] at *; omega)) only [↓PR, QR, Int.reduceBEq, Int.reduceBNe, Int.reduceLT, Int.reduceLE, Int.reduceGT, Int.reduceGE, Int.reduceNeg, (cells_of_heap y11).1, d0, n_phrasebooklaw05_SchemaRefers_c9, d1, n_phrasebooklaw05_SchemaRefers_c8, (cells_of_heap y12).1, (cells_of_heap x10).1, dk, n_phrasebooklaw05_SchemaRefers_c7, n_phrasebooklaw05_SchemaRefers_c6]
    exact fin
theorem lrf_after2 {w0 W w2 : World} {p3 p4 p10 p11 p12 : Nat} {many : Int} {t k n : Nat} {A : Option Addr} {cc : Nat} {ds : List Deferred} {next3 : List Deferred → Value → World → Prop} (x3 : w2.heap[p3]? = some (.cells #[.int .i64 many] 3 (0, 0))) (x10 : w2.heap[p10]? = some (.cells #[.slice A n cc] 63 (0, 0))) (y11 : w2.heap[p11]? = some (.cells #[.int .i64 (t : Int)] 3 (0, 0))) (y12 : w2.heap[p12]? = some (.cells #[.int .i64 (k : Int)] 3 (0, 0)))
    (ht : t < 2) (h0 : t = 0 → (k : Int) = min (n : Int) (max 1 many)) (h1 : t = 1 → k = n) (hn : ∀ w', w2.heap.size < w'.heap.size → w'.heap[w2.heap.size]? = some (.cells #[.int .i64 ((t + 1 : Nat) : Int)] 3 (0, 0)) → Ext w2 w' → next3 ds (.pointer (some ⟨w2.heap.size, 0, none⟩)) w') :
    n_phrasebooklaw05_SchemaRefers_c18 (.pointer (some ⟨p3, 0, none⟩)) (.pointer (some ⟨p4, 0, none⟩)) (.pointer (some ⟨p10, 0, none⟩)) (.pointer (some ⟨p11, 0, none⟩)) (.pointer (some ⟨p12, 0, none⟩)) next3 ds R w2 := by
  have fin : n_phrasebooklaw05_SchemaRefers_c12 (.pointer (some ⟨p4, 0, none⟩)) (.pointer (some ⟨p11, 0, none⟩)) next3 ds R w2 := by
    unfold n_phrasebooklaw05_SchemaRefers_c12
    simp (disch := first | assumption | (simp only [ONE]; done) | rfl | (simp only [SZ]; done) | omega | (simp only [SZ] at *; omega)) only [↓PR, QR, Int.reduceBEq, Int.reduceBNe, Int.reduceLT, Int.reduceLE, Int.reduceGT, Int.reduceGE, Int.reduceNeg, (cells_of_heap y11).1]
    exact hn _ (by simp only [World.size_alloc]; omega) (by simpa using heap_new w2 #[.int .i64 ((t + 1 : Nat) : Int)] 3) ee
  unfold n_phrasebooklaw05_SchemaRefers_c18
  have hcase : t = 0 ∨ t = 1 := by omega
  rcases hcase with rfl | rfl
  · have hm : (if (if many > 1 then many else 1) < (n : Int) then (if many > 1 then many else 1) else (n : Int)) = (k : Int) := by
      rw [h0 rfl]
      split <;> split <;> omega
    have d0 : ((((0 : Nat) : Int)) == 0) = true := rfl
    have d1 : ((((0 : Nat) : Int)) == 1) = false := rfl
    have dk : ((k : Int) != (k : Int)) = false := by simp
    simp (disch := first | assumption | (simp only [ONE]; done) | rfl | (simp only [SZ]; done) | omega | (simp only [SZ] at *; omega)) only [↓PR, QR, Int.reduceBEq, Int.reduceBNe, Int.reduceLT, Int.reduceLE, Int.reduceGT, Int.reduceGE, Int.reduceNeg, (cells_of_heap y11).1, d0, n_phrasebooklaw05_SchemaRefers_c17, (cells_of_heap y12).1, (cells_of_heap x10).1, (cells_of_heap x3).1, hm, dk, n_phrasebooklaw05_SchemaRefers_c16, d1, n_phrasebooklaw05_SchemaRefers_c15, n_phrasebooklaw05_SchemaRefers_c14, n_phrasebooklaw05_SchemaRefers_c13]
    exact fin
  · have d0 : ((((1 : Nat) : Int)) == 0) = false := rfl
    have d1 : ((((1 : Nat) : Int)) == 1) = true := rfl
    have dk : ((k : Int) != (n : Int)) = false := by rw [h1 rfl]; simp
    simp (disch := first | assumption | (simp only [ONE]; done) | rfl | (simp only [SZ]; done) | omega | (simp only [SZ] at *; omega)) only [↓PR, QR, Int.reduceBEq, Int.reduceBNe, Int.reduceLT, Int.reduceLE, Int.reduceGT, Int.reduceGE, Int.reduceNeg, (cells_of_heap y11).1, d0, n_phrasebooklaw05_SchemaRefers_c16, d1, n_phrasebooklaw05_SchemaRefers_c15, (cells_of_heap y12).1, (cells_of_heap x10).1, dk, n_phrasebooklaw05_SchemaRefers_c14, n_phrasebooklaw05_SchemaRefers_c13]
    exact fin
def turnM (a : Value) (w : World) : Nat := match a with
  | .pointer (some p) => (match w.cell? p with
    | some (.int _ t) => (2 - t).toNat
    | _ => 0)
  | _ => 0
theorem outs_true {l : List Nat} : ∀ {w : World} {w0 : World} {p4 lo : Nat}, l.Nodup → (∀ b ∈ l, MarkAt b w ∧ lo ≤ b) → p4 < lo → w0.heap.size ≤ lo → Ext w0 w → w.heap[p4]? = some (.cells #[.bool true] 4 (0, 0)) →
    outX Try.prog (l.map Sw.mark) [(some 4, .pointer (some ⟨p4, 0, none⟩))] (retR fun r w' => r = .bool true ∧ Ext w0 w') w := by
  induction l with
  | nil =>
    intro w w0 p4 lo _ _ _ _ e h4
    show outX _ [] _ _ _
    simp (disch := first | assumption | (simp only [ONE]; done) | rfl | (simp only [SZ]; done) | omega | (simp only [SZ] at *; omega)) only [↓PR, QR, Int.reduceBEq, Int.reduceBNe, Int.reduceLT, Int.reduceLE, Int.reduceGT, Int.reduceGE, Int.reduceNeg, outX_nil, retV, resOne, (cells_of_heap h4).1]
    exact ⟨trivial, e⟩
  | cons b l ih =>
    intro w w0 p4 lo hn hm hp hl e h4
    obtain ⟨hb, hn'⟩ := List.nodup_cons.1 hn
    have hmb := hm b (List.mem_cons_self ..)
    refine outX_mark hmb.1 (ih hn' (fun c hc => ⟨?_, (hm c (List.mem_cons_of_mem _ hc)).2⟩) hp hl (e.putObj (by omega) _) ((World.putObj_heap_other (by omega)).trans h4))
    exact (World.putObj_heap_other (fun (e : c = b) => hb (by rw [← e]; exact hc))).trans (hm c (List.mem_cons_of_mem _ hc)).1
theorem lasts_marks (B : Nat) (l : List Nat) : Lasts B (fun w => ∀ b ∈ l, MarkAt b w) := ⟨fun w w' h e b hb => (h b hb).ext e, fun w q r r' hl h hr b hb => by
  have := h b hb
  exact (World.putObj_heap_other (by rintro rfl; unfold MarkAt at this; rw [this] at hr; cases hr)).trans this⟩
theorem lrf_main {w0 w : World} {m : MsgD} {fv sv : Value} {p2 p3 p4 pb : Nat} (hF : FieldsOf w0 fv m.fields) (hb : (allRefs m.fields).length ≤ 1048576) (many : Int) (e : Ext w0 w) (o2 : w.heap[p2]? = some (.cells (msgCells m fv).toArray 50 (0, 0))) (o3 : w.heap[p3]? = some (.cells #[.int .i64 many] 3 (0, 0)))
    (o4 : w.heap[p4]? = some (.cells #[.bool false] 4 (0, 0))) (hS : StrsAt w pb sv (allRefs m.fields)) (h2 : w0.heap.size ≤ p2) (h3 : p2 < p3) (h4 : p3 < p4) (h5 : p4 < w.heap.size) :
    n_phrasebooklaw05_SchemaRefers_c23 (.pointer (some ⟨p2, 0, none⟩)) (.pointer (some ⟨p3, 0, none⟩)) (.pointer (some ⟨p4, 0, none⟩)) (.func (.func 45) #[] #[.pointer (some ⟨pb, 0, none⟩)]) [] (retR fun r w' => r = .bool true ∧ Ext w0 w') w := by
  unfold n_phrasebooklaw05_SchemaRefers_c23
  simp (disch := first | assumption | (simp only [ONE]; done) | rfl | (simp only [SZ]; done) | omega | (simp only [SZ] at *; omega)) only [↓PR, QR, Int.reduceBEq, Int.reduceBNe, Int.reduceLT, Int.reduceLE, Int.reduceGT, Int.reduceGE, Int.reduceNeg, (cells_of_heap o2).1]
  refine callK_ret (rRefers_ret w _ m ⟨fv, rfl, hF.ext e⟩ hb) ?_
  rintro wv w1 ⟨hW, e1⟩
  have hWs := hW.slice (E := EStr) (fun _ => rfl) (fun _ _ => rfl)
  have hw1 := SliceOf.oneCell hWs
  unfold n_phrasebooklaw05_SchemaRefers_c22
  simp (disch := first | assumption | (simp only [ONE]; done) | rfl | (simp only [SZ]; done) | omega | (simp only [SZ] at *; omega)) only [↓PR, QR, Int.reduceBEq, Int.reduceBNe, Int.reduceLT, Int.reduceLE, Int.reduceGT, Int.reduceGE, Int.reduceNeg]
  have s1 := e1.size
  have eA : Ext w ((w1.alloc (Obj.cells #[wv] 63)).alloc (Obj.cells #[.int .i64 0] 3)) := ee
  have o11 := heap_new (w1.alloc (Obj.cells #[wv] 63)) #[.int .i64 0] 3
  have o10 := ((Ext.refl (w1.alloc (Obj.cells #[wv] 63))).alloc (Obj.cells #[.int .i64 0] 3)).obj (heap_new w1 #[wv] 63)
  have hWs' : SliceOf ((w1.alloc (Obj.cells #[wv] 63)).alloc (Obj.cells #[.int .i64 0] 3)) 1 EStr wv (refsL m) := hWs.ext keptStr ee
  rw [World.size_alloc] at o11
  generalize hp10 : w1.heap.size = p10 at o10 o11 ⊢
  generalize ((w1.alloc (Obj.cells #[wv] 63)).alloc (Obj.cells #[.int .i64 0] 3)) = W at eA o10 o11 hWs' ⊢
  have x3 := eA.obj o3
  have x4 := eA.obj o4
  have hSW := hS.ext eA
  have hhh : w.heap.size ≤ p10 := by omega
  have EW := e.trans eA
  clear o2 o3 o4 hS eA hWs hW e1
  refine loopM1_intro (fun ds a w' => ∃ (p11 : Nat) (t : Nat), a = .pointer (some ⟨p11, 0, none⟩) ∧ t ≤ 2 ∧ p10 < p11 ∧ w'.heap[p11]? = some (.cells #[.int .i64 (t : Int)] 3 (0, 0)) ∧ Ext W w' ∧ (∃ bs : List Nat, ds = bs.map Sw.mark ∧ bs.Nodup ∧ (∀ b ∈ bs, MarkAt b w') ∧ ∀ b ∈ bs, w.heap.size ≤ b)) turnM ⟨p10 + 1, 0, rfl, by omega, by omega, o11, Ext.refl _, [], rfl, by simp, by simp, by simp⟩ ?_
  rintro ds _ w2 ⟨p11, t, rfl, ht2, hp11, y11, e2, bs, rfl, hnd, hbs, hbl⟩
  have hcw : ∀ (w' : World) (p u : Nat), w'.heap[p]? = some (.cells #[.int .i64 (u : Int)] 3 (0, 0)) → turnM (.pointer (some ⟨p, 0, none⟩)) w' = 2 - u := by
    intro w' p u h
    unfold turnM
    simp only
    rw [(cells_of_heap h).1 0]
    show ((2 : Int) - (u : Int)).toNat = 2 - u
    omega
  have s2 := e2.size
  have l10 : p10 < W.heap.size := (Array.getElem?_eq_some_iff.1 o10).1
  obtain ⟨A, cc, rfl, hlc, hcm, hlm, hel⟩ := SliceOf.open hWs'
  unfold n_phrasebooklaw05_SchemaRefers_c21
  by_cases ht : t < 2
  · have dt : decide ((t : Int) < 2) = true := by simp; omega
    simp (disch := first | assumption | (simp only [ONE]; done) | rfl | (simp only [SZ]; done) | omega | (simp only [SZ] at *; omega)) only [↓PR, QR, Int.reduceBEq, Int.reduceBNe, Int.reduceLT, Int.reduceLE, Int.reduceGT, Int.reduceGE, Int.reduceNeg, (cells_of_heap y11).1, dt]
    unfold n_phrasebooklaw05_SchemaRefers_c20
    simp (disch := first | assumption | (simp only [ONE]; done) | rfl | (simp only [SZ]; done) | omega | (simp only [SZ] at *; omega)) only [↓PR, QR, Int.reduceBEq, Int.reduceBNe, Int.reduceLT, Int.reduceLE, Int.reduceGT, Int.reduceGE, Int.reduceNeg]
    have l11 : p11 < w2.heap.size := (Array.getElem?_eq_some_iff.1 y11).1
    have eB : Ext w2 (w2.alloc (Obj.cells #[.int .i64 0] 3)) := ee
    have o12 := heap_new w2 #[.int .i64 0] 3
    have hs3 : (w2.alloc (Obj.cells #[.int .i64 0] 3)).heap.size = w2.heap.size + 1 := by simp only [World.size_alloc]
    generalize hp12 : w2.heap.size = p12 at o12 hs3 ⊢
    generalize (w2.alloc (Obj.cells #[.int .i64 0] 3)) = w3 at eB o12 hs3 ⊢
    let I : Nat → World → Prop := fun k w' => Ext W w' ∧ (∀ b ∈ bs, MarkAt b w') ∧ w'.heap[p11]? = some (.cells #[.int .i64 (t : Int)] 3 (0, 0)) ∧ w'.heap[p12]? = some (.cells #[.int .i64 (k : Int)] 3 (0, 0)) ∧ (t = 0 → k = 0 ∨ (k : Int) < many)
    let Ix : Nat → World → Prop := fun c w' => c = 1 ∧ Ext W w' ∧ (∀ b ∈ bs, MarkAt b w') ∧ w'.heap[p11]? = some (.cells #[.int .i64 (t : Int)] 3 (0, 0)) ∧ ∃ k : Nat, w'.heap[p12]? = some (.cells #[.int .i64 (k : Int)] 3 (0, 0)) ∧ t = 0 ∧ (k : Int) = min ((refsL m).length : Int) (max 1 many)
    have hLI : ∀ k, Lasts w3.heap.size (I k) := fun k => Lasts.and (Lasts.from (by omega)) (Lasts.and (lasts_marks _ _) (Lasts.and (Lasts.has _ (by simp)) (Lasts.and (Lasts.has _ (by simp)) (Lasts.const _ _))))
    have hLX : ∀ k, Lasts w3.heap.size (Ix k) := fun k => Lasts.and (Lasts.const _ _) (Lasts.and (Lasts.from (by omega)) (Lasts.and (lasts_marks _ _) (Lasts.and (Lasts.has _ (by simp)) (Lasts.ex fun k => Lasts.and (Lasts.has _ (by simp)) (Lasts.const _ _)))))
    have hfin : ∀ (w4 : World), Ext W w4 → (∀ b ∈ bs, MarkAt b w4) → w4.heap[p11]? = some (.cells #[.int .i64 (t : Int)] 3 (0, 0)) → MarkAt w3.heap.size w4 → ∀ w5, w4.heap.size < w5.heap.size → w5.heap[w4.heap.size]? = some (.cells #[.int .i64 ((t + 1 : Nat) : Int)] 3 (0, 0)) → Ext w4 w5 →
        (∃ (p11 : Nat) (t' : Nat), Value.pointer (some ⟨w4.heap.size, 0, none⟩) = .pointer (some ⟨p11, 0, none⟩) ∧ t' ≤ 2 ∧ p10 < p11 ∧ w5.heap[p11]? = some (.cells #[.int .i64 (t' : Int)] 3 (0, 0)) ∧ Ext W w5 ∧ (∃ bs' : List Nat, (Sw.mark w3.heap.size :: bs.map Sw.mark) = bs'.map Sw.mark ∧ bs'.Nodup ∧ (∀ b ∈ bs', MarkAt b w5) ∧ ∀ b ∈ bs', w.heap.size ≤ b)) ∧
        turnM (.pointer (some ⟨w4.heap.size, 0, none⟩)) w5 < turnM (.pointer (some ⟨p11, 0, none⟩)) w2 := by
      intro w4 e4 hm4 q11 hmk w5 hlt5 h5 e5
      have s4 := e4.size
      refine ⟨⟨w4.heap.size, t + 1, rfl, by omega, by omega, h5, e4.trans e5, w3.heap.size :: bs, rfl, List.nodup_cons.2 ⟨fun hin => ?_, hnd⟩, fun b hb => ?_, fun b hb => ?_⟩, ?_⟩
      · have := hbs _ hin
        have := (Array.getElem?_eq_some_iff.1 this).1
        omega
      · rcases List.mem_cons.1 hb with rfl | hb
        · exact hmk.ext e5
        · exact (hm4 b hb).ext e5
      · rcases List.mem_cons.1 hb with rfl | hb
        · omega
        · exact hbl b hb
      · rw [hcw w5 _ (t + 1) h5, hcw w2 p11 t y11]; omega
    refine ⟨_, _, (refsL m).length, strX (refsL m), fun w => StrsAt w pb sv (allRefs m.fields), I, Ix, fun _ _ => False, rfl, c45, Refers_seq pb sv _, ⟨e2.trans eB, fun b hb => (hbs b hb).ext eB, eB.obj y11, o12, fun _ => .inl rfl⟩, fun k w' h => hSW.ext h.1, hLI, hLX, ?_, ?_, ?_, ?_⟩
    · intro rec j w4 hj hI4 hrec hready
      refine ⟨hready, fun w5 hbz => ?_⟩
      have hrec5 := hrec.busied hbz
      have hI5 := (hLI j).busied hbz (Nat.le_succ _) hI4
      clear hI4 hrec hready hbz
      obtain ⟨e5, hm5, q11, q12, hjm⟩ := hI5
      obtain ⟨s, hs⟩ := getElem?_lt hj
      obtain ⟨b, o, cs, rfl, _, hE, hcs⟩ := hel j s hs
      subst hcs
      rw [show strX (refsL m) j = .string s by unfold strX; rw [hs]]
      have l12 : p12 < w5.heap.size := (Array.getElem?_eq_some_iff.1 q12).1
      have hge : decide ((j : Int) ≥ ((refsL m).length : Int)) = false := by simp; omega
      have hss : (!decide (s = s)) = false := by simp
      unfold n_phrasebooklaw05_SchemaRefers_c4
      simp (disch := first | assumption | (simp only [ONE]; done) | rfl | (simp only [SZ]; done) | omega | (simp only [SZ] at *; omega)) only [↓PR, QR, Int.reduceBEq, Int.reduceBNe, Int.reduceLT, Int.reduceLE, Int.reduceGT, Int.reduceGE, Int.reduceNeg, (cells_of_heap q12).1, (cells_of_heap (e5.obj o10)).1, hge, hE.c1 e5, hss]
      unfold n_phrasebooklaw05_SchemaRefers_c3
      have hw : IntKind.i64.wrap ((j : Int) + 1) = ((j + 1 : Nat) : Int) := by rw [wrap_ok (by omega) (by omega)]; omega
      have r12 := heap_set (o := 0) q12 (.int .i64 ((j + 1 : Nat) : Int))
      simp only [List.setIfInBounds_toArray, List.set_cons_zero] at r12
      have r11 := (Only.setCell w5 p12 0 (.int .i64 ((j + 1 : Nat) : Int)) p11 (by omega)).trans q11
      have e6 : Ext W (w5.setCell ⟨p12, 0, none⟩ (.int .i64 ((j + 1 : Nat) : Int))) := e5.setCell (by show W.heap.size ≤ p12; omega) _
      have hm6 : ∀ b ∈ bs, MarkAt b (w5.setCell ⟨p12, 0, none⟩ (.int .i64 ((j + 1 : Nat) : Int))) := fun b hb => (hm5 b hb).setCell _ _
      have hrec6 := hrec5.setCell ⟨p12, 0, none⟩ (.int .i64 ((j + 1 : Nat) : Int))
      have x3' := e5.obj x3
      have hcase : t = 0 ∨ t = 1 := by omega
      rcases hcase with ht0 | ht1
      · have d0 : ((t : Int) == 0) = true := by rw [ht0]; rfl
        by_cases hmy : ((j + 1 : Nat) : Int) ≥ many
        · have dm : decide (((j + 1 : Nat) : Int) ≥ many) = true := by simpa using hmy
          simp (disch := first | assumption | (simp only [ONE]; done) | rfl | (simp only [SZ]; done) | omega | (simp only [SZ] at *; omega)) only [↓PR, QR, Int.reduceBEq, Int.reduceBNe, Int.reduceLT, Int.reduceLE, Int.reduceGT, Int.reduceGE, Int.reduceNeg, (cells_of_heap q12).1, (cells_of_heap q12).2, (cells_of_heap q11).1, d0, (cells_of_heap r12).1, (cells_of_heap x3').1, dm]
          refine ⟨hrec6, rfl, e6, hm6, r11, j + 1, r12, ht0, ?_⟩
          have := hjm ht0
          omega
        · have dm : decide (((j + 1 : Nat) : Int) ≥ many) = false := by simpa using hmy
          simp (disch := first | assumption | (simp only [ONE]; done) | rfl | (simp only [SZ]; done) | omega | (simp only [SZ] at *; omega)) only [↓PR, QR, Int.reduceBEq, Int.reduceBNe, Int.reduceLT, Int.reduceLE, Int.reduceGT, Int.reduceGE, Int.reduceNeg, (cells_of_heap q12).1, (cells_of_heap q12).2, (cells_of_heap q11).1, d0, (cells_of_heap r12).1, (cells_of_heap x3').1, dm]
          exact ⟨hrec6, e6, hm6, r11, r12, fun _ => .inr (by omega)⟩
      · have d0 : ((t : Int) == 0) = false := by rw [ht1]; rfl
        simp (disch := first | assumption | (simp only [ONE]; done) | rfl | (simp only [SZ]; done) | omega | (simp only [SZ] at *; omega)) only [↓PR, QR, Int.reduceBEq, Int.reduceBNe, Int.reduceLT, Int.reduceLE, Int.reduceGT, Int.reduceGE, Int.reduceNeg, (cells_of_heap q12).1, (cells_of_heap q12).2, (cells_of_heap q11).1, d0]
        exact ⟨hrec6, e6, hm6, r11, r12, fun h => by omega⟩
    · rintro w4 ⟨e4, hm4, q11, q12, hjm⟩ hmk
      exact lrf_after1 (W := W) (w0 := w0) (e4.obj x3) (e4.obj o10) q11 q12 ht (fun h => by have := hjm h; omega) (fun _ => rfl) (hfin w4 e4 hm4 q11 hmk)
    · rintro c w4 ⟨rfl, e4, hm4, q11, k, q12, ht0, hk⟩ hmk
      exact lrf_after2 (W := W) (w0 := w0) (e4.obj x3) (e4.obj o10) q11 q12 ht (fun _ => hk) (fun h => by omega) (hfin w4 e4 hm4 q11 hmk)
    · rintro ch w4 h
      exact h.elim
  · have dt : decide ((t : Int) < 2) = false := by simp; omega
    simp (disch := first | assumption | (simp only [ONE]; done) | rfl | (simp only [SZ]; done) | omega | (simp only [SZ] at *; omega)) only [↓PR, QR, Int.reduceBEq, Int.reduceBNe, Int.reduceLT, Int.reduceLE, Int.reduceGT, Int.reduceGE, Int.reduceNeg, (cells_of_heap y11).1, dt]
    unfold n_phrasebooklaw05_SchemaRefers_c19
    refine callK_ret (known_ret _) ?_
    rintro _ w4 ⟨rfl, e4⟩
    have q4 := (e2.trans e4).obj x4
    simp (disch := first | assumption | (simp only [ONE]; done) | rfl | (simp only [SZ]; done) | omega | (simp only [SZ] at *; omega)) only [↓PR, QR, Int.reduceBEq, Int.reduceBNe, Int.reduceLT, Int.reduceLE, Int.reduceGT, Int.reduceGE, Int.reduceNeg, (cells_of_heap q4).1, (cells_of_heap q4).2]
    have r4 := heap_set (o := 0) q4 (.bool true)
    simp only [List.setIfInBounds_toArray, List.set_cons_zero] at r4
    exact outs_true (lo := w.heap.size) hnd (fun b hb => ⟨((hbs b hb).ext e4).setCell _ _, hbl b hb⟩) h5 e.size ((EW.trans (e2.trans e4)).setCell (by show w0.heap.size ≤ p4; omega) _) r4
end
set_option maxHeartbeats 4000000 in
theorem SchemaRefers_ret (w0 : World) (v : Value) (m : MsgD) (many : Int) (hm : MsgVal w0 v m) (hs : MsgSm m) : Ret Try.prog 5 #[v, .int .i64 many] w0 fun r w' => r = .bool true ∧ Ext w0 w' := by
  obtain ⟨fv, rfl, hF⟩ := hm
  have hf1 := SliceOf.oneCell hF
  refine n_phrasebooklaw05_SchemaRefers_sound (R := retR _) ?_; unfold n_phrasebooklaw05_SchemaRefers
  simp (disch := first | assumption | (simp only [ONE]; done) | rfl | (simp only [SZ]; done) | omega | (simp only [SZ] at *; omega)) only [↓PR, QR, Int.reduceBEq, Int.reduceBNe, Int.reduceLT, Int.reduceLE, Int.reduceGT, Int.reduceGE, Int.reduceNeg]
  simp only [World.size_alloc]
  generalize hA0 : (((w0.alloc (Obj.cells (msgCells m fv).toArray 50)).alloc (Obj.cells #[.int .i64 many] 3)).alloc (Obj.cells #[.bool false] 4)).alloc (Obj.cells #[.string m.name, fv] 50) = A0
  have e0 : Ext w0 A0 := by rw [← hA0]; exact ee
  have o2 : A0.heap[w0.heap.size]? = some (.cells (msgCells m fv).toArray 50 (0, 0)) := by rw [← hA0]; simp (disch := first | assumption | (simp only [ONE]; done) | rfl | (simp only [SZ]; done) | omega | (simp only [SZ] at *; omega)) only [↓PR, QR, Int.reduceBEq, Int.reduceBNe, Int.reduceLT, Int.reduceLE, Int.reduceGT, Int.reduceGE, Int.reduceNeg]
  have o3 : A0.heap[w0.heap.size + 1]? = some (.cells #[.int .i64 many] 3 (0, 0)) := by rw [← hA0]; simp (disch := first | assumption | (simp only [ONE]; done) | rfl | (simp only [SZ]; done) | omega | (simp only [SZ] at *; omega)) only [↓PR, QR, Int.reduceBEq, Int.reduceBNe, Int.reduceLT, Int.reduceLE, Int.reduceGT, Int.reduceGE, Int.reduceNeg]
  have o4 : A0.heap[w0.heap.size + 1 + 1]? = some (.cells #[.bool false] 4 (0, 0)) := by rw [← hA0]; simp (disch := first | assumption | (simp only [ONE]; done) | rfl | (simp only [SZ]; done) | omega | (simp only [SZ] at *; omega)) only [↓PR, QR, Int.reduceBEq, Int.reduceBNe, Int.reduceLT, Int.reduceLE, Int.reduceGT, Int.reduceGE, Int.reduceNeg]
  have o5 : A0.heap[w0.heap.size + 1 + 1 + 1]? = some (.cells (msgCells m fv).toArray 50 (0, 0)) := by rw [← hA0]; simp (disch := first | assumption | (simp only [ONE]; done) | rfl | (simp only [SZ]; done) | omega | (simp only [SZ] at *; omega)) only [↓PR, QR, Int.reduceBEq, Int.reduceBNe, Int.reduceLT, Int.reduceLE, Int.reduceGT, Int.reduceGE, Int.reduceNeg]
  have hsz : A0.heap.size = w0.heap.size + 1 + 1 + 1 + 1 := by rw [← hA0]; simp only [World.size_alloc]
  clear hA0
  generalize hp3 : w0.heap.size + 1 + 1 = p4 at o4 o5 hsz ⊢
  generalize hp4 : w0.heap.size + 1 = p3 at o3 hp3 ⊢
  generalize hp2 : w0.heap.size = p2 at o2 hp4 ⊢
  have hF0 := hF.ext e0
  refine callK_ret (fits_ret _ _ (oneD m) (one_val hF0 o5) (one_sm hs)) ?_
  rintro _ w1 ⟨b, rfl, hfit, e1⟩
  have x4 := e1.obj o4
  unfold n_phrasebooklaw05_SchemaRefers_c31
  cases b with
  | false =>
    simp (disch := first | assumption | (simp only [ONE]; done) | rfl | (simp only [SZ]; done) | omega | (simp only [SZ] at *; omega)) only [↓PR, QR, Int.reduceBEq, Int.reduceBNe, Int.reduceLT, Int.reduceLE, Int.reduceGT, Int.reduceGE, Int.reduceNeg]
    unfold n_phrasebooklaw05_SchemaRefers_c29
    refine callK_ret (known_ret _) ?_
    rintro _ w2 ⟨rfl, e2⟩
    have y4 := e2.obj x4
    simp (disch := first | assumption | (simp only [ONE]; done) | rfl | (simp only [SZ]; done) | omega | (simp only [SZ] at *; omega)) only [↓PR, QR, Int.reduceBEq, Int.reduceBNe, Int.reduceLT, Int.reduceLE, Int.reduceGT, Int.reduceGE, Int.reduceNeg, (cells_of_heap y4).1, (cells_of_heap y4).2, outX_nil, retV, resOne, (cells_of_heap (heap_set (o := 0) y4 (.bool true))).1]
    exact ⟨by first | trivial | rfl, ee⟩
  | true =>
  replace hfit := hfit rfl
  have E1 := e0.trans e1
  have hb : (allRefs m.fields).length ≤ 1048576 := (fits_calm hfit m (by simp [oneD])).1
  simp (disch := first | assumption | (simp only [ONE]; done) | rfl | (simp only [SZ]; done) | omega | (simp only [SZ] at *; omega)) only [↓PR, QR, Int.reduceBEq, Int.reduceBNe, Int.reduceLT, Int.reduceLE, Int.reduceGT, Int.reduceGE, Int.reduceNeg]
  unfold n_phrasebooklaw05_SchemaRefers_c30
  simp (disch := first | assumption | (simp only [ONE]; done) | rfl | (simp only [SZ]; done) | omega | (simp only [SZ] at *; omega)) only [↓PR, QR, Int.reduceBEq, Int.reduceBNe, Int.reduceLT, Int.reduceLE, Int.reduceGT, Int.reduceGE, Int.reduceNeg, (cells_of_heap (e1.obj o2)).1]
  have eB : Ext w1 (w1.alloc (Obj.cells (msgCells m fv).toArray 50)) := ee
  have oB := heap_new w1 (msgCells m fv).toArray 50
  generalize (w1.alloc (Obj.cells (msgCells m fv).toArray 50)) = w2 at eB oB ⊢
  have E2 := E1.trans eB
  refine callK_ret (Copy_ret w2 _ (oneD m) (one_val (hF.ext E2) oB) (fits_tame hfit)) ?_
  rintro _ w3 ⟨⟨mv, rfl, hMN⟩, e3⟩
  obtain ⟨g, cap, fv', rfl, hcap, hc0, hc1, hFN⟩ := one_own hMN
  have s3 := e3.size
  unfold n_phrasebooklaw05_SchemaRefers_c28
  have hne1 : ((((1 : Nat) : Int)) != 1) = false := rfl
  simp (disch := first | assumption | (simp only [ONE]; done) | rfl | (simp only [SZ]; done) | omega | (simp only [SZ] at *; omega)) only [↓PR, QR, Int.reduceBEq, Int.reduceBNe, Int.reduceLT, Int.reduceLE, Int.reduceGT, Int.reduceGE, Int.reduceNeg, oneD, hne1]
  have eC : Ext w3 (w3.alloc (Obj.cells (defCells (oneD m) (.slice (some ⟨g, 0, none⟩) 1 cap)).toArray 44)) := ee
  have o5 := heap_new w3 (defCells (oneD m) (.slice (some ⟨g, 0, none⟩) 1 cap)).toArray 44
  replace hc0 := eC.cell hc0
  replace hc1 := eC.cell hc1
  replace hFN := hFN.ext eC
  have s5 := eC.size
  have E3 := E2.trans (e3.trans eC)
  have z3 := (e1.trans (eB.trans (e3.trans eC))).obj o3
  have z2 := (e1.trans (eB.trans (e3.trans eC))).obj o2
  have z4 := (e1.trans (eB.trans (e3.trans eC))).obj o4
  have hlo : A0.heap.size ≤ w2.heap.size := Nat.le_trans e1.size eB.size
  show n_phrasebooklaw05_SchemaRefers_c27 _ _ _ _ _ _ (w3.alloc (Obj.cells (defCells (oneD m) (.slice (some ⟨g, 0, none⟩) 1 cap)).toArray 44))
  generalize (w3.alloc (Obj.cells (defCells (oneD m) (.slice (some ⟨g, 0, none⟩) 1 cap)).toArray 44)) = w5 at eC o5 hc0 hc1 hFN s5 E3 z2 z3 z4 ⊢
  have l5 : w3.heap.size < w5.heap.size := (Array.getElem?_eq_some_iff.1 o5).1
  unfold n_phrasebooklaw05_SchemaRefers_c27
  have hfv1 : fv'.oneCell' = true := SliceOf.oneCell hFN.plain
  simp (disch := first | assumption | (simp only [ONE]; done) | rfl | (simp only [SZ]; done) | omega | (simp only [SZ] at *; omega)) only [↓PR, QR, Int.reduceBEq, Int.reduceBNe, Int.reduceLT, Int.reduceLE, Int.reduceGT, Int.reduceGE, Int.reduceNeg, (cells_of_heap o5).1, ↓idxM1, hc0, hc1]
  have eD : Ext w5 (w5.alloc (Obj.cells #[.string m.name, fv'] 50)) := ee
  have o6 := heap_new w5 #[.string m.name, fv'] 50
  generalize hp6 : w5.heap.size = p6 at o6 ⊢
  generalize (w5.alloc (Obj.cells #[.string m.name, fv'] 50)) = w6 at eD o6 ⊢
  refine callK_ret (Refers_ret w6 _ m ⟨fv', rfl, (hFN.plain).ext eD⟩ hb) ?_
  rintro _ w7 ⟨pb, sv, rfl, hSt, hpb, e7⟩
  have s6 := eD.size
  have s7 := e7.size
  unfold n_phrasebooklaw05_SchemaRefers_c26
  rw [op_eqNilF Try.underlying59]
  simp (disch := first | assumption | (simp only [ONE]; done) | rfl | (simp only [SZ]; done) | omega | (simp only [SZ] at *; omega)) only [↓PR, QR, Int.reduceBEq, Int.reduceBNe, Int.reduceLT, Int.reduceLE, Int.reduceGT, Int.reduceGE, Int.reduceNeg]
  have l6 : p6 < w6.heap.size := (Array.getElem?_eq_some_iff.1 o6).1
  have hcs : ∀ f ∈ m.fields, f.cases.length ≤ 1048576 := fun f hf => by have := (hfit.2.2 m (by simp [oneD]) f hf).1; omega
  have hnf : m.fields.length ≤ 1048576 := by
    have h1 := le_sumF (l := (oneD m).msgs) (m := m) (by simp [oneD])
    have h2 := hfit.2.1
    omega
  refine lrf_loop (lo := w2.heap.size) (hi := w3.heap.size) (n := m.fields.length) (nm := .string m.name) (((hFN.shape hcs).ext eD).ext e7) hnf (by omega) (e7.obj o6) (by omega) (fun w8 hs8 => ?_)
  have E4 := E3.trans (eD.trans e7)
  have sz0 := e0.size
  have lp2 : p2 < A0.heap.size := (Array.getElem?_eq_some_iff.1 o2).1
  have lp3 : p3 < A0.heap.size := (Array.getElem?_eq_some_iff.1 o3).1
  have lp4 : p4 < A0.heap.size := (Array.getElem?_eq_some_iff.1 o4).1
  exact lrf_main hF hb many (hs8.to_ext E4 (by omega)) (hs8.obj ((eD.trans e7).obj z2) (.inl (by omega))) (hs8.obj ((eD.trans e7).obj z3) (.inl (by omega))) (hs8.obj ((eD.trans e7).obj z4) (.inl (by omega))) (hs8.strs hSt (by omega)) (by omega) (by omega) (by omega) (by have := hs8.size; omega)
end Go.Proofs.Ytiajhbbmgglmlaa
namespace Go.Proofs.Ytiajhbbmgglmlaa
open Sw
open Go.ChangeShapes Go.WideShapes Go.RowKit Go.ChangeAt Go.Deep
theorem refers_own : ownKnob Try.prog.godebug = none := by kernel_rfl
theorem refers_laidOut : laidOutB Try.prog = true := by kernel_rfl
set_option maxRecDepth 100000 in
theorem refers_lifted (os : Os) (started : os.Started) (H : Type) (enc : TypeId × Value → H) :
    ReturnsInHanded {} Try.checked os 5 .any (Rows.schemaRefersSpec.pre6 enc Try.prog Try.f5 Rows.schemaRefersRow.domain false) (Rows.schemaRefersSpec.post enc Try.prog Try.f5 false true false false) := by
  refine returnsInHanded_of_change_sized (C := Try.checked) refers_own started (by kernel_rfl) Try.func5
    (ChangeSpec.witness6 (enc := enc) (C := Try.checked) false ⟨#[], #[.agg #[.string ByteArray.empty, .slice none 0 0], .int .i64 0], []⟩ 8 (by kernel_rfl) (by kernel_rfl) (by kernel_rfl) (by kernel_rfl)) ?_
  intro W base args ds gs before hval hW _ hsz _
  have hW' := hW
  obtain ⟨p, q, hA0, hV, rfl, _, _⟩ := hW
  have hA : DataW.TrodAll enc Try.prog W 0 (fun _ => true) true Try.f5.params.toList args.toList ds p := hA0
  rw [Try.params5] at hA hval hsz
  obtain ⟨v0, vs0, d0, ds0, p0, q0, ha0, rfl, rfl, h0, r0⟩ := trodAll_cons hA
  obtain ⟨v1, vs1, d1, ds1, p1, q1, ha1, rfl, rfl, h1, r1⟩ := trodAll_cons r0
  obtain ⟨rfl, rfl, rfl⟩ := trodAll_nil r1
  subst ha1
  obtain rfl : args = #[v0, v1] := by cases args; simp_all
  obtain ⟨f0, hf0, hs0⟩ := msg_val (hval 0 _ v0 rfl rfl) h0 (reached_of (j := 0) hsz rfl rfl)
  obtain ⟨n1, rfl, _, _, hw1⟩ := open_int Try.underlying3 (hval 1 _ v1 rfl rfl) h1
  refine Calls.mono (SchemaRefers_ret W v0 f0 n1 hf0 hs0) fun e W' ⟨v, he, hv, hx⟩ => ?_
  subst he hv
  exact ⟨_, rfl, law_post refers_laidOut (by decide +kernel) rfl hW' hx rfl Try.underlying4 rfl rfl rfl⟩
theorem refers_holds : Rows.SchemaRefersSaid :=
  OpenClaim.holds_of_wide 5 Try.f5 rfl rfl rfl rfl rfl rfl rfl ⟨rfl, rfl, rfl, rfl, rfl⟩ rfl rfl rfl rfl rfl (by kernel_rfl) Try.func5 (by kernel_rfl)
    (of_decide_eq_true (by kernel_rfl)) (by unfold Func.isWrapper; first | (rw [if_pos (by decide +kernel)]; kernel_rfl) | (rw [if_neg (by decide +kernel)]; exact ⟨rfl, rfl⟩))
    (fun os started H enc _ => refers_lifted os started H enc)
end Go.Proofs.Ytiajhbbmgglmlaa
