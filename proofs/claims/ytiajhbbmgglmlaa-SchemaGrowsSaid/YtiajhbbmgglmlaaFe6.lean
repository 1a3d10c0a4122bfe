/-
  Lemmas for the claim.
-/
import Derived.Test.YtiajhbbmgglmlaaFe5
set_option linter.all false
namespace Go.Proofs.Ytiajhbbmgglmlaa
open Sw
open Go.RowKit (intOf Below)
set_option maxRecDepth 100000
def Sub {β : Type} (a b : List (ByteArray × β)) : Prop := ∀ s v, lastP a s = some v → lastP b s = some v
section
variable {β : Type}
theorem Sub.refl (a : List (ByteArray × β)) : Sub a a := fun _ _ h => h
theorem Sub.trans {a b c : List (ByteArray × β)} (h : Sub a b) (k : Sub b c) : Sub a c := fun s v x => k s v (h s v x)
theorem Sub.snoc {a : List (ByteArray × β)} {p : ByteArray × β} (h : lastP a p.1 = none) : Sub a (a ++ [p]) := fun s v x => by
  rw [lastP_snoc]
  by_cases e : p.1 = s
  · subst e; rw [h] at x; cases x
  · rw [if_neg e]; exact x
theorem Sub.is {a b : List (ByteArray × β)} (h : Sub a b) {s : ByteArray} (k : (lastP a s).isSome = true) : (lastP b s).isSome = true := by
  obtain ⟨v, hv⟩ := Option.isSome_iff_exists.1 k
  rw [h s v hv]; rfl
theorem Sub.eq {a b : List (ByteArray × β)} (h : Sub a b) {s : ByteArray} (k : (lastP a s).isSome = true) : lastP b s = lastP a s := by
  obtain ⟨v, hv⟩ := Option.isSome_iff_exists.1 k
  rw [h s v hv, hv]
theorem lastP_none {l : List (ByteArray × β)} {s : ByteArray} : lastP l s = none ↔ ∀ p ∈ l, p.1 ≠ s := by
  unfold lastP
  rw [Option.map_eq_none_iff, List.find?_eq_none]
  simp
end
theorem isI (deps : List (ByteArray × Int)) (s : ByteArray) : (lastOf (vI deps) s).isSome = (lastP deps s).isSome := by rw [lastOf_vI]; simp
theorem orC_iff {a b : Int} : orC a b = 0 ↔ a = 0 ∧ b = 0 := by
  unfold orC
  split
  · rename_i h; simp [h]
  · rename_i h; simp [h]
theorem needC_iff {b : Bool} {c : Int} (hc : c ≠ 0) : needC b c = 0 ↔ b = true := by
  unfold needC
  cases b <;> simp [hc]
theorem mem_dedupA {s : ByteArray} : ∀ {l seen : List ByteArray}, s ∈ dedupA seen l → s ∈ l
  | [], _, h => by cases h
  | x :: l, seen, h => by
    unfold dedupA at h
    split at h
    · exact List.mem_cons_of_mem _ (mem_dedupA h)
    · rcases List.mem_cons.1 h with rfl | h
      · exact List.mem_cons_self
      · exact List.mem_cons_of_mem _ (mem_dedupA h)
section
variable {deps deps' : List (ByteArray × Int)} {strs strs' : List (ByteArray × Bool)}
theorem casesL_mono (hd : Sub deps deps') (hi : Int) : ∀ (l : List CaseD) (lo : Int), casesL hi (vI deps) lo l = 0 → casesL hi (vI deps') lo l = 0 ∧ ∀ c ∈ l, (lastP deps c.of).isSome = true
  | [], _, _ => ⟨rfl, fun _ h => by cases h⟩
  | x :: l, lo, h => by
    simp only [casesL, orC_iff, needC_iff (show (8 : Int) ≠ 0 by decide), isI] at h ⊢
    obtain ⟨h1, h2, h3⟩ := h
    obtain ⟨i1, i2⟩ := casesL_mono hd hi l _ h3
    refine ⟨⟨h1, hd.is h2, i1⟩, fun c hc => ?_⟩
    rcases List.mem_cons.1 hc with rfl | hc
    · exact h2
    · exact i2 c hc
theorem strB_some {s : ByteArray} (h : strB (vB strs) s = true) : lastP strs s = some true := by
  rw [strB_vB] at h
  cases hl : lastP strs s with
  | none => rw [hl] at h; cases h
  | some b => rw [hl] at h; simp at h; rw [h]
theorem examine_mono (hd : Sub deps deps') (hs : Sub strs strs') {bef : List FieldD} {f : FieldD} (h : examineC bef (vI deps) (vB strs) f = 0) : examineC bef (vI deps') (vB strs') f = 0 := by
  unfold examineC at h ⊢
  simp only [orC_iff] at h ⊢
  refine ⟨h.1, h.2.1, h.2.2.1, h.2.2.2.1, ?_⟩
  obtain ⟨_, _, _, _, h⟩ := h
  unfold checkC at h ⊢
  by_cases k1 : f.kind = 1
  · rw [if_pos k1] at h ⊢; exact h
  rw [if_neg k1] at h ⊢
  by_cases k2 : f.kind = 2
  · rw [if_pos k2] at h ⊢; exact h
  rw [if_neg k2] at h ⊢
  by_cases k3 : f.kind = 3
  · rw [if_pos k3] at h ⊢; exact h
  rw [if_neg k3] at h ⊢
  by_cases k4 : f.kind = 4
  · rw [if_pos k4] at h ⊢; exact h
  rw [if_neg k4] at h ⊢
  by_cases k5 : f.kind = 5
  · rw [if_pos k5] at h ⊢; exact h
  rw [if_neg k5] at h ⊢
  by_cases k6 : f.kind = 6
  · rw [if_pos k6] at h ⊢; exact h
  rw [if_neg k6] at h ⊢
  by_cases k7 : f.kind = 7
  · rw [if_pos k7] at h ⊢
    simp only [orC_iff, needC_iff (show (8 : Int) ≠ 0 by decide), isI] at h ⊢
    exact ⟨hd.is h.1, h.2⟩
  rw [if_neg k7] at h ⊢
  by_cases k8 : f.kind = 8
  · rw [if_pos k8] at h ⊢
    simp only [needC_iff (show (8 : Int) ≠ 0 by decide), isI] at h ⊢
    exact hd.is h
  rw [if_neg k8] at h ⊢
  by_cases k9 : f.kind = 9
  · rw [if_pos k9] at h ⊢
    unfold casesC at h ⊢
    simp only [orC_iff] at h ⊢
    exact ⟨h.1, h.2.1, (casesL_mono hd _ _ _ h.2.2).1⟩
  rw [if_neg k9] at h ⊢
  by_cases k10 : f.kind = 10
  · rw [if_pos k10] at h ⊢; exact h
  rw [if_neg k10] at h ⊢
  by_cases k11 : f.kind = 11
  · rw [if_pos k11] at h ⊢; exact h
  rw [if_neg k11] at h ⊢
  by_cases k12 : f.kind = 12
  · rw [if_pos k12] at h ⊢
    simp only [orC_iff, needC_iff (show (8 : Int) ≠ 0 by decide)] at h ⊢
    refine ⟨h.1, ?_, h.2.2⟩
    rw [strB_vB, hs _ _ (strB_some h.2.1)]; rfl
  rw [if_neg k12]
theorem examine_refs (hds : ∀ s, (lastP strs s).isSome = true → (lastP deps s).isSome = true) {bef : List FieldD} {f : FieldD} (h : examineC bef (vI deps) (vB strs) f = 0) : ∀ s ∈ refsF f, (lastP deps s).isSome = true := by
  intro s hs
  unfold examineC at h
  simp only [orC_iff] at h
  obtain ⟨_, _, _, _, h⟩ := h
  unfold checkC at h
  unfold refsF at hs
  split at hs
  · rename_i hk
    simp only [List.mem_singleton] at hs
    subst hs
    rcases hk with hk | hk | hk
    · rw [if_neg (by omega), if_neg (by omega), if_neg (by omega), if_neg (by omega), if_neg (by omega), if_neg (by omega), if_pos hk] at h
      simp only [orC_iff, needC_iff (show (8 : Int) ≠ 0 by decide), isI] at h
      exact h.1
    · rw [if_neg (by omega), if_neg (by omega), if_neg (by omega), if_neg (by omega), if_neg (by omega), if_neg (by omega), if_neg (by omega), if_pos hk] at h
      simp only [needC_iff (show (8 : Int) ≠ 0 by decide), isI] at h
      exact h
    · rw [if_neg (by omega), if_neg (by omega), if_neg (by omega), if_neg (by omega), if_neg (by omega), if_neg (by omega), if_neg (by omega), if_neg (by omega), if_neg (by omega), if_neg (by omega), if_neg (by omega), if_pos hk] at h
      simp only [orC_iff, needC_iff (show (8 : Int) ≠ 0 by decide)] at h
      exact hds _ (by rw [strB_some h.2.1]; rfl)
  · split at hs
    · rename_i hk
      obtain ⟨c, hc, rfl⟩ := List.mem_map.1 hs
      rw [if_neg (by omega), if_neg (by omega), if_neg (by omega), if_neg (by omega), if_neg (by omega), if_neg (by omega), if_neg (by omega), if_neg (by omega), if_pos hk] at h
      unfold casesC at h
      simp only [orC_iff] at h
      exact (casesL_mono (Sub.refl deps) _ _ _ h.2.2).2 c hc
    · cases hs
theorem fields_mono (hd : Sub deps deps') (hs : Sub strs strs') (hds : ∀ s, (lastP strs s).isSome = true → (lastP deps s).isSome = true) : ∀ (l bef : List FieldD), (fieldsP deps strs bef l).2 = 0 → fieldsP deps' strs' bef l = (-1, 0) ∧ ∀ s ∈ allRefs l, (lastP deps s).isSome = true
  | [], bef, h => ⟨rfl, fun s hs => by cases hs⟩
  | f :: l, bef, h => by
    unfold fieldsP at h ⊢
    by_cases h0 : examineC bef (vI deps) (vB strs) f = 0
    · rw [if_pos h0] at h
      rw [if_pos (examine_mono hd hs h0)]
      obtain ⟨i1, i2⟩ := fields_mono hd hs hds l _ h
      refine ⟨i1, fun s hs => ?_⟩
      rcases List.mem_append.1 (show s ∈ refsF f ++ allRefs l from hs) with hs | hs
      · exact examine_refs hds h0 s hs
      · exact i2 s hs
    · rw [if_neg h0] at h; exact absurd h h0
theorem depth_mono (hd : Sub deps deps') {m : MsgD} (h : ∀ s ∈ allRefs m.fields, (lastP deps s).isSome = true) : depthM deps' m = depthM deps m := by
  unfold depthM
  have : ∀ (l : List ByteArray), (∀ s ∈ l, (lastP deps s).isSome = true) → ∀ d, l.foldl (fun d s => maxI d ((lastP deps' s).getD 0)) d = l.foldl (fun d s => maxI d ((lastP deps s).getD 0)) d := by
    intro l
    induction l with
    | nil => intro _ d; rfl
    | cons x l ih =>
      intro hl d
      simp only [List.foldl_cons]
      rw [hd.eq (hl x List.mem_cons_self)]
      exact ih (fun s hs => hl s (List.mem_cons_of_mem _ hs)) _
  exact this _ (fun s hs => h s (mem_dedupA hs)) 0
theorem next_parts {m : MsgD} (h : (nextP deps strs m).2 = 0) : nameB m.name = true ∧ lastP deps m.name = none ∧ (1 ≤ m.fields.length ∧ m.fields.length ≤ 40) ∧ (fieldsP deps strs [] m.fields).2 = 0 ∧ depthM deps m < 16 := by
  have hl := nextP_low h
  unfold nextP at h
  by_cases h1 : nameB m.name = true
  · rw [if_pos h1] at h
    by_cases h2 : (lastP deps m.name).isSome = true
    · rw [if_pos h2] at h; exact absurd h (by decide)
    · rw [if_neg h2] at h
      by_cases h3 : 1 ≤ m.fields.length ∧ m.fields.length ≤ 40
      · rw [if_pos h3] at h
        refine ⟨h1, by simpa using h2, h3, ?_, hl⟩
        unfold tailP at h
        split at h
        · assumption
        · contradiction
      · rw [if_neg h3] at h; exact absurd h (by decide)
  · rw [if_neg h1] at h; exact absurd h (by decide)
theorem next_new (hd : Sub deps deps') (hs : Sub strs strs') (hds : ∀ s, (lastP strs s).isSome = true → (lastP deps s).isSome = true) {m : MsgD} (h : (nextP deps strs m).2 = 0) {name : ByteArray} (hn : nameB name = true) (hnew : lastP deps' name = none) : (nextP deps' strs' ⟨name, m.fields⟩).2 = 0 := by
  obtain ⟨_, _, h3, h4, h5⟩ := next_parts h
  obtain ⟨i1, i2⟩ := fields_mono hd hs hds _ _ h4
  have h6 : depthM deps' ⟨name, m.fields⟩ = depthM deps m := depth_mono (m := ⟨name, m.fields⟩) hd i2
  unfold nextP
  rw [if_pos hn, hnew, if_neg (by simp), if_pos h3, i1]
  unfold tailP
  rw [if_pos rfl, h6, if_pos h5]
end
section
variable {deps : List (ByteArray × Int)} {strs : List (ByteArray × Bool)}
theorem msgs_cons0 {m : MsgD} {l : List MsgD} {i : Nat} (h : (nextP deps strs m).2 = 0) : msgsP deps strs i (m :: l) = msgsP (stepD deps m) (stepS strs m) (i + 1) l := if_pos h
theorem msgs_cons1 {m : MsgD} {l : List MsgD} {i : Nat} (h : ¬ (nextP deps strs m).2 = 0) : msgsP deps strs i (m :: l) = ((i : Int), nextP deps strs m) := if_neg h
theorem msgs_append (r : List MsgD) : ∀ (l : List MsgD) (deps : List (ByteArray × Int)) (strs : List (ByteArray × Bool)) (i : Nat), ((msgsP deps strs i l).2.2 = 0 → msgsP deps strs i (l ++ r) = msgsP (l.foldl stepD deps) (l.foldl stepS strs) (i + l.length) r) ∧ ((msgsP deps strs i l).2.2 ≠ 0 → msgsP deps strs i (l ++ r) = msgsP deps strs i l)
  | [], deps, strs, i => ⟨fun _ => rfl, fun h => absurd rfl h⟩
  | m :: l, deps, strs, i => by
    have ih := msgs_append r l (stepD deps m) (stepS strs m) (i + 1)
    by_cases h : (nextP deps strs m).2 = 0
    · rw [msgs_cons0 h, List.cons_append, msgs_cons0 h]
      simp only [List.foldl_cons, List.length_cons]
      rw [show i + (l.length + 1) = i + 1 + l.length by omega]
      exact ih
    · rw [msgs_cons1 h, List.cons_append, msgs_cons1 h]
      exact ⟨fun k => absurd k h, fun _ => rfl⟩
theorem msgs_at {l : List MsgD} {deps : List (ByteArray × Int)} {strs : List (ByteArray × Bool)} {i : Nat} (h : (msgsP deps strs i l).2.2 = 0) {k : Nat} {m : MsgD} (hk : l[k]? = some m) : (nextP ((l.take k).foldl stepD deps) ((l.take k).foldl stepS strs) m).2 = 0 ∧ (msgsP deps strs i (l.take k)).2.2 = 0 := by
  have hl : l = l.take k ++ m :: l.drop (k + 1) := by
    have := (List.take_append_drop k l).symm
    rw [List.drop_eq_getElem_cons (List.getElem?_eq_some_iff.1 hk).1] at this
    rw [(List.getElem?_eq_some_iff.1 hk).2] at this
    exact this
  rw [hl] at h
  by_cases h0 : (msgsP deps strs i (l.take k)).2.2 = 0
  · rw [(msgs_append _ _ _ _ _).1 h0] at h
    refine ⟨?_, h0⟩
    by_cases h1 : (nextP ((l.take k).foldl stepD deps) ((l.take k).foldl stepS strs) m).2 = 0
    · exact h1
    · rw [msgs_cons1 h1] at h; exact absurd h h1
  · rw [(msgs_append _ _ _ _ _).2 h0] at h; exact absurd h h0
theorem deps_snoc (l : List MsgD) (m : MsgD) : depsOf (l ++ [m]) = depsOf l ++ [(m.name, depthM (depsOf l) m + 1)] := by unfold depsOf; rw [List.foldl_append]; rfl
theorem strs_snoc (l : List MsgD) (m : MsgD) : strsOf (l ++ [m]) = strsOf l ++ [(m.name, strictM (strsOf l) m)] := by unfold strsOf; rw [List.foldl_append]; rfl
theorem fold_names : ∀ (l : List MsgD) (a : List (ByteArray × Int)) (b : List (ByteArray × Bool)), (l.foldl stepD a).map (·.1) = a.map (·.1) ++ l.map (·.name) ∧ (l.foldl stepS b).map (·.1) = b.map (·.1) ++ l.map (·.name)
  | [], a, b => by simp
  | m :: l, a, b => by
    have ih := fold_names l (stepD a m) (stepS b m)
    simp only [List.foldl_cons, List.map_cons]
    rw [ih.1, ih.2]
    simp [stepD, stepS]
theorem isD {l : List MsgD} {s : ByteArray} : (lastP (depsOf l) s).isSome = true ↔ ∃ m ∈ l, m.name = s := by
  have h1 := (fold_names l [] []).1
  rw [← Option.ne_none_iff_isSome, ne_eq, lastP_none]
  constructor
  · intro h
    apply Classical.byContradiction
    intro hn
    apply h
    intro p hp he
    have : p.1 ∈ (depsOf l).map (·.1) := List.mem_map.2 ⟨p, hp, rfl⟩
    rw [show depsOf l = l.foldl stepD [] from rfl, h1] at this
    obtain ⟨m, hm, hme⟩ := List.mem_map.1 (show p.1 ∈ l.map (·.name) by simpa using this)
    exact hn ⟨m, hm, hme.trans he⟩
  · rintro ⟨m, hm, rfl⟩ h
    have : m.name ∈ (depsOf l).map (·.1) := by rw [show depsOf l = l.foldl stepD [] from rfl, h1]; simpa using ⟨m, hm, rfl⟩
    obtain ⟨p, hp, hpe⟩ := List.mem_map.1 this
    exact h p hp hpe
theorem isS {l : List MsgD} {s : ByteArray} : (lastP (strsOf l) s).isSome = true ↔ ∃ m ∈ l, m.name = s := by
  have h1 := (fold_names l [] []).2
  rw [← Option.ne_none_iff_isSome, ne_eq, lastP_none]
  constructor
  · intro h
    apply Classical.byContradiction
    intro hn
    apply h
    intro p hp he
    have : p.1 ∈ (strsOf l).map (·.1) := List.mem_map.2 ⟨p, hp, rfl⟩
    rw [show strsOf l = l.foldl stepS [] from rfl, h1] at this
    obtain ⟨m, hm, hme⟩ := List.mem_map.1 (show p.1 ∈ l.map (·.name) by simpa using this)
    exact hn ⟨m, hm, hme.trans he⟩
  · rintro ⟨m, hm, rfl⟩ h
    have : m.name ∈ (strsOf l).map (·.1) := by rw [show strsOf l = l.foldl stepS [] from rfl, h1]; simpa using ⟨m, hm, rfl⟩
    obtain ⟨p, hp, hpe⟩ := List.mem_map.1 this
    exact h p hp hpe
def Fine (l : List MsgD) : Prop := (msgsP [] [] 0 l).2.2 = 0
theorem Fine.next {l : List MsgD} (h : Fine l) {k : Nat} {m : MsgD} (hk : l[k]? = some m) : (nextP (depsOf (l.take k)) (strsOf (l.take k)) m).2 = 0 := (msgs_at h hk).1
theorem Fine.take {l : List MsgD} (h : Fine l) (k : Nat) : Fine (l.take k) := by
  by_cases hk : k < l.length
  · obtain ⟨m, hm⟩ := getElem?_lt hk
    exact (msgs_at h hm).2
  · rw [List.take_of_length_le (by omega)]; exact h
theorem Fine.sub {l : List MsgD} (h : Fine l) : ∀ (n k : Nat), Sub (depsOf (l.take k)) (depsOf (l.take (k + n))) ∧ Sub (strsOf (l.take k)) (strsOf (l.take (k + n)))
  | 0, k => ⟨Sub.refl _, Sub.refl _⟩
  | n + 1, k => by
    have ih := h.sub n k
    rw [← Nat.add_assoc]
    by_cases hk : k + n < l.length
    · obtain ⟨m, hm⟩ := getElem?_lt hk
      have h2 := (next_parts (h.next hm)).2.1
      rw [take_snoc hm, deps_snoc, strs_snoc]
      refine ⟨ih.1.trans (Sub.snoc h2), ih.2.trans (Sub.snoc ?_)⟩
      show lastP (strsOf (l.take (k + n))) m.name = none
      rw [← Option.not_isSome_iff_eq_none, isS, ← isD, Option.not_isSome_iff_eq_none]
      exact h2
    · rw [List.take_of_length_le (show l.length ≤ k + n + 1 by omega)]
      rw [List.take_of_length_le (show l.length ≤ k + n by omega)] at ih
      exact ih
theorem Fine.suball {l : List MsgD} (h : Fine l) (k : Nat) : Sub (depsOf (l.take k)) (depsOf l) ∧ Sub (strsOf (l.take k)) (strsOf l) := by
  have := h.sub l.length k
  rw [List.take_of_length_le (show l.length ≤ k + l.length by omega)] at this
  exact this
theorem Fine.depth {l : List MsgD} (h : Fine l) {k : Nat} {m : MsgD} (hk : l[k]? = some m) : lastP (depsOf l) m.name = some (depthM (depsOf (l.take k)) m + 1) := by
  refine (h.suball (k + 1)).1 _ _ ?_
  rw [take_snoc hk, deps_snoc, lastP_snoc, if_pos rfl]
theorem Fine.low {l : List MsgD} (h : Fine l) : ∀ k, Low (depsOf (l.take k))
  | 0 => fun p hp => by simp [depsOf] at hp
  | k + 1 => by
    by_cases hk : k < l.length
    · obtain ⟨m, hm⟩ := getElem?_lt hk
      rw [take_snoc hm, show depsOf (l.take k ++ [m]) = stepD (depsOf (l.take k)) m from deps_snoc _ _]
      exact (h.low k).step (h.next hm)
    · rw [List.take_of_length_le (show l.length ≤ k + 1 by omega)]
      have := h.low k
      rw [List.take_of_length_le (show l.length ≤ k by omega)] at this
      exact this
theorem le_foldl (g : ByteArray → Int) : ∀ (l : List ByteArray) (d : Int), d ≤ l.foldl (fun d s => maxI d (g s)) d ∧ ∀ s ∈ l, g s ≤ l.foldl (fun d s => maxI d (g s)) d
  | [], d => ⟨by simp, fun _ h => by cases h⟩
  | x :: l, d => by
    have ih := le_foldl g l (maxI d (g x))
    simp only [List.foldl_cons]
    have h1 : d ≤ maxI d (g x) := le_maxI _ _
    have h2 : g x ≤ maxI d (g x) := by unfold maxI; split <;> omega
    refine ⟨by omega, fun s hs => ?_⟩
    rcases List.mem_cons.1 hs with rfl | hs
    · omega
    · exact ih.2 s hs
theorem mem_refsM {m : MsgD} {s : ByteArray} (h : s ∈ refsM m) : s ∈ allRefs m.fields := mem_dedupA h
theorem ds_of (l : List MsgD) (s : ByteArray) (h : (lastP (strsOf l) s).isSome = true) : (lastP (depsOf l) s).isSome = true := isD.2 (isS.1 h)
theorem Fine.refs {l : List MsgD} (h : Fine l) {k : Nat} {m : MsgD} (hk : l[k]? = some m) {s : ByteArray} (hs : s ∈ refsM m) :
    ∃ i m', i < k ∧ l[i]? = some m' ∧ m'.name = s ∧ (∀ j m'', j < i → l[j]? = some m'' → m''.name ≠ s) ∧ ∃ v, lastP (depsOf l) s = some v ∧ v ≤ depthM (depsOf (l.take k)) m := by
  obtain ⟨_, _, _, h4, _⟩ := next_parts (h.next hk)
  have h5 := (fields_mono (Sub.refl _) (Sub.refl _) (ds_of _) _ _ h4).2 s (mem_refsM hs)
  obtain ⟨m', hm', hn⟩ := isD.1 h5
  obtain ⟨i, hi⟩ := List.getElem?_of_mem hm'
  have hik : i < k ∧ l[i]? = some m' := by
    rw [List.getElem?_take] at hi
    split at hi
    · exact ⟨by assumption, hi⟩
    · cases hi
  obtain ⟨v, hv⟩ := Option.isSome_iff_exists.1 h5
  refine ⟨i, m', hik.1, hik.2, hn, fun j m'' hj hj2 hne => ?_, v, (h.suball k).1 _ _ hv, ?_⟩
  · have h6 := (next_parts (h.next hik.2)).2.1
    rw [← Option.not_isSome_iff_eq_none, isD] at h6
    exact h6 ⟨m'', List.mem_of_getElem? (i := j) (by rw [List.getElem?_take, if_pos hj]; exact hj2), hne.trans hn.symm⟩
  · have := (le_foldl (fun s => (lastP (depsOf (l.take k)) s).getD 0) (refsM m) 0).2 s hs
    rw [hv] at this
    exact this
end
section
variable {d : DefD}
theorem check_fine (h : (checkP d).2.2 = 0) : nameB d.name = true ∧ (1 ≤ d.msgs.length ∧ d.msgs.length ≤ 60) ∧ Fine d.msgs ∧ (lastP (depsOf d.msgs) d.start).isSome = true := by
  unfold checkP at h
  by_cases h1 : nameB d.name = true
  · rw [if_pos h1] at h
    by_cases h2 : 1 ≤ d.msgs.length ∧ d.msgs.length ≤ 60
    · rw [if_pos h2] at h
      unfold endP at h
      by_cases h3 : (msgsP [] [] 0 d.msgs).2.2 = 0
      · rw [if_pos h3] at h
        by_cases h4 : (lastP (depsOf d.msgs) d.start).isSome = true
        · exact ⟨h1, h2, h3, h4⟩
        · rw [if_neg h4] at h; exact absurd h (by decide)
      · rw [if_neg h3] at h; exact absurd h h3
    · rw [if_neg h2] at h; exact absurd h (by decide)
  · rw [if_neg h1] at h; exact absurd h (by decide)
theorem fine_check (h1 : nameB d.name = true) (h2 : 1 ≤ d.msgs.length ∧ d.msgs.length ≤ 60) (h3 : Fine d.msgs) (h4 : (lastP (depsOf d.msgs) d.start).isSome = true) : (checkP d).2.2 = 0 := by
  unfold checkP
  rw [if_pos h1, if_pos h2]
  unfold endP
  rw [if_pos (show (msgsP [] [] 0 d.msgs).2.2 = 0 from h3), if_pos h4]
theorem grow_flaw (hn : d.msgs.length ≤ 59) (r : List MsgD) (hr : r.length = 1) (h : (checkP d).2.2 ≠ 0) : (checkP d).1 < 0 ∨ checkP { d with msgs := d.msgs ++ r } = checkP d := by
  unfold checkP at h ⊢
  by_cases h1 : nameB d.name = true
  · rw [if_pos h1] at h ⊢
    rw [if_pos h1]
    by_cases h2 : 1 ≤ d.msgs.length ∧ d.msgs.length ≤ 60
    · rw [if_pos h2] at h ⊢
      rw [if_pos (show 1 ≤ (d.msgs ++ r).length ∧ (d.msgs ++ r).length ≤ 60 by rw [List.length_append]; omega)]
      by_cases h3 : (msgsP [] [] 0 d.msgs).2.2 = 0
      · left
        unfold endP at h ⊢
        rw [if_pos h3] at h ⊢
        by_cases h4 : (lastP (depsOf d.msgs) d.start).isSome = true
        · rw [if_pos h4] at h; exact absurd rfl h
        · rw [if_neg h4]; decide
      · right
        unfold endP
        rw [show ({ d with msgs := d.msgs ++ r } : DefD).msgs = d.msgs ++ r from rfl, (msgs_append _ _ _ _ _).2 h3, if_neg h3, if_neg h3]
    · left; rw [if_neg h2]; decide
  · left; rw [if_neg h1]; decide
theorem grow_more (h : (checkP d).2.2 = 0) (hn : d.msgs.length ≤ 59) {k : Nat} {m : MsgD} (hk : d.msgs[k]? = some m) {name : ByteArray} (hnm : nameB name = true) (hnew : ∀ m ∈ d.msgs, m.name ≠ name) : (checkP { d with msgs := d.msgs ++ [⟨name, m.fields⟩] }).2.2 = 0 := by
  obtain ⟨h1, h2, h3, h4⟩ := check_fine h
  refine fine_check h1 (by simp; omega) ?_ ?_
  · show (msgsP [] [] 0 (d.msgs ++ [⟨name, m.fields⟩])).2.2 = 0
    rw [(msgs_append _ _ _ _ _).1 h3]
    have h5 := next_new (h3.suball k).1 (h3.suball k).2 (ds_of _) (h3.next hk) hnm (by rw [← Option.not_isSome_iff_eq_none, isD]; rintro ⟨m', a, b⟩; exact hnew m' a b)
    exact congrArg (·.2.2) (msgs_cons0 h5)
  · show (lastP (depsOf (d.msgs ++ [⟨name, m.fields⟩])) d.start).isSome = true
    obtain ⟨m', a, b⟩ := isD.1 h4
    exact isD.2 ⟨m', List.mem_append_left _ a, b⟩
theorem grow_less (h : (checkP d).2.2 = 0) {m : MsgD} (hk : d.msgs[d.msgs.length - 1]? = some m) (hs : m.name ≠ d.start) : (checkP { d with msgs := d.msgs.take (d.msgs.length - 1) }).2.2 = 0 := by
  obtain ⟨h1, h2, h3, h4⟩ := check_fine h
  obtain ⟨m', a, b⟩ := isD.1 h4
  obtain ⟨i, hi⟩ := List.getElem?_of_mem a
  have hlt := (List.getElem?_eq_some_iff.1 hi).1
  have hne : i ≠ d.msgs.length - 1 := by
    rintro rfl
    rw [hk] at hi; injection hi with hi; subst hi; exact hs b
  have hm : m' ∈ d.msgs.take (d.msgs.length - 1) := List.mem_of_getElem? (i := i) (by rw [List.getElem?_take, if_pos (by omega)]; exact hi)
  refine fine_check h1 ?_ (h3.take _) (isD.2 ⟨m', hm, b⟩)
  show 1 ≤ (d.msgs.take (d.msgs.length - 1)).length ∧ (d.msgs.take (d.msgs.length - 1)).length ≤ 60
  rw [List.length_take]
  omega
theorem depth_at (h : (checkP d).2.2 = 0) {k : Nat} {m : MsgD} (hk : d.msgs[k]? = some m) : depthP d k = (depthM (depsOf (d.msgs.take k)) m + 1, 0) := by
  obtain ⟨h1, h2, h3, h4⟩ := check_fine h
  have hlt := (List.getElem?_eq_some_iff.1 hk).1
  unfold depthP
  rw [if_neg (by omega), if_neg (by omega)]
  have : nameAt d (k : Int) = m.name := by unfold nameAt; rw [Int.toNat_natCast, hk]
  rw [this, h3.depth hk]
  rfl
theorem grow_depth (h : (checkP d).2.2 = 0) {k : Nat} {m : MsgD} (hk : d.msgs[k]? = some m) : ∃ p, depthP d k = (p, 0) ∧ 1 ≤ p ∧ p ≤ 16 ∧ ∀ s ∈ refsM m, ∃ i : Nat, i < k ∧ idx0 (fun m => decide (m.name = s)) d.msgs = i ∧ d.msgs.any (fun m => decide (m.name = s)) = true ∧ ∃ q, depthP d i = (q, 0) ∧ q < p := by
  obtain ⟨h1, h2, h3, h4⟩ := check_fine h
  have hl := h3.low k
  have h5 := (next_parts (h3.next hk)).2.2.2.2
  have h6 := (foldl_maxI (fun s => (lastP (depsOf (d.msgs.take k)) s).getD 0) (refsM m) 0 (by decide) (fun s _ => hl.get s) (by decide)).1
  have h7 : 0 ≤ depthM (depsOf (d.msgs.take k)) m := h6
  refine ⟨_, depth_at h hk, by omega, by omega, fun s hs => ?_⟩
  obtain ⟨i, m', hik, hi, hn, hb, v, hv, hle⟩ := h3.refs hk hs
  have hx : idx (fun m : MsgD => decide (m.name = s)) d.msgs = i := idx_here hi (by simpa using hn) (fun j y hj hy => by simpa using hb j y hj hy)
  refine ⟨i, hik, by unfold idx0; rw [hx, if_neg (by omega)], ?_, _, depth_at h hi, ?_⟩
  · rw [← idx_neg, hx]; simp
  · have := h3.depth hi
    rw [hn, hv] at this
    injection this with this
    omega
end
end Go.Proofs.Ytiajhbbmgglmlaa
namespace Go.Sw
open Go.RowKit (Below)
section
variable {P : Program} {QP : List PanicEntry → World → Prop} {w : World}
theorem op_appendL {α : Type} {t ty T n m : Nat} {z : Value} {agg : Bool} {enc : α → List Value} {v : Value} {l l' : List α} {base : Nat} {k : Value → World → Prop}
    (ht : P.underlying t = some (.slice T)) (hT : TyInfo P T agg n m z) (hz : z.cells.size = n) (h0 : 0 < n) (hn : ∀ x, (enc x).length = n) (h1 : ∀ x, x ∈ l' → ∀ u ∈ enc x, u.oneCell' = true)
    (hown : OwnE w base T n enc v l) {b o c : Nat} (hc : ∀ j x, l'[j]? = some x → ElemAt w b (o + j * n) (enc x)) (hbase : base ≤ w.heap.size) (hl' : 0 < l'.length) (hm : (l.length + l'.length) * m ≤ 140737488355328) (hb : l.length + l'.length ≤ 140737488355328)
    (hk : ∀ g cap w', OwnE w' base T n enc (.slice (some ⟨g, 0, none⟩) (l.length + l'.length) cap) (l ++ l') → w.grownBy w' v.ownBlock → (v.ownBlock = some g ∨ g = w.heap.size) → g < w'.heap.size → k (.slice (some ⟨g, 0, none⟩) (l.length + l'.length) cap) w') :
    opV P (Builtin.append_ #[t, t] ty #[v, .slice (some ⟨b, o, none⟩) l'.length c]) QP w k := by
  obtain ⟨⟨i, hi, hs, hby, hzz⟩, _⟩ := hT
  have hfl : (l'.flatMap enc).length = l'.length * n := by
    clear hm hb hc h1 hk hl'
    induction l' with
    | nil => simp
    | cons a l ih => rw [List.flatMap_cons, List.length_append, hn, ih, List.length_cons, Nat.add_mul]; omega
  have hcells : ∀ j u, (l'.flatMap enc)[j]? = some u → w.cell? ((⟨b, o, none⟩ : Addr).add j) = some u := by
    intro j u hu
    have hj : j < l'.length * n := by have := (List.getElem?_eq_some_iff.1 hu).1; rwa [hfl] at this
    have hq : j / n < l'.length := Nat.div_lt_of_lt_mul (by rw [Nat.mul_comm]; exact hj)
    obtain ⟨x, hx⟩ := getElem?_lt hq
    have hjn : j % n < (enc x).length := by rw [hn]; exact Nat.mod_lt _ h0
    have hdm : j / n * n + j % n = j := by rw [Nat.mul_comm]; exact Nat.div_add_mod j n
    have hg := flatMap_get hn l' (j / n) x (j % n) _ hx (List.getElem?_eq_getElem hjn)
    rw [hdm, hu] at hg
    injection hg with hg
    rw [Addr.add_lit]
    have := hc _ _ hx (j % n) _ (List.getElem?_eq_getElem hjn)
    rw [hg, ← this]
    congr 2; omega
  obtain ⟨g, cap, w', hr, ho, hg, hgl, hlt⟩ := run_append_lies (P := P) (w := w) t ty base T i z n m ht hi hzz hs hby hz h0 v l.length (l.flatMap enc) hown ⟨b, o, none⟩ l'.length c (l'.flatMap enc) hfl hcells
    (by intro u hu; obtain ⟨x, hx, hux⟩ := List.mem_flatMap.1 hu; exact h1 x hx u hux) hl' (by simp only [maxLen]; omega) hm hbase _ rfl
  rw [opV_ok hr]
  refine hk g cap w' ?_ hg hgl hlt
  unfold OwnE
  rw [List.flatMap_append, List.length_append]; exact ho
end
theorem OwnE.grown {α : Type} {w w' : World} {lo n : Nat} {T : TypeId} {enc : α → List Value} {v : Value} {l : List α} {row : Option Nat} (h : OwnE w lo T n enc v l) (hg : w.grownBy w' row) (hne : ∀ b, v.ownBlock = some b → row ≠ some b) : OwnE w' lo T n enc v l := by
  obtain ⟨h1, h2⟩ := h
  refine ⟨h1, ?_⟩
  rcases h2 with h2 | ⟨g, cap, cur, hv, hb, hc, h3⟩
  · exact .inl h2
  · refine .inr ⟨g, cap, cur, hv, hb, ?_, h3⟩
    rw [hg.block g (Array.getElem?_eq_some_iff.1 hc).1 (fun e => hne g (by rw [hv]; rfl) e.symm)]
    exact hc
end Go.Sw
namespace Go.Proofs.Ytiajhbbmgglmlaa
open Sw
open Go.RowKit (intOf Below)
set_option maxRecDepth 100000
structure Save (lo hi : Nat) (w w' : World) : Prop where
  os : w'.os = w.os
  tape : w'.tape = w.tape
  output : w'.output = w.output
  size : w.heap.size ≤ w'.heap.size
  block : ∀ k, k < w.heap.size → (k < lo ∨ hi ≤ k) → w'.heap[k]? = w.heap[k]?
section
variable {lo hi : Nat} {w w' w1 w2 : World}
theorem Save.refl (lo hi : Nat) (w : World) : Save lo hi w w := ⟨rfl, rfl, rfl, Nat.le_refl _, fun _ _ _ => rfl⟩
theorem Save.ext (h : Save lo hi w w1) (e : Ext w1 w2) : Save lo hi w w2 := ⟨e.os.trans h.os, e.tape.trans h.tape, e.output.trans h.output, Nat.le_trans h.size e.size, fun k hk hb => (e.block k (Nat.lt_of_lt_of_le hk h.size)).trans (h.block k hk hb)⟩
theorem Save.trans (h : Save lo hi w w1) (k : Save lo hi w1 w2) : Save lo hi w w2 := ⟨k.os.trans h.os, k.tape.trans h.tape, k.output.trans h.output, Nat.le_trans h.size k.size, fun i hi' hb => (k.block i (Nat.lt_of_lt_of_le hi' h.size) hb).trans (h.block i hi' hb)⟩
theorem Save.setCell (h : Save lo hi w w1) {b o : Nat} (h1 : lo ≤ b) (h2 : b < hi) (v : Value) : Save lo hi w (w1.setCell ⟨b, o, none⟩ v) :=
  ⟨h.os, h.tape, h.output, by rw [World.size_setCell]; exact h.size, fun k hk hb => (Only.setCell w1 b o v k (by omega)).trans (h.block k hk hb)⟩
theorem Save.obj (h : Save lo hi w w') {b : Nat} {o : Obj} (hb : w.heap[b]? = some o) (hr : b < lo ∨ hi ≤ b) : w'.heap[b]? = some o := (h.block b (Array.getElem?_eq_some_iff.1 hb).1 hr).trans hb
theorem Save.cell (h : Save lo hi w w') {b o : Nat} {v : Value} (hb : w.cell? ⟨b, o, none⟩ = some v) (hr : b < lo ∨ hi ≤ b) : w'.cell? ⟨b, o, none⟩ = some v := (World.cell?_of_block (h.block b (World.block_lt_of_cell? w _ hb) hr)).trans hb
theorem Save.strs (h : Save lo hi w w') {pb : Nat} {sv : Value} {l : List ByteArray} (hs : StrsAt w pb sv l) (hp : hi ≤ pb) : StrsAt w' pb sv l := by
  obtain ⟨h1, ⟨A, c, hv, h2, h3, h4⟩, h5⟩ := hs
  refine ⟨h.cell h1 (.inr hp), ⟨A, c, hv, h2, h3, fun hne => ?_⟩, h5⟩
  obtain ⟨b, o, hA, hel⟩ := h4 hne
  refine ⟨b, o, hA, fun k x hx => ?_⟩
  obtain ⟨cs, a1, a2, a3⟩ := hel k x hx
  have hb : pb < b := h5 ⟨b, o, none⟩ _ _ (by rw [hv, hA])
  exact ⟨cs, a1, fun j v hv => h.cell (a2 j v hv) (.inr (by omega)), a3⟩
def ShapeC (w : World) (lo hi : Nat) (cv : Value) : Prop := cv = .slice none 0 0 ∨ ∃ g len cap cur, cv = .slice (some ⟨g, 0, none⟩) len cap ∧ lo ≤ g ∧ g < hi ∧ w.heap[g]? = some (.cells cur TC (0, 0)) ∧ len * 3 ≤ cur.size ∧ len ≤ 1048576
def ShapeF (w : World) (lo hi : Nat) (fv : Value) (n : Nat) : Prop := (fv = .slice none 0 0 ∧ n = 0) ∨ ∃ g cap cur, fv = .slice (some ⟨g, 0, none⟩) n cap ∧ lo ≤ g ∧ g < hi ∧ w.heap[g]? = some (.cells cur TF (0, 0)) ∧ n * 15 ≤ cur.size ∧ ∀ k, k < n → ∃ cv, cur[k * 15 + 12]? = some cv ∧ ShapeC w lo hi cv
theorem ShapeC.set {cv : Value} (h : ShapeC w lo hi cv) (b o : Nat) (v : Value) : ShapeC (w.setCell ⟨b, o, none⟩ v) lo hi cv := by
  rcases h with h | ⟨g, len, cap, cur, h1, h2, h3, h4, h5, h6⟩
  · exact .inl h
  · by_cases e : g = b
    · subst e
      exact .inr ⟨g, len, cap, _, h1, h2, h3, heap_set h4 v, by simpa using h5, h6⟩
    · exact .inr ⟨g, len, cap, cur, h1, h2, h3, (Only.setCell w b o v g e).trans h4, h5, h6⟩
theorem ShapeC.ext {cv : Value} (h : ShapeC w lo hi cv) (e : Ext w w') : ShapeC w' lo hi cv := by
  rcases h with h | ⟨g, len, cap, cur, h1, h2, h3, h4, h5, h6⟩
  · exact .inl h
  · exact .inr ⟨g, len, cap, cur, h1, h2, h3, e.obj h4, h5, h6⟩
theorem ShapeF.ext {fv : Value} {n : Nat} (h : ShapeF w lo hi fv n) (e : Ext w w') : ShapeF w' lo hi fv n := by
  rcases h with h | ⟨g, cap, cur, h1, h2, h3, h4, h5, h6⟩
  · exact .inl h
  · exact .inr ⟨g, cap, cur, h1, h2, h3, e.obj h4, h5, fun k hk => let ⟨cv, a, b⟩ := h6 k hk; ⟨cv, a, b.ext e⟩⟩
theorem ShapeF.set {fv : Value} {n : Nat} (h : ShapeF w lo hi fv n) (b o : Nat) (v : Value) (ho : ∀ T cur, w.heap[b]? = some (.cells cur T (0, 0)) → T = TF → o % 15 ≠ 12) : ShapeF (w.setCell ⟨b, o, none⟩ v) lo hi fv n := by
  rcases h with h | ⟨g, cap, cur, h1, h2, h3, h4, h5, h6⟩
  · exact .inl h
  · by_cases e : g = b
    · subst e
      refine .inr ⟨g, cap, _, h1, h2, h3, heap_set h4 v, by simpa using h5, fun k hk => ?_⟩
      obtain ⟨cv, a, hc⟩ := h6 k hk
      have := ho _ _ h4 rfl
      refine ⟨cv, ?_, hc.set _ _ _⟩
      rw [Array.getElem?_setIfInBounds_ne (by omega)]
      exact a
    · exact .inr ⟨g, cap, cur, h1, h2, h3, (Only.setCell w b o v g e).trans h4, h5, fun k hk => let ⟨cv, a, c⟩ := h6 k hk; ⟨cv, a, c.set _ _ _⟩⟩
end
end Go.Proofs.Ytiajhbbmgglmlaa
namespace Go.Proofs.Ytiajhbbmgglmlaa
open Sw
open Go.RowKit (intOf Below)
set_option maxRecDepth 100000
def Away (w : World) (lo2 hi2 lo hi : Nat) (Ts : List TypeId) : Prop := hi2 ≤ lo ∨ hi ≤ lo2 ∨ hi = lo + 1 ∧ ∃ T', TypeAt w lo T' ∧ ∀ T ∈ Ts, T' ≠ T
section
variable {w w' : World} {lo hi lo2 hi2 : Nat}
theorem Away.sub {Ts Ts' : List TypeId} (h : Away w lo2 hi2 lo hi Ts) (hs : ∀ T ∈ Ts', T ∈ Ts) : Away w lo2 hi2 lo hi Ts' := by
  rcases h with h | h | ⟨h0, T', h1, h2⟩
  · exact .inl h
  · exact .inr (.inl h)
  · exact .inr (.inr ⟨h0, T', h1, fun T hT => h2 T (hs T hT)⟩)
theorem own_save {α : Type} {n : Nat} {T : TypeId} {Ts : List TypeId} {enc : α → List Value} {v : Value} {l : List α} (h : OwnR w lo2 hi2 T n enc v l) (hs : Save lo hi w w') (hd : Away w lo2 hi2 lo hi Ts) (hT : T ∈ Ts) : OwnR w' lo2 hi2 T n enc v l := by
  refine ⟨⟨h.1.1, ?_⟩, h.2⟩
  rcases h.1.2 with h2 | ⟨g, cap, cur, h1, h2, h3, h4⟩
  · exact .inl h2
  · have := h.2 g (by rw [h1]; rfl)
    refine .inr ⟨g, cap, cur, h1, h2, hs.obj h3 ?_, h4⟩
    rcases hd with hd | hd | ⟨hd, T', ⟨cur', fr, ht⟩, hne⟩
    · omega
    · omega
    · by_cases e : g = lo
      · subst e
        rw [h3] at ht; injection ht with ht; injection ht with _ ht _
        exact absurd ht.symm (hne T hT)
      · omega
theorem fields_save {v : Value} {l : List FieldD} (h : FieldsN w lo2 hi2 v l) (hs : Save lo hi w w') (hd : Away w lo2 hi2 lo hi [TT, TC, TF]) : FieldsN w' lo2 hi2 v l := by
  obtain ⟨css, h1, h2⟩ := h
  exact ⟨css, own_save h1 hs hd (by simp), h2.imp fun _ _ ⟨tv, cv, h1, h2, h3⟩ => ⟨tv, cv, h1, own_save h2 hs hd (by simp), own_save h3 hs hd (by simp)⟩⟩
theorem msgs_save {v : Value} {l : List MsgD} (h : MsgsN w lo2 hi2 v l) (hs : Save lo hi w w') (hd : Away w lo2 hi2 lo hi [TT, TC, TF, TM]) : MsgsN w' lo2 hi2 v l := by
  obtain ⟨css, h1, h2⟩ := h
  exact ⟨css, own_save h1 hs hd (by simp), h2.imp fun _ _ ⟨fv, h1, h2⟩ => ⟨fv, h1, fields_save h2 hs (hd.sub (by simp))⟩⟩
end
abbrev zeroD : Array Value := #[.string ByteArray.empty, .slice none 0 0, .string ByteArray.empty]
theorem set3 {W w : World} {p : Nat} {T : TypeId} {u0 u1 u2 : Value} (h : w.heap[p]? = some (.cells #[u0, u1, u2] T (0, 0))) (e : Ext W w) (g : W.heap.size ≤ p) (v0 v1 v2 : Value) : Ext W (((w.setCell ⟨p, 0, none⟩ v0).setCell ⟨p, 0 + 1, none⟩ v1).setCell ⟨p, 0 + 2, none⟩ v2) ∧ (((w.setCell ⟨p, 0, none⟩ v0).setCell ⟨p, 0 + 1, none⟩ v1).setCell ⟨p, 0 + 2, none⟩ v2).heap[p]? = some (.cells #[v0, v1, v2] T (0, 0)) ∧ Only p w (((w.setCell ⟨p, 0, none⟩ v0).setCell ⟨p, 0 + 1, none⟩ v1).setCell ⟨p, 0 + 2, none⟩ v2) ∧ w.heap.size = (((w.setCell ⟨p, 0, none⟩ v0).setCell ⟨p, 0 + 1, none⟩ v1).setCell ⟨p, 0 + 2, none⟩ v2).heap.size := by
  refine ⟨ee, ?_, fun g hg => ?_, by simp only [World.size_setCell]⟩
  · exact heap_set (o := 0 + 2) (heap_set (o := 0 + 1) (heap_set (o := 0) h v0) v1) v2
  · rw [Only.setCell _ _ _ _ g hg, Only.setCell _ _ _ _ g hg, Only.setCell _ _ _ _ g hg]
section
variable {QP : List PanicEntry → World → Prop} {W w : World} {a : DefD} {mva : Value}
theorem reg_cpy {k : Value → World → Prop} (hA : MsgsOf W mva a.msgs) (ht : tame a) (e : Ext W w) (h : ∀ mv lo hi w', w.heap.size ≤ lo → hi ≤ w'.heap.size → lo ≤ hi → Ext w w' → MsgsN w' lo hi mv a.msgs → k (.agg (defCells a mv).toArray) w') : callK Try.prog 23 #[.agg (defCells a mva).toArray] QP w (fun v w => EC W w ∧ k v w) := by
  refine callK_ret (Copy_ret w _ a ⟨_, rfl, hA.ext e⟩ ht) ?_
  rintro _ w' ⟨⟨mv, rfl, hN⟩, e'⟩
  exact ⟨e.trans e', h mv _ _ w' (Nat.le_refl _) (Nat.le_refl _) e'.size e' hN⟩
theorem reg_alc {k : Value → World → Prop} (e : Ext W w) (h : ∀ p w', w.heap.size ≤ p → p < w'.heap.size → Ext w w' → w'.heap[p]? = some (.cells zeroD 44 (0, 0)) → k (.pointer (some ⟨p, 0, none⟩)) w') : opV Try.prog (Instr.alloc 44 true (.tuple #[])) QP w (fun v w => EC W w ∧ k v w) := by
  simp (disch := first | assumption | (simp only [ONE]; done) | rfl | (simp only [SZ]; done) | omega | (simp only [SZ] at *; omega)) only [↓PR, QR, Int.reduceBEq, Int.reduceBNe, Int.reduceLT, Int.reduceLE, Int.reduceGT, Int.reduceGE, Int.reduceNeg]
  exact ⟨ee, h _ _ (Nat.le_refl _) (by simp only [World.size_alloc]; omega) ee (heap_new _ _ _)⟩
theorem reg_st {K : Value → Value → World → Prop} {p6 p7 lo hi lo2 hi2 : Nat} {mvc mvo : Value} (e : Ext W w) (h6 : w.heap[p6]? = some (.cells zeroD 44 (0, 0))) (h7 : w.heap[p7]? = some (.cells zeroD 44 (0, 0))) (g6 : W.heap.size ≤ p6) (g7 : W.heap.size ≤ p7) (hne : p6 ≠ p7)
    (hC : MsgsN w lo hi mvc a.msgs) (hO : MsgsN w lo2 hi2 mvo a.msgs) (i6 : p6 < lo ∨ hi ≤ p6) (i7 : p7 < lo ∨ hi ≤ p7) (j6 : p6 < lo2 ∨ hi2 ≤ p6) (j7 : p7 < lo2 ∨ hi2 ≤ p7) (hl : hi ≤ w.heap.size)
    (hK : ∀ w', Ext W w' → hi ≤ w'.heap.size → MsgsN w' lo hi mvc a.msgs → MsgsN w' lo2 hi2 mvo a.msgs → w'.heap[p6]? = some (.cells (defCells a mvc).toArray 44 (0, 0)) → w'.heap[p7]? = some (.cells (defCells a mvo).toArray 44 (0, 0)) → K (.pointer (some ⟨p6, 0, none⟩)) (.pointer (some ⟨p7, 0, none⟩)) w') :
    opU Try.prog (Instr.storeAt 44 (.pointer (some ⟨p6, 0, none⟩)) (.agg (defCells a mvc).toArray)) QP w fun w => turnK w fun _ w => opU Try.prog (Instr.storeAt 44 (.pointer (some ⟨p7, 0, none⟩)) (.agg (defCells a mvo).toArray)) QP w fun w => turnK w fun _ w => K (.pointer (some ⟨p6, 0, none⟩)) (.pointer (some ⟨p7, 0, none⟩)) w := by
  have hc1 : mvc.oneCell' = true := SliceOf.oneCell hC.plain
  have ho1 : mvo.oneCell' = true := SliceOf.oneCell hO.plain
  obtain ⟨e1, k6, ho, hs⟩ := set3 h6 e g6 (.string a.name) mvc (.string a.start)
  have h7' := (ho p7 (Ne.symm hne)).trans h7
  simp (disch := first | assumption | (simp only [ONE]; done) | rfl | (simp only [SZ]; done) | omega | (simp only [SZ] at *; omega)) only [↓PR, QR, Int.reduceBEq, Int.reduceBNe, Int.reduceLT, Int.reduceLE, Int.reduceGT, Int.reduceGE, Int.reduceNeg, (cells_of_heap h6).1, (cells_of_heap h6).2, defCells, zeroD]
  generalize (((w.setCell ⟨p6, 0, none⟩ (.string a.name)).setCell ⟨p6, 0 + 1, none⟩ mvc).setCell ⟨p6, 0 + 2, none⟩ (.string a.start)) = w1 at *
  refine turnK_intro ?_
  obtain ⟨e2, k7, ho2, hs2⟩ := set3 h7' e1 g7 (.string a.name) mvo (.string a.start)
  simp (disch := first | assumption | (simp only [ONE]; done) | rfl | (simp only [SZ]; done) | omega | (simp only [SZ] at *; omega)) only [↓PR, QR, Int.reduceBEq, Int.reduceBNe, Int.reduceLT, Int.reduceLE, Int.reduceGT, Int.reduceGE, Int.reduceNeg, (cells_of_heap h7').1, (cells_of_heap h7').2, defCells, zeroD]
  refine turnK_intro ?_
  refine hK _ e2 (Nat.le_trans hl (Nat.le_of_eq (hs.trans hs2))) ((hC.only ho ?_).only ho2 ?_) ((hO.only ho ?_).only ho2 ?_) ((ho2 p6 hne).trans k6) k7
  all_goals unfold Harmless; omega
end
def oneD (m : MsgD) : DefD := ⟨ByteArray.empty, [m], ByteArray.empty⟩
theorem one_own {w : World} {lo hi : Nat} {mv : Value} {m : MsgD} (h : MsgsN w lo hi mv [m]) : ∃ g cap fv, mv = .slice (some ⟨g, 0, none⟩) 1 cap ∧ 1 ≤ cap ∧ w.cell? ⟨g, 0, none⟩ = some (.string m.name) ∧ w.cell? ⟨g, 1, none⟩ = some fv ∧ FieldsN w lo hi fv m.fields := by
  obtain ⟨css, ⟨⟨h1, h2⟩, h3⟩, hm1, hm2⟩ := h
  have hl : css.length = 1 := hm1
  rcases h2 with ⟨hv, h0⟩ | ⟨g, cap, cur, hv, hb, hc, hn, _, hsz, htake⟩
  · omega
  · obtain ⟨c0, hc0⟩ := getElem?_lt (l := css) (k := 0) (by omega)
    obtain ⟨fv, he, hF⟩ := hm2 0 m c0 rfl hc0
    rw [hl] at hv hn htake
    refine ⟨g, cap, fv, hv, hn, ?_, ?_, hF⟩
    · have := flatMap_get (enc := (Subtype.val : Cs 2 → List Value)) (fun x => x.2) css 0 c0 0 (.string m.name) hc0 (by rw [he]; rfl)
      rw [← htake, List.getElem?_take] at this
      rw [(cells_of_heap hc).1]
      simpa using this
    · have := flatMap_get (enc := (Subtype.val : Cs 2 → List Value)) (fun x => x.2) css 0 c0 1 fv hc0 (by rw [he]; rfl)
      rw [← htake, List.getElem?_take] at this
      rw [(cells_of_heap hc).1]
      simpa using this
theorem idxM1 {w : World} {QP : List PanicEntry → World → Prop} {k : Value → World → Prop} (b c : Nat) : opV Try.prog (Instr.indexAt 42 (.slice (some ⟨b, 0, none⟩) 1 c) (.int .i64 0)) QP w k = k (.pointer (some ⟨b, 0, none⟩)) w := op_indexN Try.underlying42 ty50 b 0 1 c .i64 0 (by decide)
theorem op_sliceLH {P : Program} {QP : List PanicEntry → World → Prop} {w : World} {k : Value → World → Prop} {t e : TypeId} {agg : Bool} {n m : Nat} {z : Value} (hu : P.underlying t = some (.slice e)) (ht : TyInfo P e agg n m z) (b o len cap : Nat) (kd kd' : IntKind) (l h : Nat) (hl : l ≤ h) (hc : l < cap) (hh : h ≤ cap) :
    opV P (Instr.sliceAt t (.slice (some ⟨b, o, none⟩) len cap) (some (.int kd (l : Int))) (some (.int kd' (h : Int))) none) QP w k = k (.slice (some ⟨b, o + l * n, none⟩) (h - l) (cap - l)) w := by
  refine opV_ok ?_
  have h1 : (h : Int) ≤ (cap : Int) := by omega
  have h2 : (0 : Int) ≤ (h : Int) := by omega
  have h3 : (l : Int) ≤ (h : Int) := by omega
  have h4 : (0 : Int) ≤ (l : Int) := by omega
  have h5 : ¬ cap = l := by omega
  simp [Instr.sliceAt, run_underlying hu, Instr.slice, Instr.sliceBounds, run_sliceBound, h1, h2, h3, h4, h5, Sw.run_sizeOf ht, Addr.add_lit]
theorem sl_front {α : Type} {w : World} {n : Nat} {E : World → List Value → α → Prop} {b o c : Nat} {l : List α} (h : SliceOf w n E (.slice (some ⟨b, o, none⟩) l.length c) l) {i : Nat} (hi : i ≤ l.length) : SliceOf w n E (.slice (some ⟨b, o, none⟩) i c) (l.take i) := by
  obtain ⟨A, c', hv, h1, h2, h3⟩ := h
  injection hv with hA hv hc
  subst hA hc
  have hlen : (l.take i).length = i := by rw [List.length_take]; omega
  refine ⟨_, c, by rw [hlen], by rw [hlen]; omega, h2, fun hne => ?_⟩
  obtain ⟨b', o', hA, hel⟩ := h3 (by intro e; rw [e] at hne; simp at hne)
  refine ⟨b', o', hA, fun k y hy => hel k y ?_⟩
  rw [List.getElem?_take] at hy
  split at hy
  · exact hy
  · cases hy
theorem sl_one {α : Type} {w : World} {n : Nat} {E : World → List Value → α → Prop} {b o c : Nat} {l : List α} (h : SliceOf w n E (.slice (some ⟨b, o, none⟩) l.length c) l) {i : Nat} {x : α} (hx : l[i]? = some x) : SliceOf w n E (.slice (some ⟨b, o + i * n, none⟩) 1 (c - i)) [x] := by
  obtain ⟨A, c', hv, h1, h2, h3⟩ := h
  injection hv with hA hv hc
  subst hA hc
  have hlt := (List.getElem?_eq_some_iff.1 hx).1
  obtain ⟨b', o', hA, hel⟩ := h3 (by intro e; rw [e] at hx; cases hx)
  injection hA with hA
  injection hA with hb ho _
  subst hb ho
  refine ⟨_, _, rfl, by simp; omega, by omega, fun _ => ⟨_, _, rfl, fun k y hy => ?_⟩⟩
  cases k with
  | succ k => cases hy
  | zero =>
    injection hy with hy
    subst hy
    obtain ⟨cs, a1, a2, a3⟩ := hel i x hx
    exact ⟨cs, a1, by simpa using a2, a3⟩
end Go.Proofs.Ytiajhbbmgglmlaa
namespace Go.Proofs.Ytiajhbbmgglmlaa
open Sw
open Go.RowKit (intOf Below)
set_option maxRecDepth 100000
theorem rName_ret (w0 : World) (s : ByteArray) : Ret Try.prog 28 #[.string s] w0 fun r w' => r = .bool (nameB s) ∧ Ext w0 w' := by
  have hsz : s.data.toList.length = s.size := by rw [Array.length_toList]; rfl
  refine n_phrasebookref04_Name_sound (R := retR _) ?_; unfold n_phrasebookref04_Name
  by_cases h1 : 1 ≤ s.size
  · have d1 : decide ((s.size : Int) < 1) = false := by simp; omega
    by_cases h2 : s.size ≤ 32
    · have d2 : decide ((s.size : Int) > 32) = false := by simp; omega
      simp (disch := first | assumption | (simp only [ONE]; done) | rfl | (simp only [SZ]; done) | omega | (simp only [SZ] at *; omega)) only [↓PR, QR, Int.reduceBEq, Int.reduceBNe, Int.reduceLT, Int.reduceLE, Int.reduceGT, Int.reduceGE, Int.reduceNeg, d1, d2]
      unfold n_phrasebookref04_Name_c4
      have hd : nameB s = ((match s.data.toList with | [] => false | c :: _ => letterB c) && s.data.toList.all wordB) := by
        unfold nameB
        rw [show decide (1 ≤ (s.size : Int)) = true by simp; omega, show decide ((s.size : Int) ≤ 32) = true by simp; omega]
        rfl
      rw [hd]
      clear hd
      obtain ⟨c, cs, hcs⟩ : ∃ c cs, s.data.toList = c :: cs := by
        cases hd : s.data.toList with
        | nil => rw [hd] at hsz; simp at hsz; omega
        | cons c cs => exact ⟨c, cs, rfl⟩
      simp (disch := first | assumption | (simp only [ONE]; done) | rfl | (simp only [SZ]; done) | omega | (simp only [SZ] at *; omega)) only [↓PR, QR, Int.reduceBEq, Int.reduceBNe, Int.reduceLT, Int.reduceLE, Int.reduceGT, Int.reduceGE, Int.reduceNeg]
      rw [op_indexS0 Try.underlying9 s .i64 (b := c) (by rw [hcs]; rfl)]
      refine callK_ret (rletter_ret _ c) ?_
      rintro r w1 ⟨rfl, e⟩
      rw [show (match s.data.toList with | [] => false | c :: _ => letterB c) = letterB c by rw [hcs]]
      cases hl : letterB c with
      | false =>
        simp (disch := first | assumption | (simp only [ONE]; done) | rfl | (simp only [SZ]; done) | omega | (simp only [SZ] at *; omega)) only [↓PR, QR, Int.reduceBEq, Int.reduceBNe, Int.reduceLT, Int.reduceLE, Int.reduceGT, Int.reduceGE, Int.reduceNeg]
        exact ⟨by trivial, e⟩
      | true =>
        simp (disch := first | assumption | (simp only [ONE]; done) | rfl | (simp only [SZ]; done) | omega | (simp only [SZ] at *; omega)) only [↓PR, QR, Int.reduceBEq, Int.reduceBNe, Int.reduceLT, Int.reduceLE, Int.reduceGT, Int.reduceGE, Int.reduceNeg]
        clear hl hcs
        refine loop1_intro (fun i w' => ∃ k : Nat, i = .int .i64 k ∧ k ≤ s.data.toList.length ∧ Ext w0 w' ∧ (s.data.toList.drop k).all wordB = s.data.toList.all wordB) (fun i _ => s.data.toList.length - (intOf i).toNat) ⟨0, rfl, by omega, e, rfl⟩ ?_
        rintro _ w2 ⟨k, rfl, hk, e2, hI⟩
        rcases drop_cases hk with ⟨x, hx, hd, hlt, hdec⟩ | ⟨hk, hd, hdec⟩
        · rw [hsz] at hdec
          have hidx : ∀ (R : List PanicEntry → World → Prop) (w : World) (K : Value → World → Prop), opV Try.prog (Instr.index 9 (.string s) (.int .i64 (k : Int))) R w K = K (.int .u8 (x.toNat : Int)) w := fun R w K => op_indexS Try.underlying9 s .i64 k hx
          have hnext : wordB x = true → ∀ w', Ext w0 w' → (∃ k' : Nat, Value.int .i64 ((k + 1 : Nat) : Int) = .int .i64 k' ∧ k' ≤ s.data.toList.length ∧ Ext w0 w' ∧ (s.data.toList.drop k').all wordB = s.data.toList.all wordB) ∧ s.data.toList.length - (intOf (Value.int .i64 ((k + 1 : Nat) : Int))).toNat < s.data.toList.length - (intOf (Value.int .i64 (k : Int))).toNat := by
            intro hx1 w' e'
            refine ⟨⟨k + 1, rfl, hlt, e', ?_⟩, ?_⟩
            · rw [← hI, hd]; simp [hx1]
            · show s.data.toList.length - (((k + 1 : Nat) : Int)).toNat < s.data.toList.length - ((k : Int)).toNat
              omega
          have hstop : wordB x = false → s.data.toList.all wordB = false := by
            intro hx1
            rw [← hI, hd]; simp [hx1]
          unfold n_phrasebookref04_Name_c3
          simp (disch := first | assumption | (simp only [ONE]; done) | rfl | (simp only [SZ]; done) | omega | (simp only [SZ] at *; omega)) only [↓PR, QR, Int.reduceBEq, Int.reduceBNe, Int.reduceLT, Int.reduceLE, Int.reduceGT, Int.reduceGE, Int.reduceNeg, hdec]
          rw [hidx]
          refine callK_ret (rletter_ret _ x) ?_
          rintro r w3 ⟨rfl, e3⟩
          have e4 := e2.trans e3
          unfold n_phrasebookref04_Name_c2
          cases hl : letterB x with
          | true =>
            simp (disch := first | assumption | (simp only [ONE]; done) | rfl | (simp only [SZ]; done) | omega | (simp only [SZ] at *; omega)) only [↓PR, QR, Int.reduceBEq, Int.reduceBNe, Int.reduceLT, Int.reduceLE, Int.reduceGT, Int.reduceGE, Int.reduceNeg, n_phrasebookref04_Name_c1]
            exact hnext (by unfold wordB; rw [hl]; rfl) _ e4
          | false =>
            simp (disch := first | assumption | (simp only [ONE]; done) | rfl | (simp only [SZ]; done) | omega | (simp only [SZ] at *; omega)) only [↓PR, QR, Int.reduceBEq, Int.reduceBNe, Int.reduceLT, Int.reduceLE, Int.reduceGT, Int.reduceGE, Int.reduceNeg]
            rw [hidx]
            refine callK_ret (rdigit_ret _ x) ?_
            rintro r w5 ⟨rfl, e5⟩
            have e6 := e4.trans e5
            unfold n_phrasebookref04_Name_c1
            cases hg : digitB x with
            | true =>
              simp (disch := first | assumption | (simp only [ONE]; done) | rfl | (simp only [SZ]; done) | omega | (simp only [SZ] at *; omega)) only [↓PR, QR, Int.reduceBEq, Int.reduceBNe, Int.reduceLT, Int.reduceLE, Int.reduceGT, Int.reduceGE, Int.reduceNeg]
              exact hnext (by unfold wordB; rw [hl, hg]; rfl) _ e6
            | false =>
              simp (disch := first | assumption | (simp only [ONE]; done) | rfl | (simp only [SZ]; done) | omega | (simp only [SZ] at *; omega)) only [↓PR, QR, Int.reduceBEq, Int.reduceBNe, Int.reduceLT, Int.reduceLE, Int.reduceGT, Int.reduceGE, Int.reduceNeg]
              rw [hidx]
              cases hu : ((x.toNat : Int) == 95) with
              | true =>
                have hu' : ((x.toNat : Int) != 95) = false := by rw [bne, hu]; rfl
                simp (disch := first | assumption | (simp only [ONE]; done) | rfl | (simp only [SZ]; done) | omega | (simp only [SZ] at *; omega)) only [↓PR, QR, Int.reduceBEq, Int.reduceBNe, Int.reduceLT, Int.reduceLE, Int.reduceGT, Int.reduceGE, Int.reduceNeg, hu']
                exact hnext (by unfold wordB; rw [hl, hg, hu]; rfl) _ e6
              | false =>
                have hu' : ((x.toNat : Int) != 95) = true := by rw [bne, hu]; rfl
                simp (disch := first | assumption | (simp only [ONE]; done) | rfl | (simp only [SZ]; done) | omega | (simp only [SZ] at *; omega)) only [↓PR, QR, Int.reduceBEq, Int.reduceBNe, Int.reduceLT, Int.reduceLE, Int.reduceGT, Int.reduceGE, Int.reduceNeg, hu']
                exact ⟨by rw [hstop (by unfold wordB; rw [hl, hg, hu]; rfl)], e6⟩
        · rw [hsz] at hdec hk
          unfold n_phrasebookref04_Name_c3
          simp (disch := first | assumption | (simp only [ONE]; done) | rfl | (simp only [SZ]; done) | omega | (simp only [SZ] at *; omega)) only [↓PR, QR, Int.reduceBEq, Int.reduceBNe, Int.reduceLT, Int.reduceLE, Int.reduceGT, Int.reduceGE, Int.reduceNeg, hdec]
          refine ⟨?_, e2⟩
          rw [← hI, hd]
          rfl
    · have d2 : decide ((s.size : Int) > 32) = true := by simp; omega
      simp (disch := first | assumption | (simp only [ONE]; done) | rfl | (simp only [SZ]; done) | omega | (simp only [SZ] at *; omega)) only [↓PR, QR, Int.reduceBEq, Int.reduceBNe, Int.reduceLT, Int.reduceLE, Int.reduceGT, Int.reduceGE, Int.reduceNeg, d1, d2]
      unfold n_phrasebookref04_Name_c4
      simp (disch := first | assumption | (simp only [ONE]; done) | rfl | (simp only [SZ]; done) | omega | (simp only [SZ] at *; omega)) only [↓PR, QR, Int.reduceBEq, Int.reduceBNe, Int.reduceLT, Int.reduceLE, Int.reduceGT, Int.reduceGE, Int.reduceNeg]
      refine ⟨?_, Ext.refl _⟩
      unfold nameB
      rw [show decide ((s.size : Int) ≤ 32) = false by simp; omega]
      simp
  · have d1 : decide ((s.size : Int) < 1) = true := by simp; omega
    simp (disch := first | assumption | (simp only [ONE]; done) | rfl | (simp only [SZ]; done) | omega | (simp only [SZ] at *; omega)) only [↓PR, QR, Int.reduceBEq, Int.reduceBNe, Int.reduceLT, Int.reduceLE, Int.reduceGT, Int.reduceGE, Int.reduceNeg, d1]
    unfold n_phrasebookref04_Name_c4
    simp (disch := first | assumption | (simp only [ONE]; done) | rfl | (simp only [SZ]; done) | omega | (simp only [SZ] at *; omega)) only [↓PR, QR, Int.reduceBEq, Int.reduceBNe, Int.reduceLT, Int.reduceLE, Int.reduceGT, Int.reduceGE, Int.reduceNeg]
    refine ⟨?_, Ext.refl _⟩
    unfold nameB
    rw [show decide (1 ≤ (s.size : Int)) = false by simp; omega]
    simp
end Go.Proofs.Ytiajhbbmgglmlaa
namespace Go.Proofs.Ytiajhbbmgglmlaa
open Sw
open Go.RowKit (intOf Below)
set_option maxRecDepth 100000
def twoF0 : FieldD := { name := ⟨#[110]⟩, kind := 1, bits := 8, little := false, loose := false, low := 0, high := 255, base := 0, terms := [], of := ByteArray.empty, tag := ByteArray.empty, fr := ByteArray.empty, cases := [], check := 0, key := 0 }
def twoF1 : FieldD := { name := ⟨#[98]⟩, kind := 4, bits := 0, little := false, loose := false, low := 0, high := 0, base := 0, terms := [⟨⟨#[110]⟩, 1⟩], of := ByteArray.empty, tag := ByteArray.empty, fr := ByteArray.empty, cases := [], check := 0, key := 0 }
def twoF2 : FieldD := { name := ⟨#[108]⟩, kind := 7, bits := 0, little := false, loose := false, low := 0, high := 0, base := 0, terms := [], of := ⟨#[109]⟩, tag := ByteArray.empty, fr := ByteArray.empty, cases := [], check := 0, key := 0 }
def twoD (start : ByteArray) (l : List FieldD) : DefD := ⟨⟨#[100]⟩, [⟨⟨#[109]⟩, l⟩], start⟩
theorem chk_a : checkP (twoD ⟨#[120]⟩ [twoF0, twoF1]) = (-1, -1, 11) := by decide
theorem chk_b : checkP (twoD ⟨#[109]⟩ [{ twoF0 with high := 256 }, twoF1]) = (0, 0, 7) := by decide
theorem chk_c : checkP (twoD ⟨#[109]⟩ [twoF0, { twoF1 with base := -1 }]) = (0, 1, 9) := by decide
theorem chk_e : checkP (twoD ⟨#[109]⟩ [twoF0, { twoF1 with name := ⟨#[110]⟩ }]) = (0, 1, 2) := by decide
theorem chk_f : checkP (twoD ⟨#[109]⟩ [twoF0, { twoF1 with bits := 8 }]) = (0, 1, 5) := by decide
theorem chk_g : checkP (twoD ⟨#[109]⟩ [twoF0, twoF1, twoF2]) = (0, 2, 8) := by decide
def TwoAt (w : World) (bt bf bm : Nat) (f0 f1 : FieldD) : Prop :=
  w.heap[bm]? = some (.cells #[.string ⟨#[109]⟩, .slice (some ⟨bf, 0, none⟩) 2 2] 50 (0, 0)) ∧
  w.heap[bf]? = some (.cells (fieldCells f0 (.slice none 0 0) (.slice none 0 0) ++ fieldCells f1 (.slice (some ⟨bt, 0, none⟩) 1 1) (.slice none 0 0)).toArray 28 (0, 0)) ∧
  w.heap[bt]? = some (.cells #[.string ⟨#[110]⟩, .int .i64 1] 77 (0, 0))
abbrev twoVal (start : ByteArray) (bm : Nat) : Value := .agg #[.string ⟨#[100]⟩, .slice (some ⟨bm, 0, none⟩) 1 1, .string start]
theorem TwoAt.go {w w' : World} {bt bf bm : Nat} {f0 f1 : FieldD} (h : TwoAt w bt bf bm f0 f1) (e : Ext w w') : TwoAt w' bt bf bm f0 f1 := ⟨e.obj h.1, e.obj h.2.1, e.obj h.2.2⟩
theorem TwoAt.same {w w' : World} {bt bf bm : Nat} {f0 f1 : FieldD} (h : TwoAt w bt bf bm f0 f1) (e : ∀ b, b = bt ∨ b = bf ∨ b = bm → w'.heap[b]? = w.heap[b]?) : TwoAt w' bt bf bm f0 f1 := ⟨(e bm (by simp)).trans h.1, (e bf (by simp)).trans h.2.1, (e bt (by simp)).trans h.2.2⟩
theorem TwoAt.other {w : World} {bt bf bm b o : Nat} {f0 f1 : FieldD} (h : TwoAt w bt bf bm f0 f1) (h1 : b ≠ bt) (h2 : b ≠ bf) (h3 : b ≠ bm) (v : Value) : TwoAt (w.setCell ⟨b, o, none⟩ v) bt bf bm f0 f1 :=
  h.same fun b' hb' => Only.setCell w b o v b' (by rcases hb' with rfl | rfl | rfl <;> exact fun e => by omega)
theorem TwoAt.turn {w : World} {bt bf bm o : Nat} {f0 f1 g0 g1 : FieldD} (h : TwoAt w bt bf bm f0 f1) (h1 : bf ≠ bt) (h2 : bf ≠ bm) (v : Value)
    (hv : (fieldCells f0 (.slice none 0 0) (.slice none 0 0) ++ fieldCells f1 (.slice (some ⟨bt, 0, none⟩) 1 1) (.slice none 0 0)).set o v = fieldCells g0 (.slice none 0 0) (.slice none 0 0) ++ fieldCells g1 (.slice (some ⟨bt, 0, none⟩) 1 1) (.slice none 0 0)) : TwoAt (w.setCell ⟨bf, o, none⟩ v) bt bf bm g0 g1 := by
  refine ⟨(Only.setCell w bf o v bm (fun e => h2 e.symm)).trans h.1, ?_, (Only.setCell w bf o v bt (fun e => h1 e.symm)).trans h.2.2⟩
  rw [heap_set h.2.1, List.setIfInBounds_toArray, hv]
theorem TwoAt.msgs {w : World} {bt bf bm : Nat} {f0 f1 : FieldD} (h : TwoAt w bt bf bm f0 f1) (h0 : f0.terms = [] ∧ f0.cases = []) (h1 : f1.terms = [⟨⟨#[110]⟩, 1⟩] ∧ f1.cases = []) : MsgsOf w (.slice (some ⟨bm, 0, none⟩) 1 1) [⟨⟨#[109]⟩, [f0, f1]⟩] := by
  obtain ⟨a1, a2, a3⟩ := h
  refine ⟨_, 1, rfl, by simp, by simp, fun _ => ⟨bm, 0, rfl, fun k x hx => ?_⟩⟩
  cases k with
  | succ k => simp at hx
  | zero =>
    simp at hx; subst hx
    refine ⟨[.string ⟨#[109]⟩, .slice (some ⟨bf, 0, none⟩) 2 2], rfl, fun j v hv => ?_, _, rfl, ?_⟩
    · rw [(cells_of_heap a1).1]; simpa using hv
    · refine ⟨_, 2, rfl, by simp, by simp, fun _ => ⟨bf, 0, rfl, fun k x hx => ?_⟩⟩
      cases k with
      | zero =>
        simp at hx; subst hx
        refine ⟨fieldCells f0 (.slice none 0 0) (.slice none 0 0), rfl, fun j v hv => ?_, _, _, rfl, ?_, ?_⟩
        · rw [(cells_of_heap a2).1]
          have : j < 15 := (List.getElem?_eq_some_iff.1 hv).1
          rw [List.getElem?_toArray, show 0 + 0 * 15 + j = j by omega, List.getElem?_append_left (by simpa using this)]; exact hv
        · rw [h0.1]; exact SliceOf.nil _ _ _
        · rw [h0.2]; exact SliceOf.nil _ _ _
      | succ k =>
        cases k with
        | succ k => simp at hx
        | zero =>
          simp at hx; subst hx
          refine ⟨fieldCells f1 (.slice (some ⟨bt, 0, none⟩) 1 1) (.slice none 0 0), rfl, fun j v hv => ?_, _, _, rfl, ?_, ?_⟩
          · rw [(cells_of_heap a2).1]
            rw [List.getElem?_toArray, show 0 + (0 + 1) * 15 + j = 15 + j by omega, List.getElem?_append_right (by simp), List.length_cons]; simpa using hv
          · rw [h1.1]
            refine ⟨_, 1, rfl, by decide, by decide, fun _ => ⟨bt, 0, rfl, fun k x hx => ?_⟩⟩
            cases k with
            | succ k => simp at hx
            | zero =>
              simp at hx; subst hx
              exact ⟨[.string ⟨#[110]⟩, .int .i64 1], rfl, fun j v hv => by rw [(cells_of_heap a3).1]; simpa using hv, rfl⟩
          · rw [h1.2]; exact SliceOf.nil _ _ _
theorem TwoAt.val {w : World} {bt bf bm : Nat} {f0 f1 : FieldD} (h : TwoAt w bt bf bm f0 f1) (h0 : f0.terms = [] ∧ f0.cases = []) (h1 : f1.terms = [⟨⟨#[110]⟩, 1⟩] ∧ f1.cases = []) (start : ByteArray) : DefVal w (twoVal start bm) (twoD start [f0, f1]) := ⟨_, rfl, h.msgs h0 h1⟩
theorem two_ret (w0 : World) : Ret Try.prog 32 #[] w0 fun r w' => ∃ bt bf bm, r = twoVal ⟨#[109]⟩ bm ∧ w0.heap.size ≤ bt ∧ bt < bf ∧ bf < bm ∧ bm < w'.heap.size ∧ TwoAt w' bt bf bm twoF0 twoF1 ∧ Ext w0 w' := by
  refine n_phrasebooklaw05_two_sound (R := retR _) ?_; unfold n_phrasebooklaw05_two
  simp (disch := first | assumption | (simp only [ONE]; done) | rfl | (simp only [SZ]; done) | omega | (simp only [SZ] at *; omega)) only [↓PR, QR, Int.reduceBEq, Int.reduceBNe, Int.reduceLT, Int.reduceLE, Int.reduceGT, Int.reduceGE, Int.reduceNeg]
  refine ⟨w0.heap.size + 1, w0.heap.size + 1 + 1, w0.heap.size + 1 + 1 + 1, rfl, by omega, by omega, by omega, by omega, ⟨?_, ?_, ?_⟩, ee⟩
  · simp (disch := first | assumption | (simp only [ONE]; done) | rfl | (simp only [SZ]; done) | omega | (simp only [SZ] at *; omega)) only [↓PR, QR, Int.reduceBEq, Int.reduceBNe, Int.reduceLT, Int.reduceLE, Int.reduceGT, Int.reduceGE, Int.reduceNeg]
  · simp (disch := first | assumption | (simp only [ONE]; done) | rfl | (simp only [SZ]; done) | omega | (simp only [SZ] at *; omega)) only [↓PR, QR, Int.reduceBEq, Int.reduceBNe, Int.reduceLT, Int.reduceLE, Int.reduceGT, Int.reduceGE, Int.reduceNeg]
    rfl
  · simp (disch := first | assumption | (simp only [ONE]; done) | rfl | (simp only [SZ]; done) | omega | (simp only [SZ] at *; omega)) only [↓PR, QR, Int.reduceBEq, Int.reduceBNe, Int.reduceLT, Int.reduceLE, Int.reduceGT, Int.reduceGE, Int.reduceNeg]
theorem flawed_ret {w0 : World} (v : Value) (d : DefD) (a f c : Int) (hd : DefVal w0 v d) (ht : calm d) : Ret Try.prog 33 #[v, .int .i64 a, .int .i64 f, .int .i64 c] w0 fun r w' => r = .bool (flawedB d && (decide ((checkP d).1 = a) && (decide ((checkP d).2.1 = f) && decide ((checkP d).2.2 = c)))) ∧ Ext w0 w' := by
  obtain ⟨mv, rfl, hM⟩ := hd
  have hm1 := SliceOf.oneCell hM
  refine n_phrasebooklaw05_flawed_sound (R := retR _) ?_; unfold n_phrasebooklaw05_flawed
  simp (disch := first | assumption | (simp only [ONE]; done) | rfl | (simp only [SZ]; done) | omega | (simp only [SZ] at *; omega)) only [↓PR, QR, Int.reduceBEq, Int.reduceBNe, Int.reduceLT, Int.reduceLE, Int.reduceGT, Int.reduceGE, Int.reduceNeg]
  refine callK_ret (Check_ret _ d ⟨mv, rfl, MsgsOf.ext hM ee⟩ ht) ?_
  rintro _ w1 ⟨rfl, e1⟩
  generalize flawedB d = b
  unfold n_phrasebooklaw05_flawed_c1
  cases b with
  | false =>
    simp (disch := first | assumption | (simp only [ONE]; done) | rfl | (simp only [SZ]; done) | omega | (simp only [SZ] at *; omega)) only [↓PR, QR, Int.reduceBEq, Int.reduceBNe, Int.reduceLT, Int.reduceLE, Int.reduceGT, Int.reduceGE, Int.reduceNeg]
    exact ⟨by first | trivial | rfl, ee⟩
  | true =>
    simp (disch := first | assumption | (simp only [ONE]; done) | rfl | (simp only [SZ]; done) | omega | (simp only [SZ] at *; omega)) only [↓PR, QR, Int.reduceBEq, Int.reduceBNe, Int.reduceLT, Int.reduceLE, Int.reduceGT, Int.reduceGE, Int.reduceNeg]
    exact ⟨by first | trivial | rfl, ee⟩
end Go.Proofs.Ytiajhbbmgglmlaa
namespace Go.Proofs.Ytiajhbbmgglmlaa
open Sw
open Go.RowKit (intOf Below)
set_option maxRecDepth 100000
theorem known_head (w0 : World) (R : Ending → World → Prop) (h : ∀ (w : World) (bt1 bf1 bm1 bt2 bf2 bm2 bt3 bf3 bm3 bt4 bf4 bm4 bt5 bf5 bm5 bt6 bf6 bm6 : Nat),
    w0.heap.size ≤ bt1 → bt1 < bf1 → bf1 < bm1 → bm1 < bt2 → bt2 < bf2 → bf2 < bm2 → bm2 < bt3 → bt3 < bf3 → bf3 < bm3 → bm3 < bt4 → bt4 < bf4 → bf4 < bm4 → bm4 < bt5 → bt5 < bf5 → bf5 < bm5 → bm5 < bt6 → bt6 < bf6 → bf6 < bm6 → bm6 < w.heap.size → Ext w0 w →
    TwoAt w bt1 bf1 bm1 twoF0 twoF1 → TwoAt w bt2 bf2 bm2 twoF0 twoF1 → TwoAt w bt3 bf3 bm3 twoF0 twoF1 → TwoAt w bt4 bf4 bm4 twoF0 twoF1 → TwoAt w bt5 bf5 bm5 twoF0 twoF1 → TwoAt w bt6 bf6 bm6 twoF0 twoF1 →
    n_phrasebooklaw05_known_c18 (twoVal ⟨#[109]⟩ bm1) (twoVal ⟨#[109]⟩ bm2) (twoVal ⟨#[109]⟩ bm3) (twoVal ⟨#[109]⟩ bm4) (twoVal ⟨#[109]⟩ bm5) (twoVal ⟨#[109]⟩ bm6) R w) : n_phrasebooklaw05_known R w0 := by
  unfold n_phrasebooklaw05_known
  refine callK_ret (two_ret _) ?_
  rintro _ w1 ⟨bt1, bf1, bm1, rfl, a1, b1, c1, d1, h1, e1⟩
  refine callK_ret (two_ret _) ?_
  rintro _ w2 ⟨bt2, bf2, bm2, rfl, a2, b2, c2, d2, h2, e2⟩
  refine callK_ret (two_ret _) ?_
  rintro _ w3 ⟨bt3, bf3, bm3, rfl, a3, b3, c3, d3, h3, e3⟩
  unfold n_phrasebooklaw05_known_c19
  refine callK_ret (two_ret _) ?_
  rintro _ w4 ⟨bt4, bf4, bm4, rfl, a4, b4, c4, d4, h4, e4⟩
  refine callK_ret (two_ret _) ?_
  rintro _ w5 ⟨bt5, bf5, bm5, rfl, a5, b5, c5, d5, h5, e5⟩
  refine callK_ret (two_ret _) ?_
  rintro _ w6 ⟨bt6, bf6, bm6, rfl, a6, b6, c6, d6, h6, e6⟩
  have e56 := e6
  have e46 := e5.trans e56
  have e36 := e4.trans e46
  have e26 := e3.trans e36
  have e16 := e2.trans e26
  exact h w6 bt1 bf1 bm1 bt2 bf2 bm2 bt3 bf3 bm3 bt4 bf4 bm4 bt5 bf5 bm5 bt6 bf6 bm6 a1 b1 c1 (by omega) b2 c2 (by omega) b3 c3 (by omega) b4 c4 (by omega) b5 c5 (by omega) b6 c6 d6 (e1.trans e16) (h1.go e16) (h2.go e26) (h3.go e36) (h4.go e46) (h5.go e56) h6
theorem idxM {w : World} {QP : List PanicEntry → World → Prop} {k : Value → World → Prop} (b : Nat) : opV Try.prog (Instr.indexAt 42 (.slice (some ⟨b, 0, none⟩) 1 1) (.int .i64 0)) QP w k = k (.pointer (some ⟨b, 0, none⟩)) w := op_indexN Try.underlying42 ty50 b 0 1 1 .i64 0 (by decide)
theorem idxF0 {w : World} {QP : List PanicEntry → World → Prop} {k : Value → World → Prop} (b : Nat) : opV Try.prog (Instr.indexAt 48 (.slice (some ⟨b, 0, none⟩) 2 2) (.int .i64 0)) QP w k = k (.pointer (some ⟨b, 0, none⟩)) w := op_indexN Try.underlying48 ty28 b 0 2 2 .i64 0 (by decide)
theorem idxF1 {w : World} {QP : List PanicEntry → World → Prop} {k : Value → World → Prop} (b : Nat) : opV Try.prog (Instr.indexAt 48 (.slice (some ⟨b, 0, none⟩) 2 2) (.int .i64 1)) QP w k = k (.pointer (some ⟨b, 15, none⟩)) w := by
  rw [op_indexAt Try.underlying48 ty28 b 0 2 2 .i64 1 (by decide) (by decide)]
  rfl
theorem qidxM {C : World → Prop} [ClassNe C] {k : Value → Prop} (b : Nat) : qV Try.prog C (Instr.indexAt 42 (.slice (some ⟨b, 0, none⟩) 1 1) (.int .i64 0)) k = k (.pointer (some ⟨b, 0, none⟩)) := qV_of fun _ _ _ => idxM b
def twoB : FieldD := { twoF0 with high := 256 }
def twoC : FieldD := { twoF1 with base := -1 }
def twoE : FieldD := { twoF1 with name := ⟨#[110]⟩ }
def twoG : FieldD := { twoF1 with bits := 8 }
def DefAt (w : World) (p : Nat) (start : ByteArray) (bm : Nat) : Prop := w.heap[p]? = some (.cells #[.string ⟨#[100]⟩, .slice (some ⟨bm, 0, none⟩) 1 1, .string start] 44 (0, 0))
theorem flawed_true {w0 : World} {v : Value} {d : DefD} {a f c : Int} (hd : DefVal w0 v d) (ht : calm d) (h : checkP d = (a, f, c)) (h0 : c ≠ 0) : Ret Try.prog 33 #[v, .int .i64 a, .int .i64 f, .int .i64 c] w0 fun r w' => r = .bool true ∧ Ext w0 w' := by
  have := flawed_ret v d a f c hd ht
  rw [show (flawedB d && (decide ((checkP d).1 = a) && (decide ((checkP d).2.1 = f) && decide ((checkP d).2.2 = c)))) = true by unfold flawedB; rw [h]; simp [h0]] at this
  exact this
def padF : FieldD := { name := ByteArray.empty, kind := 10, bits := 0, little := false, loose := false, low := 0, high := 0, base := 0, terms := [], of := ByteArray.empty, tag := ByteArray.empty, fr := ByteArray.empty, cases := [], check := 0, key := 0 }
theorem calm_two (s : ByteArray) (l : List FieldD) (hl : (allRefs l).length ≤ 1048576 ∧ ∀ f ∈ l, f.terms.length ≤ 1048576) : calm (twoD s l) := by
  intro m hm
  simp only [twoD, List.mem_singleton] at hm
  subst hm
  exact hl
set_option maxHeartbeats 8000000 in
theorem known_end {w0 X : World} {bm1 bm2 bm3 bm4 bm5 bm6 p1 p2 p3 p4 p5 p6 : Nat} (e : Ext w0 X) (v1 : DefVal X (twoVal ⟨#[120]⟩ bm1) (twoD ⟨#[120]⟩ [twoF0, twoF1])) (v2 : DefVal X (twoVal ⟨#[109]⟩ bm2) (twoD ⟨#[109]⟩ [twoB, twoF1])) (v3 : DefVal X (twoVal ⟨#[109]⟩ bm3) (twoD ⟨#[109]⟩ [twoF0, twoC])) (v4 : DefVal X (twoVal ⟨#[109]⟩ bm4) (twoD ⟨#[109]⟩ [twoF0, twoE])) (v5 : DefVal X (twoVal ⟨#[109]⟩ bm5) (twoD ⟨#[109]⟩ [twoF0, twoG])) (v6 : DefVal X (twoVal ⟨#[109]⟩ bm6) (twoD ⟨#[109]⟩ [twoF0, twoF1, twoF2]))
    (q1 : DefAt X p1 ⟨#[120]⟩ bm1) (q2 : DefAt X p2 ⟨#[109]⟩ bm2) (q3 : DefAt X p3 ⟨#[109]⟩ bm3) (q4 : DefAt X p4 ⟨#[109]⟩ bm4) (q5 : DefAt X p5 ⟨#[109]⟩ bm5) (q6 : DefAt X p6 ⟨#[109]⟩ bm6) :
    callK Try.prog 32 #[] (panK (retR fun r w' => r = .bool true ∧ Ext w0 w')) X (fun t60 w => callK Try.prog 27 #[t60] (panK (retR fun r w' => r = .bool true ∧ Ext w0 w')) w (fun t61 w => n_phrasebooklaw05_known_c15 (.pointer (some ⟨p1, 0, none⟩)) (.pointer (some ⟨p2, 0, none⟩)) (.pointer (some ⟨p3, 0, none⟩)) (.pointer (some ⟨p4, 0, none⟩)) (.pointer (some ⟨p5, 0, none⟩)) (.pointer (some ⟨p6, 0, none⟩)) t61 (retR fun r w' => r = .bool true ∧ Ext w0 w') w)) := by
  refine callK_ret (two_ret _) ?_
  rintro _ w1 ⟨bt, bf, bm, rfl, _, _, _, _, h, e1⟩
  refine callK_ret (Valid_ret' _ _ (h.val ⟨rfl, rfl⟩ ⟨rfl, rfl⟩ _) (calm_two _ _ (by decide))) ?_
  rintro _ w2 ⟨rfl, e2⟩
  have E2 := e1.trans e2
  rw [show (!flawedB (twoD ⟨#[109]⟩ [twoF0, twoF1])) = true by decide]
  unfold n_phrasebooklaw05_known_c15
  simp (disch := first | assumption | (simp only [ONE]; done) | rfl | (simp only [SZ]; done) | omega | (simp only [SZ] at *; omega)) only [↓PR, QR, Int.reduceBEq, Int.reduceBNe, Int.reduceLT, Int.reduceLE, Int.reduceGT, Int.reduceGE, Int.reduceNeg, (cells_of_heap (E2.obj q1)).1]
  refine callK_ret (flawed_true (v1.ext E2) (calm_two _ _ (by decide)) chk_a (by decide)) ?_
  rintro _ w3 ⟨rfl, e3⟩
  have E3 := E2.trans e3
  simp (disch := first | assumption | (simp only [ONE]; done) | rfl | (simp only [SZ]; done) | omega | (simp only [SZ] at *; omega)) only [↓PR, QR, Int.reduceBEq, Int.reduceBNe, Int.reduceLT, Int.reduceLE, Int.reduceGT, Int.reduceGE, Int.reduceNeg]
  unfold n_phrasebooklaw05_known_c14
  simp (disch := first | assumption | (simp only [ONE]; done) | rfl | (simp only [SZ]; done) | omega | (simp only [SZ] at *; omega)) only [↓PR, QR, Int.reduceBEq, Int.reduceBNe, Int.reduceLT, Int.reduceLE, Int.reduceGT, Int.reduceGE, Int.reduceNeg, (cells_of_heap (E3.obj q2)).1]
  refine callK_ret (flawed_true (v2.ext E3) (calm_two _ _ (by decide)) chk_b (by decide)) ?_
  rintro _ w4 ⟨rfl, e4⟩
  have E4 := E3.trans e4
  simp (disch := first | assumption | (simp only [ONE]; done) | rfl | (simp only [SZ]; done) | omega | (simp only [SZ] at *; omega)) only [↓PR, QR, Int.reduceBEq, Int.reduceBNe, Int.reduceLT, Int.reduceLE, Int.reduceGT, Int.reduceGE, Int.reduceNeg]
  unfold n_phrasebooklaw05_known_c13
  simp (disch := first | assumption | (simp only [ONE]; done) | rfl | (simp only [SZ]; done) | omega | (simp only [SZ] at *; omega)) only [↓PR, QR, Int.reduceBEq, Int.reduceBNe, Int.reduceLT, Int.reduceLE, Int.reduceGT, Int.reduceGE, Int.reduceNeg, (cells_of_heap (E4.obj q3)).1]
  refine callK_ret (flawed_true (v3.ext E4) (calm_two _ _ (by decide)) chk_c (by decide)) ?_
  rintro _ w5 ⟨rfl, e5⟩
  have E5 := E4.trans e5
  simp (disch := first | assumption | (simp only [ONE]; done) | rfl | (simp only [SZ]; done) | omega | (simp only [SZ] at *; omega)) only [↓PR, QR, Int.reduceBEq, Int.reduceBNe, Int.reduceLT, Int.reduceLE, Int.reduceGT, Int.reduceGE, Int.reduceNeg]
  unfold n_phrasebooklaw05_known_c12
  simp (disch := first | assumption | (simp only [ONE]; done) | rfl | (simp only [SZ]; done) | omega | (simp only [SZ] at *; omega)) only [↓PR, QR, Int.reduceBEq, Int.reduceBNe, Int.reduceLT, Int.reduceLE, Int.reduceGT, Int.reduceGE, Int.reduceNeg, (cells_of_heap (E5.obj q4)).1]
  refine callK_ret (flawed_true (v4.ext E5) (calm_two _ _ (by decide)) chk_e (by decide)) ?_
  rintro _ w6 ⟨rfl, e6⟩
  have E6 := E5.trans e6
  simp (disch := first | assumption | (simp only [ONE]; done) | rfl | (simp only [SZ]; done) | omega | (simp only [SZ] at *; omega)) only [↓PR, QR, Int.reduceBEq, Int.reduceBNe, Int.reduceLT, Int.reduceLE, Int.reduceGT, Int.reduceGE, Int.reduceNeg]
  unfold n_phrasebooklaw05_known_c11
  simp (disch := first | assumption | (simp only [ONE]; done) | rfl | (simp only [SZ]; done) | omega | (simp only [SZ] at *; omega)) only [↓PR, QR, Int.reduceBEq, Int.reduceBNe, Int.reduceLT, Int.reduceLE, Int.reduceGT, Int.reduceGE, Int.reduceNeg, (cells_of_heap (E6.obj q5)).1]
  refine callK_ret (flawed_true (v5.ext E6) (calm_two _ _ (by decide)) chk_f (by decide)) ?_
  rintro _ w7 ⟨rfl, e7⟩
  have E7 := E6.trans e7
  simp (disch := first | assumption | (simp only [ONE]; done) | rfl | (simp only [SZ]; done) | omega | (simp only [SZ] at *; omega)) only [↓PR, QR, Int.reduceBEq, Int.reduceBNe, Int.reduceLT, Int.reduceLE, Int.reduceGT, Int.reduceGE, Int.reduceNeg]
  unfold n_phrasebooklaw05_known_c10
  simp (disch := first | assumption | (simp only [ONE]; done) | rfl | (simp only [SZ]; done) | omega | (simp only [SZ] at *; omega)) only [↓PR, QR, Int.reduceBEq, Int.reduceBNe, Int.reduceLT, Int.reduceLE, Int.reduceGT, Int.reduceGE, Int.reduceNeg, (cells_of_heap (E7.obj q6)).1]
  refine callK_ret (flawed_true (v6.ext E7) (calm_two _ _ (by decide)) chk_g (by decide)) ?_
  rintro _ w8 ⟨rfl, e8⟩
  have E8 := E7.trans e8
  simp (disch := first | assumption | (simp only [ONE]; done) | rfl | (simp only [SZ]; done) | omega | (simp only [SZ] at *; omega)) only [↓PR, QR, Int.reduceBEq, Int.reduceBNe, Int.reduceLT, Int.reduceLE, Int.reduceGT, Int.reduceGE, Int.reduceNeg]
  unfold n_phrasebooklaw05_known_c9
  simp (disch := first | assumption | (simp only [ONE]; done) | rfl | (simp only [SZ]; done) | omega | (simp only [SZ] at *; omega)) only [↓PR, QR, Int.reduceBEq, Int.reduceBNe, Int.reduceLT, Int.reduceLE, Int.reduceGT, Int.reduceGE, Int.reduceNeg]
  refine callK_ret (two_ret _) ?_
  rintro _ w9 ⟨bt, bf, bm, rfl, _, _, _, _, h, e9⟩
  refine callK_ret (Depth_ret _ _ 0 (h.val ⟨rfl, rfl⟩ ⟨rfl, rfl⟩ _) (calm_two _ _ (by decide))) ?_
  rintro _ w10 ⟨rfl, e10⟩
  rw [show depthP (twoD ⟨#[109]⟩ [twoF0, twoF1]) 0 = (1, 0) by decide]
  unfold n_phrasebooklaw05_known_c8
  simp (disch := first | assumption | (simp only [ONE]; done) | rfl | (simp only [SZ]; done) | omega | (simp only [SZ] at *; omega)) only [↓PR, QR, Int.reduceBEq, Int.reduceBNe, Int.reduceLT, Int.reduceLE, Int.reduceGT, Int.reduceGE, Int.reduceNeg]
  refine callK_ret (two_ret _) ?_
  rintro _ w11 ⟨bt, bf, bm, rfl, _, _, _, _, h, e11⟩
  refine callK_ret (Depth_ret _ _ 1 (h.val ⟨rfl, rfl⟩ ⟨rfl, rfl⟩ _) (calm_two _ _ (by decide))) ?_
  rintro _ w12 ⟨rfl, e12⟩
  rw [show depthP (twoD ⟨#[109]⟩ [twoF0, twoF1]) 1 = (0, 3) by decide]
  unfold n_phrasebooklaw05_known_c7
  simp (disch := first | assumption | (simp only [ONE]; done) | rfl | (simp only [SZ]; done) | omega | (simp only [SZ] at *; omega)) only [↓PR, QR, Int.reduceBEq, Int.reduceBNe, Int.reduceLT, Int.reduceLE, Int.reduceGT, Int.reduceGE, Int.reduceNeg]
  refine callK_ret (two_ret _) ?_
  rintro _ w13 ⟨bt, bf, bm, rfl, _, _, _, _, h, e13⟩
  unfold n_phrasebooklaw05_known_c6
  simp (disch := first | assumption | (simp only [ONE]; done) | rfl | (simp only [SZ]; done) | omega | (simp only [SZ] at *; omega)) only [↓PR, QR, Int.reduceBEq, Int.reduceBNe, Int.reduceLT, Int.reduceLE, Int.reduceGT, Int.reduceGE, Int.reduceNeg, ↓idxM, (cells_of_heap h.1).1]
  obtain ⟨mv, hmv, hM⟩ := h.val ⟨rfl, rfl⟩ ⟨rfl, rfl⟩ ⟨#[109]⟩
  have hm1 : MsgVal w13 (.agg #[.string ⟨#[109]⟩, .slice (some ⟨bf, 0, none⟩) 2 2]) ⟨⟨#[109]⟩, [twoF0, twoF1]⟩ := by
    obtain ⟨A, c, hA, _, _, _, hel⟩ := SliceOf.open (h.msgs ⟨rfl, rfl⟩ ⟨rfl, rfl⟩)
    injection hA with hA
    obtain ⟨b, o, cs, h1, h2, h3, fv, rfl, h5⟩ := hel 0 _ rfl
    rw [← hA] at h1
    injection h1 with h1
    injection h1 with h6 h7
    subst h6 h7
    have h8 := h3 1 _ rfl
    rw [(cells_of_heap h.1).1] at h8
    simp at h8
    subst h8
    exact ⟨_, rfl, h5⟩
  refine callK_ret (Ranges_ret _ _ _ hm1) ?_
  rintro _ w14 ⟨md, rfl, _, hmd, e14⟩
  have hnp : numPairs [twoF0, twoF1] = [(⟨#[110]⟩, rangeVal 0 255)] := by rw [numPairs_RP]; rfl
  rw [show (⟨⟨#[109]⟩, [twoF0, twoF1]⟩ : MsgD).fields = [twoF0, twoF1] from rfl, hnp] at hmd
  have hE14 : Ext w0 w14 := ee
  unfold n_phrasebooklaw05_known_c5
  simp (disch := first | assumption | (simp only [ONE]; done) | rfl | (simp only [SZ]; done) | omega | (simp only [SZ] at *; omega)) only [↓PR, QR, Int.reduceBEq, Int.reduceBNe, Int.reduceLT, Int.reduceLE, Int.reduceGT, Int.reduceGE, Int.reduceNeg, ↓n_phrasebooklaw05_known_c1, ↓n_phrasebooklaw05_known_c2, ↓n_phrasebooklaw05_known_c3, ↓n_phrasebooklaw05_known_c4, ↓n_phrasebooklaw05_known_c5, ↓n_phrasebooklaw05_known_c6, ↓n_phrasebooklaw05_known_c7, ↓n_phrasebooklaw05_known_c8, ↓n_phrasebooklaw05_known_c9, ↓n_phrasebooklaw05_known_c10, ↓n_phrasebooklaw05_known_c11, ↓n_phrasebooklaw05_known_c12, ↓n_phrasebooklaw05_known_c13, ↓n_phrasebooklaw05_known_c14, ↓n_phrasebooklaw05_known_c15, ↓n_phrasebooklaw05_known_c16, ↓n_phrasebooklaw05_known_c17, ↓n_phrasebooklaw05_known_c18, ↓n_phrasebooklaw05_known_c19]
  rw [op_lenO Try.underlying53 hmd]
  rw [show (bld [((⟨#[110]⟩ : ByteArray), rangeVal 0 255)]).1.length = 1 by decide]
  simp (disch := first | assumption | (simp only [ONE]; done) | rfl | (simp only [SZ]; done) | omega | (simp only [SZ] at *; omega)) only [↓PR, QR, Int.reduceBEq, Int.reduceBNe, Int.reduceLT, Int.reduceLE, Int.reduceGT, Int.reduceGE, Int.reduceNeg, ↓n_phrasebooklaw05_known_c1, ↓n_phrasebooklaw05_known_c2, ↓n_phrasebooklaw05_known_c3, ↓n_phrasebooklaw05_known_c4, ↓n_phrasebooklaw05_known_c5, ↓n_phrasebooklaw05_known_c6, ↓n_phrasebooklaw05_known_c7, ↓n_phrasebooklaw05_known_c8, ↓n_phrasebooklaw05_known_c9, ↓n_phrasebooklaw05_known_c10, ↓n_phrasebooklaw05_known_c11, ↓n_phrasebooklaw05_known_c12, ↓n_phrasebooklaw05_known_c13, ↓n_phrasebooklaw05_known_c14, ↓n_phrasebooklaw05_known_c15, ↓n_phrasebooklaw05_known_c16, ↓n_phrasebooklaw05_known_c17, ↓n_phrasebooklaw05_known_c18, ↓n_phrasebooklaw05_known_c19]
  rw [op_lookup1O Try.underlying53 Try.underlying9 ty31 hmd ⟨#[110]⟩]
  rw [show (lastOf [((⟨#[110]⟩ : ByteArray), rangeVal 0 255)] ⟨#[110]⟩) = some (rangeVal 0 255) by rw [show [((⟨#[110]⟩ : ByteArray), rangeVal 0 255)] = RP [(⟨#[110]⟩, 0, 255)] from rfl, lastOf_RP]; rfl]
  simp (disch := first | assumption | (simp only [ONE]; done) | rfl | (simp only [SZ]; done) | omega | (simp only [SZ] at *; omega)) only [↓PR, QR, Int.reduceBEq, Int.reduceBNe, Int.reduceLT, Int.reduceLE, Int.reduceGT, Int.reduceGE, Int.reduceNeg, ↓n_phrasebooklaw05_known_c1, ↓n_phrasebooklaw05_known_c2, ↓n_phrasebooklaw05_known_c3, ↓n_phrasebooklaw05_known_c4, ↓n_phrasebooklaw05_known_c5, ↓n_phrasebooklaw05_known_c6, ↓n_phrasebooklaw05_known_c7, ↓n_phrasebooklaw05_known_c8, ↓n_phrasebooklaw05_known_c9, ↓n_phrasebooklaw05_known_c10, ↓n_phrasebooklaw05_known_c11, ↓n_phrasebooklaw05_known_c12, ↓n_phrasebooklaw05_known_c13, ↓n_phrasebooklaw05_known_c14, ↓n_phrasebooklaw05_known_c15, ↓n_phrasebooklaw05_known_c16, ↓n_phrasebooklaw05_known_c17, ↓n_phrasebooklaw05_known_c18, ↓n_phrasebooklaw05_known_c19]
  rw [show ((((1 : Nat) : Int)) == 1) = true from rfl]
  simp (disch := first | assumption | (simp only [ONE]; done) | rfl | (simp only [SZ]; done) | omega | (simp only [SZ] at *; omega)) only [↓PR, QR, Int.reduceBEq, Int.reduceBNe, Int.reduceLT, Int.reduceLE, Int.reduceGT, Int.reduceGE, Int.reduceNeg]
  refine callK_ret (HasValue_ret _ _ padF ⟨_, _, rfl, SliceOf.nil _ _ _, SliceOf.nil _ _ _⟩) ?_
  rintro _ w15 ⟨rfl, e15⟩
  rw [show hasValueB padF = false from rfl]
  simp (disch := first | assumption | (simp only [ONE]; done) | rfl | (simp only [SZ]; done) | omega | (simp only [SZ] at *; omega)) only [↓PR, QR, Int.reduceBEq, Int.reduceBNe, Int.reduceLT, Int.reduceLE, Int.reduceGT, Int.reduceGE, Int.reduceNeg]
  exact ⟨trivial, hE14.trans e15⟩
set_option maxHeartbeats 8000000 in
theorem known_mid {w0 W : World} {bt1 bf1 bm1 bt2 bf2 bm2 bt3 bf3 bm3 bt4 bf4 bm4 bt5 bf5 bm5 bt6 bf6 bm6 p1 p2 p3 p4 p5 p6 : Nat} (e : Ext w0 W) (h1 : TwoAt W bt1 bf1 bm1 twoF0 twoF1) (h2 : TwoAt W bt2 bf2 bm2 twoB twoF1) (h3 : TwoAt W bt3 bf3 bm3 twoF0 twoC) (h4 : TwoAt W bt4 bf4 bm4 twoF0 twoE) (h5 : TwoAt W bt5 bf5 bm5 twoF0 twoG) (h6 : TwoAt W bt6 bf6 bm6 twoF0 twoF1)
    (q1 : DefAt W p1 ⟨#[120]⟩ bm1) (q2 : DefAt W p2 ⟨#[109]⟩ bm2) (q3 : DefAt W p3 ⟨#[109]⟩ bm3) (q4 : DefAt W p4 ⟨#[109]⟩ bm4) (q5 : DefAt W p5 ⟨#[109]⟩ bm5) (q6 : DefAt W p6 ⟨#[109]⟩ bm6)
    (l1 : w0.heap.size ≤ bt1) (l2 : bt1 < bf1) (l3 : bf1 < bm1) (l4 : bm1 < bt2) (l5 : bt2 < bf2) (l6 : bf2 < bm2) (l7 : bm2 < bt3) (l8 : bt3 < bf3) (l9 : bf3 < bm3) (l10 : bm3 < bt4) (l11 : bt4 < bf4) (l12 : bf4 < bm4) (l13 : bm4 < bt5) (l14 : bt5 < bf5) (l15 : bf5 < bm5) (l16 : bm5 < bt6) (l17 : bt6 < bf6) (l18 : bf6 < bm6) (l19 : bm6 < p1) (l20 : p1 < p2) (l21 : p2 < p3) (l22 : p3 < p4) (l23 : p4 < p5) (l24 : p5 < p6) (l25 : p6 < W.heap.size) :
    drawK W fun C1 w => n_phrasebooklaw05_known_c17 (.pointer (some ⟨p1, 0, none⟩)) (.pointer (some ⟨p2, 0, none⟩)) (.pointer (some ⟨p3, 0, none⟩)) (.pointer (some ⟨p4, 0, none⟩)) (.pointer (some ⟨p5, 0, none⟩)) (.pointer (some ⟨p6, 0, none⟩)) C1 (retR fun r w' => r = .bool true ∧ Ext w0 w') w := by
  refine drawK_introB (w1 := W) bf6 bf6 (fun _ _ _ _ => rfl) ?_
  have eD : Ext W W.drew := (Ext.refl W).wdrew
  unfold n_phrasebooklaw05_known_c17
  simp (disch := first | assumption | (simp only [ONE]; done) | rfl | (simp only [SZ]; done) | omega | (simp only [SZ] at *; omega)) only [↓PR, QR, Int.reduceBEq, Int.reduceBNe, Int.reduceLT, Int.reduceLE, Int.reduceGT, Int.reduceGE, Int.reduceNeg, (cells_of_heap q6).1, (cells_of_heap h6.1).1, ↓qidxM]
  have eB : Ext W (W.drew.alloc (Obj.cells (fieldCells twoF2 (.slice none 0 0) (.slice none 0 0)).toArray 28)) := eD.alloc _
  have o8 := heap_new W.drew (fieldCells twoF2 (.slice none 0 0) (.slice none 0 0)).toArray 28
  refine ⟨fun b hb hn _ => eB.block b hb, ?_⟩
  show opV _ (Builtin.append_ #[48, 48] 48 #[.slice (some ⟨bf6, 0, none⟩) 2 2, .slice (some ⟨W.drew.heap.size, 0, none⟩) 1 1]) _ (W.drew.alloc (Obj.cells (fieldCells twoF2 (.slice none 0 0) (.slice none 0 0)).toArray 28)) _
  have k6 := h6.go eB
  have hsW : (W.drew.alloc (Obj.cells (fieldCells twoF2 (.slice none 0 0) (.slice none 0 0)).toArray 28)).heap.size = W.heap.size + 1 := by simp only [World.size_alloc, World.size_drew]
  generalize (W.drew.alloc (Obj.cells (fieldCells twoF2 (.slice none 0 0) (.slice none 0 0)).toArray 28)) = W2 at eB o8 k6 hsW ⊢
  rw [World.size_drew] at o8 ⊢
  let c0 : Cs 15 := ⟨fieldCells twoF0 (.slice none 0 0) (.slice none 0 0), rfl⟩
  let c1 : Cs 15 := ⟨fieldCells twoF1 (.slice (some ⟨bt6, 0, none⟩) 1 1) (.slice none 0 0), rfl⟩
  let c2 : Cs 15 := ⟨fieldCells twoF2 (.slice none 0 0) (.slice none 0 0), rfl⟩
  have hown : OwnE W2 bf6 28 15 Subtype.val (.slice (some ⟨bf6, 0, none⟩) 2 2) [c0, c1] := ⟨rfl, .inr ⟨bf6, 2, _, rfl, Nat.le_refl _, k6.2.1, Nat.le_refl _, by decide, rfl, rfl⟩⟩
  refine op_appendE (l' := [c2]) Try.underlying48 ty28 rfl (by decide) (fun x => x.2) ?_ hown ?_ (by omega) (Nat.le_trans (Nat.mul_le_mul (Nat.le_refl 3) by28) (by decide)) (show 2 + 1 ≤ 140737488355328 by decide) ?_
  · intro x hx u hu
    simp only [List.mem_singleton] at hx
    subst hx
    simp only [c2, fieldCells, List.mem_cons, List.not_mem_nil, or_false] at hu
    rcases hu with rfl | rfl | rfl | rfl | rfl | rfl | rfl | rfl | rfl | rfl | rfl | rfl | rfl | rfl | rfl <;> rfl
  · intro j x hx
    cases j with
    | succ j => simp at hx
    | zero =>
      simp at hx; subst hx
      intro j v hv
      rw [(cells_of_heap o8).1]
      simpa using hv
  intro v' w' hO hg
  refine ⟨fun b hb hn _ => ?_, ?_⟩
  · rw [hg.block b (by omega) (by intro e; injection e with e; exact hn e)]; exact eB.block b hb
  have keep : ∀ b, b < W.heap.size → b ≠ bf6 → w'.heap[b]? = W.heap[b]? := fun b hb hn => by rw [hg.block b (by omega) (by intro e; injection e with e; exact hn e)]; exact eB.block b hb
  have eC : Ext w0 w' := (e.trans eB).grown hg (fun k hk => by simp only [Value.ownBlock, Option.some.injEq] at hk; omega)
  have g1 := h1.same (w' := w') fun b hb => keep b (by omega) (by omega)
  have g2 := h2.same (w' := w') fun b hb => keep b (by omega) (by omega)
  have g3 := h3.same (w' := w') fun b hb => keep b (by omega) (by omega)
  have g4 := h4.same (w' := w') fun b hb => keep b (by omega) (by omega)
  have g5 := h5.same (w' := w') fun b hb => keep b (by omega) (by omega)
  have gm6 := (keep bm6 (by omega) (by omega)).trans h6.1
  have gt6 := (keep bt6 (by omega) (by omega)).trans h6.2.2
  have r1 : DefAt w' p1 _ _ := (keep p1 (by omega) (by omega)).trans q1
  have r2 : DefAt w' p2 _ _ := (keep p2 (by omega) (by omega)).trans q2
  have r3 : DefAt w' p3 _ _ := (keep p3 (by omega) (by omega)).trans q3
  have r4 : DefAt w' p4 _ _ := (keep p4 (by omega) (by omega)).trans q4
  have r5 : DefAt w' p5 _ _ := (keep p5 (by omega) (by omega)).trans q5
  have r6 : DefAt w' p6 _ _ := (keep p6 (by omega) (by omega)).trans q6
  clear keep h1 h2 h3 h4 h5 h6 q1 q2 q3 q4 q5 q6 hown k6 hg o8 eB eD hsW
  have hv1 := (hO.slice (E := fun _ cs (x : Cs 15) => cs = x.1) (fun x => x.2) (fun _ _ => rfl)).oneCell
  unfold n_phrasebooklaw05_known_c16
  simp (disch := first | assumption | (simp only [ONE]; done) | rfl | (simp only [SZ]; done) | omega | (simp only [SZ] at *; omega)) only [↓PR, QR, Int.reduceBEq, Int.reduceBNe, Int.reduceLT, Int.reduceLE, Int.reduceGT, Int.reduceGE, Int.reduceNeg, ↓qidxM, (cells_of_heap gm6).1, (cells_of_heap gm6).2]
  have m6 := heap_set (o := 1) gm6 v'
  have t6 := (Only.setCell w' bm6 1 v' bt6 (by omega)).trans gt6
  have hO2 := hO.range.only (Only.setCell w' bm6 1 v') (.inr (.inr ⟨_, ⟨_, _, gm6⟩, (by decide : (50 : TypeId) ≠ 28)⟩))
  have d1 := g1.other (o := 1) (show bm6 ≠ bt1 by omega) (by omega) (by omega) v'
  have d2 := g2.other (o := 1) (show bm6 ≠ bt2 by omega) (by omega) (by omega) v'
  have d3 := g3.other (o := 1) (show bm6 ≠ bt3 by omega) (by omega) (by omega) v'
  have d4 := g4.other (o := 1) (show bm6 ≠ bt4 by omega) (by omega) (by omega) v'
  have d5 := g5.other (o := 1) (show bm6 ≠ bt5 by omega) (by omega) (by omega) v'
  have s1 : DefAt (w'.setCell ⟨bm6, 1, none⟩ v') p1 _ _ := (Only.setCell w' bm6 1 v' p1 (by omega)).trans r1
  have s2 : DefAt (w'.setCell ⟨bm6, 1, none⟩ v') p2 _ _ := (Only.setCell w' bm6 1 v' p2 (by omega)).trans r2
  have s3 : DefAt (w'.setCell ⟨bm6, 1, none⟩ v') p3 _ _ := (Only.setCell w' bm6 1 v' p3 (by omega)).trans r3
  have s4 : DefAt (w'.setCell ⟨bm6, 1, none⟩ v') p4 _ _ := (Only.setCell w' bm6 1 v' p4 (by omega)).trans r4
  have s5 : DefAt (w'.setCell ⟨bm6, 1, none⟩ v') p5 _ _ := (Only.setCell w' bm6 1 v' p5 (by omega)).trans r5
  have s6 : DefAt (w'.setCell ⟨bm6, 1, none⟩ v') p6 _ _ := (Only.setCell w' bm6 1 v' p6 (by omega)).trans r6
  have e3 : Ext w0 (w'.setCell ⟨bm6, 1, none⟩ v') := eC.setCell (show w0.heap.size ≤ bm6 by omega) _
  simp only [List.setIfInBounds_toArray, List.set_cons_zero, List.set_cons_succ] at m6
  generalize (w'.setCell ⟨bm6, 1, none⟩ v') = X at m6 t6 hO2 d1 d2 d3 d4 d5 s1 s2 s3 s4 s5 s6 e3 ⊢
  refine turnK_intro ?_
  have hF6 : FieldsOf X v' [twoF0, twoF1, twoF2] := hO2.1.reads ⟨rfl, fun k x cs hx hcs => by
    rcases k with _ | _ | _ | k
    · simp at hx hcs; subst hx hcs; exact ⟨_, _, rfl, SliceOf.nil _ _ _, SliceOf.nil _ _ _⟩
    · simp at hx hcs; subst hx hcs
      refine ⟨_, _, rfl, ⟨_, 1, rfl, by decide, by decide, fun _ => ⟨bt6, 0, rfl, fun k x hx => ?_⟩⟩, SliceOf.nil _ _ _⟩
      cases k with
      | succ k => simp [twoF1] at hx
      | zero =>
        simp [twoF1] at hx; subst hx
        exact ⟨[.string ⟨#[110]⟩, .int .i64 1], rfl, fun j v hv => by rw [(cells_of_heap t6).1]; simpa using hv, rfl⟩
    · simp at hx hcs; subst hx hcs; exact ⟨_, _, rfl, SliceOf.nil _ _ _, SliceOf.nil _ _ _⟩
    · simp at hx⟩
  have V6 : DefVal X (twoVal ⟨#[109]⟩ bm6) (twoD ⟨#[109]⟩ [twoF0, twoF1, twoF2]) := ⟨_, rfl, _, 1, rfl, by decide, by decide, fun _ => ⟨bm6, 0, rfl, fun k x hx => by
    cases k with
    | succ k => simp [twoD] at hx
    | zero =>
      simp [twoD] at hx; subst hx
      exact ⟨[.string ⟨#[109]⟩, v'], rfl, fun j v hv => by rw [(cells_of_heap m6).1]; simpa using hv, _, rfl, hF6⟩⟩⟩
  exact known_end e3 (d1.val ⟨rfl, rfl⟩ ⟨rfl, rfl⟩ _) (d2.val ⟨rfl, rfl⟩ ⟨rfl, rfl⟩ _) (d3.val ⟨rfl, rfl⟩ ⟨rfl, rfl⟩ _) (d4.val ⟨rfl, rfl⟩ ⟨rfl, rfl⟩ _) (d5.val ⟨rfl, rfl⟩ ⟨rfl, rfl⟩ _) V6 s1 s2 s3 s4 s5 s6
set_option maxHeartbeats 8000000 in
theorem known_ret (w0 : World) : Ret Try.prog 8 #[] w0 fun r w' => r = .bool true ∧ Ext w0 w' := by
  refine n_phrasebooklaw05_known_sound (R := retR _) ?_
  refine known_head w0 _ ?_
  intro w bt1 bf1 bm1 bt2 bf2 bm2 bt3 bf3 bm3 bt4 bf4 bm4 bt5 bf5 bm5 bt6 bf6 bm6 l1 l2 l3 l4 l5 l6 l7 l8 l9 l10 l11 l12 l13 l14 l15 l16 l17 l18 l19 e0 h1 h2 h3 h4 h5 h6
  have y2 : w.cell? ⟨bf2, 6, none⟩ = some (.int .i64 255) := by rw [(cells_of_heap h2.2.1).1]; rfl
  have y3 : w.cell? ⟨bf3, 22, none⟩ = some (.int .i64 0) := by rw [(cells_of_heap h3.2.1).1]; rfl
  have y4 : w.cell? ⟨bf4, 15, none⟩ = some (.string ⟨#[98]⟩) := by rw [(cells_of_heap h4.2.1).1]; rfl
  have y5 : w.cell? ⟨bf5, 17, none⟩ = some (.int .i64 0) := by rw [(cells_of_heap h5.2.1).1]; rfl
  unfold n_phrasebooklaw05_known_c18
  simp (disch := first | assumption | (simp only [ONE]; done) | rfl | (simp only [SZ]; done) | omega | (simp only [SZ] at *; omega)) only [↓PR, QR, Int.reduceBEq, Int.reduceBNe, Int.reduceLT, Int.reduceLE, Int.reduceGT, Int.reduceGE, Int.reduceNeg, ↓idxM, ↓idxF0, ↓idxF1, (cells_of_heap h2.1).1, y2, (cells_of_heap h2.2.1).2, (cells_of_heap h3.1).1, y3, (cells_of_heap h3.2.1).2, (cells_of_heap h4.1).1, y4, (cells_of_heap h4.2.1).2, (cells_of_heap h5.1).1, y5, (cells_of_heap h5.2.1).2]
  simp only [World.size_alloc]
  have eS : Ext w0 ((((w.setCell ⟨bf2, 6, none⟩ (.int .i64 256)).setCell ⟨bf3, 15 + 7, none⟩ (.int .i64 (-1))).setCell ⟨bf4, 15, none⟩ (.string ⟨#[110]⟩)).setCell ⟨bf5, 15 + 2, none⟩ (.int .i64 8)) :=
    (((e0.setCell (show w0.heap.size ≤ bf2 by omega) _).setCell (show w0.heap.size ≤ bf3 by omega) _).setCell (show w0.heap.size ≤ bf4 by omega) _).setCell (show w0.heap.size ≤ bf5 by omega) _
  have k1 := (((h1.other (o := 6) (show bf2 ≠ bt1 by omega) (by omega) (by omega) (.int .i64 256)).other (o := 15 + 7) (show bf3 ≠ bt1 by omega) (by omega) (by omega) (.int .i64 (-1))).other (o := 15) (show bf4 ≠ bt1 by omega) (by omega) (by omega) (.string ⟨#[110]⟩)).other (o := 15 + 2) (show bf5 ≠ bt1 by omega) (by omega) (by omega) (.int .i64 8)
  have k6 := (((h6.other (o := 6) (show bf2 ≠ bt6 by omega) (by omega) (by omega) (.int .i64 256)).other (o := 15 + 7) (show bf3 ≠ bt6 by omega) (by omega) (by omega) (.int .i64 (-1))).other (o := 15) (show bf4 ≠ bt6 by omega) (by omega) (by omega) (.string ⟨#[110]⟩)).other (o := 15 + 2) (show bf5 ≠ bt6 by omega) (by omega) (by omega) (.int .i64 8)
  have k2 := (((h2.turn (g0 := twoB) (g1 := twoF1) (o := 6) (by omega) (by omega) (.int .i64 256) rfl).other (o := 15 + 7) (show bf3 ≠ bt2 by omega) (by omega) (by omega) (.int .i64 (-1))).other (o := 15) (show bf4 ≠ bt2 by omega) (by omega) (by omega) (.string ⟨#[110]⟩)).other (o := 15 + 2) (show bf5 ≠ bt2 by omega) (by omega) (by omega) (.int .i64 8)
  have k3 := (((h3.other (o := 6) (show bf2 ≠ bt3 by omega) (by omega) (by omega) (.int .i64 256)).turn (g0 := twoF0) (g1 := twoC) (o := 15 + 7) (by omega) (by omega) (.int .i64 (-1)) rfl).other (o := 15) (show bf4 ≠ bt3 by omega) (by omega) (by omega) (.string ⟨#[110]⟩)).other (o := 15 + 2) (show bf5 ≠ bt3 by omega) (by omega) (by omega) (.int .i64 8)
  have k4 := (((h4.other (o := 6) (show bf2 ≠ bt4 by omega) (by omega) (by omega) (.int .i64 256)).other (o := 15 + 7) (show bf3 ≠ bt4 by omega) (by omega) (by omega) (.int .i64 (-1))).turn (g0 := twoF0) (g1 := twoE) (o := 15) (by omega) (by omega) (.string ⟨#[110]⟩) rfl).other (o := 15 + 2) (show bf5 ≠ bt4 by omega) (by omega) (by omega) (.int .i64 8)
  have k5 := (((h5.other (o := 6) (show bf2 ≠ bt5 by omega) (by omega) (by omega) (.int .i64 256)).other (o := 15 + 7) (show bf3 ≠ bt5 by omega) (by omega) (by omega) (.int .i64 (-1))).other (o := 15) (show bf4 ≠ bt5 by omega) (by omega) (by omega) (.string ⟨#[110]⟩)).turn (g0 := twoF0) (g1 := twoG) (o := 15 + 2) (by omega) (by omega) (.int .i64 8) rfl
  have hsz : ((((w.setCell ⟨bf2, 6, none⟩ (.int .i64 256)).setCell ⟨bf3, 15 + 7, none⟩ (.int .i64 (-1))).setCell ⟨bf4, 15, none⟩ (.string ⟨#[110]⟩)).setCell ⟨bf5, 15 + 2, none⟩ (.int .i64 8)).heap.size = w.heap.size := by simp only [World.size_setCell]
  generalize ((((w.setCell ⟨bf2, 6, none⟩ (.int .i64 256)).setCell ⟨bf3, 15 + 7, none⟩ (.int .i64 (-1))).setCell ⟨bf4, 15, none⟩ (.string ⟨#[110]⟩)).setCell ⟨bf5, 15 + 2, none⟩ (.int .i64 8)) = w1 at eS k1 k2 k3 k4 k5 k6 hsz ⊢
  clear h1 h2 h3 h4 h5 h6 y2 y3 y4 y5 e0
  rw [← hsz] at l19 ⊢
  have eA : Ext w1 ((((((w1.alloc (Obj.cells #[.string ⟨#[100]⟩, .slice (some ⟨bm1, 0, none⟩) 1 1, .string ⟨#[120]⟩] 44)).alloc (Obj.cells #[.string ⟨#[100]⟩, .slice (some ⟨bm2, 0, none⟩) 1 1, .string ⟨#[109]⟩] 44)).alloc (Obj.cells #[.string ⟨#[100]⟩, .slice (some ⟨bm3, 0, none⟩) 1 1, .string ⟨#[109]⟩] 44)).alloc (Obj.cells #[.string ⟨#[100]⟩, .slice (some ⟨bm4, 0, none⟩) 1 1, .string ⟨#[109]⟩] 44)).alloc (Obj.cells #[.string ⟨#[100]⟩, .slice (some ⟨bm5, 0, none⟩) 1 1, .string ⟨#[109]⟩] 44)).alloc (Obj.cells #[.string ⟨#[100]⟩, .slice (some ⟨bm6, 0, none⟩) 1 1, .string ⟨#[109]⟩] 44)) := ee
  generalize hW : ((((((w1.alloc (Obj.cells #[.string ⟨#[100]⟩, .slice (some ⟨bm1, 0, none⟩) 1 1, .string ⟨#[120]⟩] 44)).alloc (Obj.cells #[.string ⟨#[100]⟩, .slice (some ⟨bm2, 0, none⟩) 1 1, .string ⟨#[109]⟩] 44)).alloc (Obj.cells #[.string ⟨#[100]⟩, .slice (some ⟨bm3, 0, none⟩) 1 1, .string ⟨#[109]⟩] 44)).alloc (Obj.cells #[.string ⟨#[100]⟩, .slice (some ⟨bm4, 0, none⟩) 1 1, .string ⟨#[109]⟩] 44)).alloc (Obj.cells #[.string ⟨#[100]⟩, .slice (some ⟨bm5, 0, none⟩) 1 1, .string ⟨#[109]⟩] 44)).alloc (Obj.cells #[.string ⟨#[100]⟩, .slice (some ⟨bm6, 0, none⟩) 1 1, .string ⟨#[109]⟩] 44)) = W at eA ⊢
  have p1 : DefAt W w1.heap.size ⟨#[120]⟩ bm1 := by unfold DefAt; rw [← hW]; simp (disch := first | assumption | (simp only [ONE]; done) | rfl | (simp only [SZ]; done) | omega | (simp only [SZ] at *; omega)) only [↓PR, QR, Int.reduceBEq, Int.reduceBNe, Int.reduceLT, Int.reduceLE, Int.reduceGT, Int.reduceGE, Int.reduceNeg]
  have p2 : DefAt W (w1.heap.size + 1) ⟨#[109]⟩ bm2 := by unfold DefAt; rw [← hW]; simp (disch := first | assumption | (simp only [ONE]; done) | rfl | (simp only [SZ]; done) | omega | (simp only [SZ] at *; omega)) only [↓PR, QR, Int.reduceBEq, Int.reduceBNe, Int.reduceLT, Int.reduceLE, Int.reduceGT, Int.reduceGE, Int.reduceNeg]
  have p3 : DefAt W (w1.heap.size + 1 + 1) ⟨#[109]⟩ bm3 := by unfold DefAt; rw [← hW]; simp (disch := first | assumption | (simp only [ONE]; done) | rfl | (simp only [SZ]; done) | omega | (simp only [SZ] at *; omega)) only [↓PR, QR, Int.reduceBEq, Int.reduceBNe, Int.reduceLT, Int.reduceLE, Int.reduceGT, Int.reduceGE, Int.reduceNeg]
  have p4 : DefAt W (w1.heap.size + 1 + 1 + 1) ⟨#[109]⟩ bm4 := by unfold DefAt; rw [← hW]; simp (disch := first | assumption | (simp only [ONE]; done) | rfl | (simp only [SZ]; done) | omega | (simp only [SZ] at *; omega)) only [↓PR, QR, Int.reduceBEq, Int.reduceBNe, Int.reduceLT, Int.reduceLE, Int.reduceGT, Int.reduceGE, Int.reduceNeg]
  have p5 : DefAt W (w1.heap.size + 1 + 1 + 1 + 1) ⟨#[109]⟩ bm5 := by unfold DefAt; rw [← hW]; simp (disch := first | assumption | (simp only [ONE]; done) | rfl | (simp only [SZ]; done) | omega | (simp only [SZ] at *; omega)) only [↓PR, QR, Int.reduceBEq, Int.reduceBNe, Int.reduceLT, Int.reduceLE, Int.reduceGT, Int.reduceGE, Int.reduceNeg]
  have p6 : DefAt W (w1.heap.size + 1 + 1 + 1 + 1 + 1) ⟨#[109]⟩ bm6 := by unfold DefAt; rw [← hW]; simp (disch := first | assumption | (simp only [ONE]; done) | rfl | (simp only [SZ]; done) | omega | (simp only [SZ] at *; omega)) only [↓PR, QR, Int.reduceBEq, Int.reduceBNe, Int.reduceLT, Int.reduceLE, Int.reduceGT, Int.reduceGE, Int.reduceNeg]
  have hWs : W.heap.size = w1.heap.size + 1 + 1 + 1 + 1 + 1 + 1 := by rw [← hW]; simp only [World.size_alloc]
  clear hW
  exact known_mid (eS.trans eA) (k1.go eA) (k2.go eA) (k3.go eA) (k4.go eA) (k5.go eA) (k6.go eA) p1 p2 p3 p4 p5 p6 l1 l2 l3 l4 l5 l6 l7 l8 l9 l10 l11 l12 l13 l14 l15 l16 l17 l18 (by omega) (by omega) (by omega) (by omega) (by omega) (by omega) (by omega)
end Go.Proofs.Ytiajhbbmgglmlaa
namespace Go.Sw
open Go.ChangeShapes Go.WideShapes Go.RowKit Go.ChangeAt Go.Deep
theorem list_of {α : Type} {p : Nat → α → Prop} : ∀ (n : Nat), (∀ i, i < n → ∃ x, p i x) → ∃ l : List α, l.length = n ∧ ∀ k x, l[k]? = some x → p k x
  | 0, _ => ⟨[], rfl, fun k x h => by simp at h⟩
  | n + 1, h => by
    obtain ⟨l, hl, hp⟩ := list_of n (fun i hi => h i (by omega))
    obtain ⟨x, hx⟩ := h n (by omega)
    refine ⟨l ++ [x], by simp [hl], fun k y hy => ?_⟩
    rw [List.getElem?_append] at hy
    split at hy
    · exact hp k y hy
    · have hk : k = n := by
        have := (List.getElem?_eq_some_iff.1 hy).1
        simp at this
        omega
      subst hk
      simp [hl] at hy
      subst hy
      exact hx
section
variable {H : Type} {enc : TypeId × Value → H} {P : Program} {w : World} {base : Nat} {spare : Nat → Bool} {held : Bool}
theorem weightsAll_mem {e : TypeId} {m : Nat} {d : DataW H} : ∀ {l : List (DataW H)}, d ∈ l → m ∈ d.weights P e → m ∈ DataW.weightsAll P e l
  | [], h, _ => by cases h
  | a :: l, h, hm => by
    rw [DataW.weightsAll, List.mem_append]
    rcases List.mem_cons.1 h with rfl | h
    · exact .inl hm
    · exact .inr (weightsAll_mem h hm)
def Reached (P : Program) (t : TypeId) (d : DataW H) : Prop := ∀ m ∈ d.weights P t, m ≤ reachBytes
theorem reached_of {ts : List TypeId} {ds : List (DataW H)} (h : (DataW.weightsEach P ts ds).all (· ≤ reachBytes) = true) {j : Nat} {t : TypeId} {d : DataW H} (ht : ts[j]? = some t) (hd : ds[j]? = some d) : Reached P t d := fun m hm => by
  have := List.all_eq_true.1 h _ (DataW.weights_mem_each ht hd m hm)
  simpa using this
theorem slice_of_trod {α : Type} {E : World → List Value → α → Prop} {Q : α → Prop} {t e : TypeId} {n fuel : Nat} {cs : List Value} {x : DataW H × List MemPlace} (ht : P.underlying t = some (.slice e)) (hn : P.cellsOf e = n) (hb1 : 1 ≤ P.bytesOf e) (h0 : 0 < n)
    (hE : ∀ m cs' y, DataW.trod enc P w base spare held m e cs' = some y → Reached P e y.1 → ∃ x, E w cs' x ∧ Q x) (h : DataW.trod enc P w base spare held fuel t cs = some x) (hr : Reached P t x.1) : ∃ v l, cs = [v] ∧ SliceOf w n E v l ∧ (∀ x ∈ l, Q x) ∧ l.length ≤ 140737488355328 := by
  rcases open_slice ht h with ⟨rfl, _⟩ | ⟨a, len, cap, m, k, D, Pl, rfl, hb, hl, hm, hmm, hx, hel⟩
  · exact ⟨_, [], rfl, SliceOf.nil _ _ _, fun x hx => by (cases hx), Nat.zero_le _⟩
  · have hlm : len ≤ m := by rw [hmm]; split <;> omega
    subst hx
    have hw0 := hr ((len + (m - len)) * P.bytesOf e) (by simp only [DataW.weights, ht]; simp)
    have hlen : len ≤ 140737488355328 := by
      have : len * 1 ≤ (len + (m - len)) * P.bytesOf e := Nat.mul_le_mul (by omega) hb1
      simp only [reachBytes] at hw0
      omega
    have hD : ∀ i, i < len → Reached P e (D i) := fun i hi q hq => hr q (by
      simp only [DataW.weights, ht, List.mem_cons, List.mem_append]
      exact .inr (.inl (weightsAll_mem (List.mem_map.2 ⟨i, List.mem_range.2 hi, rfl⟩) hq)))
    obtain ⟨l, hll, hp⟩ := list_of (p := fun i (x : α) => ∃ cs', w.cells? base (a.add (i * n)) n = some cs' ∧ E w cs' x ∧ Q x) len (fun i hi => by
      obtain ⟨cs', h1, h2⟩ := hel i (by omega)
      rw [hn] at h1
      obtain ⟨x, hx⟩ := hE _ _ _ h2 (hD i hi)
      exact ⟨x, cs', h1, hx⟩)
    refine ⟨_, l, rfl, ⟨some a, cap, by rw [hll], by rw [hll]; exact hl, by simp only [maxLen] at hm; omega, fun hne => ?_⟩, fun x hx => ?_, by omega⟩
    · obtain ⟨b, o, spot⟩ := a
      have hspot : spot = none := by
        have : 0 < l.length := List.length_pos_iff.2 hne
        obtain ⟨y, hy⟩ := getElem?_lt this
        obtain ⟨cs', h1, _⟩ := hp 0 y hy
        obtain ⟨_, h2, h3⟩ := World.cells?_some h1
        have h4 := h3 0 h0
        rw [List.getElem?_eq_getElem (by omega)] at h4
        simpa [Addr.add] using World.cell?_spot h4
      subst hspot
      refine ⟨b, o, rfl, fun k x hx => ?_⟩
      obtain ⟨cs', h1, h2, _⟩ := hp k x hx
      obtain ⟨_, h3, h4⟩ := World.cells?_some h1
      refine ⟨cs', h3, fun j v hv => ?_, h2⟩
      have h5 := h4 j (by have := (List.getElem?_eq_some_iff.1 hv).1; omega)
      rw [hv] at h5
      simpa [Addr.add_lit] using h5
    · obtain ⟨k, hk⟩ := List.getElem?_of_mem hx
      obtain ⟨_, _, _, hq⟩ := hp k x hk
      exact hq
theorem struct_of_trod {fs : Array Field} {t : TypeId} {n fuel : Nat} {cs : List Value} {x : DataW H × List MemPlace} (ht : P.underlying t = some (.struct fs)) (hn : P.cellsOf t = n) (h : DataW.trod enc P w base spare held fuel t cs = some x) (hr : Reached P t x.1) :
    cs.length = n ∧ ∃ m, ∀ (i : Nat) (ty off k : Nat), (fs[i]?).map (fun f => (f.type, f.offset)) = some (ty, off) → P.cellsOf ty = k → ∃ y, DataW.trod enc P w base spare held m ty ((cs.drop off).take k) = some y ∧ Reached P ty y.1 := by
  obtain ⟨xs, m, _, rfl, hl, hlen, hf⟩ := DataW.trod_struct ht h
  refine ⟨hl.trans hn, m, fun i ty off k hi hk => ?_⟩
  obtain ⟨f, hfi, he⟩ := Option.map_eq_some_iff.1 hi
  injection he with h1 h2
  subst h1 h2 hk
  have hil : i < xs.length := by rw [hlen]; exact (Array.getElem?_eq_some_iff.1 hfi).1
  refine ⟨xs[i], (hf i f hfi).trans (List.getElem?_eq_getElem hil), fun q hq => hr q ?_⟩
  simp only [DataW.weights, ht]
  refine DataW.weights_mem_each (j := i) (t := f.type) (d := xs[i].1) ?_ ?_ q hq
  · rw [List.getElem?_map, Array.getElem?_toList, hfi]; rfl
  · rw [List.getElem?_map, List.getElem?_eq_getElem hil]; rfl
theorem open_str {r : Reach} {b0 : Nat} {t : TypeId} {v : Value} {d : DataW H} {ps : List MemPlace} (ht : P.underlying t = some .string) (hval : Value.okWide P w r b0 t v) (hd : DataW.Trod enc P w base spare held t v d ps) : ∃ s : ByteArray, v = .string s ∧ d = .lit (.string s.data.toList) := by
  obtain ⟨s, rfl⟩ := okWide_string ht hval
  obtain ⟨fuel, hf⟩ := hd
  obtain ⟨s', h, hx, hs⟩ := DataW.trod_string ht hf
  simp [Value.cells] at h
  simp only [Prod.mk.injEq] at hx
  exact ⟨s, rfl, by rw [hx.1, h]⟩
theorem trodAll_stays (hl : laidOutB P = true) {W W' : World} (he : Ext W W') : ∀ {ts : List TypeId} {vs : List Value} {ds : List (DataW H)} {ps : List MemPlace}, (∀ t ∈ ts, P.readableRec t = true ∧ t < P.types.size) → (∀ x ∈ ps, x.block < W.heap.size) →
    DataW.TrodAll enc P W 0 (fun _ => true) true ts vs ds ps → DataW.TrodAll enc P W' 0 (fun b => decide (b < W.heap.size)) true ts vs ds ps
  | [], _, _, _, _, _, h => by obtain ⟨rfl, rfl, rfl⟩ := trodAll_nil h; exact trodAll_mk0
  | t :: ts, _, _, _, hr, hlt, h => by
    obtain ⟨v, vs1, d, ds1, a, b, rfl, rfl, rfl, h1, h2⟩ := trodAll_cons h
    refine ⟨a, b, ?_, trodAll_stays hl he (fun t ht => hr t (List.mem_cons_of_mem _ ht)) (fun x hx => hlt x (List.mem_append_right _ hx)) h2, rfl⟩
    exact Below.trod hl (hr t (List.mem_cons_self ..)).1 (hr t (List.mem_cons_self ..)).2 h1 ⟨he.os, he.tape, he.output, he.size, he.block⟩ (fun x hx => hlt x (List.mem_append_left _ hx))
theorem law_post {f : Func} {s : ChangeSpec} {W W' : World} {args : Array Value} {ds gs : List (DataW H)} {before : List MemPlace} {tb : TypeId} (hl : laidOutB P = true) (hr : ∀ t ∈ f.params.toList, P.readableRec t = true ∧ t < P.types.size) (hs : s.vars = [])
    (hW : DataW.Whole enc P f.params.toList s.vars false W args.toList ds gs before) (he : Ext W W') (hres : f.resultTypes = #[tb]) (htb : P.underlying tb = some .bool) (hfn : (s.fn H ds).results = [.lit (.bool true)]) (hargs : (s.fn H ds).args = ds) (hvars : (s.fn H ds).vars = []) :
    s.post enc P f false true false false W args (.bool true) W' := by
  have hW' := hW
  obtain ⟨p, q, hA, hV, rfl, _, _⟩ := hW
  rw [hs] at hV
  obtain ⟨rfl, rfl⟩ := trodVars_none hV
  have hlt : ∀ x ∈ p, x.block < W.heap.size := fun x hx => hW'.lt x (by simpa using hx)
  rw [List.append_nil] at hW'
  refine ⟨ds, [], p, [], p, [], hW', ?_, ?_, ?_, Below.frame ⟨he.os, he.tape, he.output, he.size, he.block⟩ _, fun h => by cases h⟩
  · rw [List.append_nil, hfn, hres]
    exact trodAll_mk1 (shut_bool htb _)
  · rw [List.append_nil, hargs]
    exact trodAll_stays hl he hr hlt hA
  · rw [List.append_nil, hvars, hs]
    exact rfl
end
end Go.Sw
namespace Go.Proofs.Ytiajhbbmgglmlaa
open Sw
open Go.ChangeShapes Go.WideShapes Go.RowKit Go.ChangeAt Go.Deep
set_option maxRecDepth 100000
theorem cellsTerm : Try.prog.cellsOf 77 = 2 := by kernel_rfl
theorem cellsCase : Try.prog.cellsOf 62 = 3 := by kernel_rfl
theorem cellsSize : Try.prog.cellsOf 25 = 2 := by kernel_rfl
theorem cellsField : Try.prog.cellsOf 28 = 15 := by kernel_rfl
theorem cellsMessage : Try.prog.cellsOf 50 = 2 := by kernel_rfl
theorem cellsDefinition : Try.prog.cellsOf 44 = 3 := by kernel_rfl
theorem cellsString : Try.prog.cellsOf 9 = 1 := by kernel_rfl
theorem cellsInt : Try.prog.cellsOf 3 = 1 := by kernel_rfl
theorem cellsBool : Try.prog.cellsOf 4 = 1 := by kernel_rfl
theorem cellsKind : Try.prog.cellsOf 22 = 1 := by kernel_rfl
theorem cellsTerms : Try.prog.cellsOf 23 = 1 := by kernel_rfl
theorem cellsCases : Try.prog.cellsOf 26 = 1 := by kernel_rfl
theorem cellsFields : Try.prog.cellsOf 48 = 1 := by kernel_rfl
theorem bytesTerm : 1 ≤ Try.prog.bytesOf 77 := Nat.le_of_ble_eq_true (by kernel_rfl)
theorem bytesCase : 1 ≤ Try.prog.bytesOf 62 := Nat.le_of_ble_eq_true (by kernel_rfl)
theorem bytesField : 1 ≤ Try.prog.bytesOf 28 := Nat.le_of_ble_eq_true (by kernel_rfl)
theorem bytesMessage : 1 ≤ Try.prog.bytesOf 50 := Nat.le_of_ble_eq_true (by kernel_rfl)
def FieldSm (f : FieldD) : Prop := f.terms.length ≤ 140737488355328 ∧ f.cases.length ≤ 140737488355328 ∧ ∀ c ∈ f.cases, c.of.size ≤ 140737488355328
def MsgSm (m : MsgD) : Prop := m.fields.length ≤ 140737488355328 ∧ ∀ f ∈ m.fields, FieldSm f
def DefSm (d : DefD) : Prop := d.msgs.length ≤ 140737488355328 ∧ ∀ m ∈ d.msgs, MsgSm m
theorem cellsMessages : Try.prog.cellsOf 42 = 1 := by kernel_rfl
section
variable {H : Type} {enc : TypeId × Value → H} {w : World} {base : Nat} {spare : Nat → Bool} {held : Bool}
theorem term_of {m : Nat} {cs : List Value} {y : DataW H × List MemPlace} (h : DataW.trod enc Try.prog w base spare held m 77 cs = some y) (hr : Reached Try.prog 77 y.1) : ∃ x, ETerm w cs x := by
  obtain ⟨hl, n, hf⟩ := struct_of_trod Try.underlying77 cellsTerm h hr
  obtain ⟨y0, h0, r0⟩ := hf 0 9 0 1 rfl cellsString
  obtain ⟨y1, h1, r1⟩ := hf 1 3 1 1 rfl cellsInt
  match cs, hl with
  | [c0, c1], _ =>
    obtain ⟨s, e0, _⟩ := DataW.trod_string Try.underlying9 h0
    obtain ⟨k, e1, _⟩ := DataW.trod_int Try.underlying3 h1
    simp at e0 e1
    subst e0 e1
    exact ⟨⟨s, k⟩, rfl⟩
theorem case_of {m : Nat} {cs : List Value} {y : DataW H × List MemPlace} (h : DataW.trod enc Try.prog w base spare held m 62 cs = some y) (hr : Reached Try.prog 62 y.1) : ∃ x, ECase w cs x ∧ x.of.size ≤ 140737488355328 := by
  obtain ⟨hl, n, hf⟩ := struct_of_trod Try.underlying62 cellsCase h hr
  obtain ⟨y0, h0, r0⟩ := hf 0 3 0 1 rfl cellsInt
  obtain ⟨y1, h1, r1⟩ := hf 1 3 1 1 rfl cellsInt
  obtain ⟨y2, h2, r2⟩ := hf 2 9 2 1 rfl cellsString
  match cs, hl with
  | [c0, c1, c2], _ =>
    obtain ⟨a, e0, _⟩ := DataW.trod_int Try.underlying3 h0
    obtain ⟨b, e1, _⟩ := DataW.trod_int Try.underlying3 h1
    obtain ⟨s, e2, e3, _⟩ := DataW.trod_string Try.underlying9 h2
    simp at e0 e1 e2
    subst e0 e1 e2
    refine ⟨⟨a, b, s⟩, rfl, ?_⟩
    have := r2 s.data.toList.length (by rw [e3]; exact List.mem_singleton.2 rfl)
    simp only [reachBytes] at this
    have h4 : s.size = s.data.toList.length := Array.length_toList.symm
    show s.size ≤ _
    omega
theorem size_of {m : Nat} {cs : List Value} {y : DataW H × List MemPlace} (h : DataW.trod enc Try.prog w base spare held m 25 cs = some y) (hr : Reached Try.prog 25 y.1) : ∃ b tv ts, cs = [.int .i64 b, tv] ∧ TermsOf w tv ts ∧ ts.length ≤ 140737488355328 := by
  obtain ⟨hl, n, hf⟩ := struct_of_trod Try.underlying25 cellsSize h hr
  obtain ⟨y0, h0, r0⟩ := hf 0 3 0 1 rfl cellsInt
  obtain ⟨y1, h1, r1⟩ := hf 1 23 1 1 rfl cellsTerms
  match cs, hl with
  | [c0, c1], _ =>
    obtain ⟨a, e0, _⟩ := DataW.trod_int Try.underlying3 h0
    obtain ⟨v, l, e1, hS, _, hL⟩ := slice_of_trod (E := ETerm) (Q := fun _ => True) Try.underlying23 cellsTerm bytesTerm (by decide) (fun _ _ _ h hr => let ⟨x, hx⟩ := term_of h hr; ⟨x, hx, trivial⟩) h1 r1
    simp at e0 e1
    subst e0 e1
    exact ⟨a, _, l, rfl, hS, hL⟩
theorem field_of {m : Nat} {cs : List Value} {y : DataW H × List MemPlace} (h : DataW.trod enc Try.prog w base spare held m 28 cs = some y) (hr : Reached Try.prog 28 y.1) : ∃ x, EField w cs x ∧ FieldSm x := by
  obtain ⟨hl, n, hf⟩ := struct_of_trod Try.underlying28 cellsField h hr
  obtain ⟨y0, h0, r0⟩ := hf 0 9 0 1 rfl cellsString
  obtain ⟨y1, h1, r1⟩ := hf 1 22 1 1 rfl cellsKind
  obtain ⟨y2, h2, r2⟩ := hf 2 3 2 1 rfl cellsInt
  obtain ⟨y3, h3, r3⟩ := hf 3 4 3 1 rfl cellsBool
  obtain ⟨y4, h4, r4⟩ := hf 4 4 4 1 rfl cellsBool
  obtain ⟨y5, h5, r5⟩ := hf 5 3 5 1 rfl cellsInt
  obtain ⟨y6, h6, r6⟩ := hf 6 3 6 1 rfl cellsInt
  obtain ⟨y7, h7, r7⟩ := hf 7 25 7 2 rfl cellsSize
  obtain ⟨y8, h8, r8⟩ := hf 8 9 9 1 rfl cellsString
  obtain ⟨y9, h9, r9⟩ := hf 9 9 10 1 rfl cellsString
  obtain ⟨y10, h10, r10⟩ := hf 10 9 11 1 rfl cellsString
  obtain ⟨y11, h11, r11⟩ := hf 11 26 12 1 rfl cellsCases
  obtain ⟨y12, h12, r12⟩ := hf 12 3 13 1 rfl cellsInt
  obtain ⟨y13, h13, r13⟩ := hf 13 3 14 1 rfl cellsInt
  match cs, hl with
  | [c0, c1, c2, c3, c4, c5, c6, c7, c8, c9, c10, c11, c12, c13, c14], _ =>
    obtain ⟨x0, e0, _⟩ := DataW.trod_string Try.underlying9 h0
    obtain ⟨x1, e1, _⟩ := DataW.trod_int Try.underlying22 h1
    obtain ⟨x2, e2, _⟩ := DataW.trod_int Try.underlying3 h2
    obtain ⟨x3, e3, _⟩ := DataW.trod_bool Try.underlying4 h3
    obtain ⟨x4, e4, _⟩ := DataW.trod_bool Try.underlying4 h4
    obtain ⟨x5, e5, _⟩ := DataW.trod_int Try.underlying3 h5
    obtain ⟨x6, e6, _⟩ := DataW.trod_int Try.underlying3 h6
    obtain ⟨x7, tv, ts, e7, hT, hTl⟩ := size_of h7 r7
    obtain ⟨x9, e9, _⟩ := DataW.trod_string Try.underlying9 h8
    obtain ⟨x10, e10, _⟩ := DataW.trod_string Try.underlying9 h9
    obtain ⟨x11, e11, _⟩ := DataW.trod_string Try.underlying9 h10
    obtain ⟨cv, l, e12, hC, hCq, hCl⟩ := slice_of_trod (E := ECase) (Q := fun c => c.of.size ≤ 140737488355328) Try.underlying26 cellsCase bytesCase (by decide) (fun _ _ _ h hr => case_of h hr) h11 r11
    obtain ⟨x13, e13, _⟩ := DataW.trod_int Try.underlying3 h12
    obtain ⟨x14, e14, _⟩ := DataW.trod_int Try.underlying3 h13
    simp at e0 e1 e2 e3 e4 e5 e6 e7 e9 e10 e11 e12 e13 e14
    obtain ⟨e7, e8⟩ := e7
    subst e0 e1 e2 e3 e4 e5 e6 e7 e8 e9 e10 e11 e12 e13 e14
    exact ⟨⟨x0, x1, x2, x3, x4, x5, x6, x7, ts, x9, x10, x11, l, x13, x14⟩, ⟨_, _, rfl, hT, hC⟩, hTl, hCl, hCq⟩
theorem msg_of {m : Nat} {cs : List Value} {y : DataW H × List MemPlace} (h : DataW.trod enc Try.prog w base spare held m 50 cs = some y) (hr : Reached Try.prog 50 y.1) : ∃ x, EMsg w cs x ∧ MsgSm x := by
  obtain ⟨hl, n, hf⟩ := struct_of_trod Try.underlying50 cellsMessage h hr
  obtain ⟨y0, h0, r0⟩ := hf 0 9 0 1 rfl cellsString
  obtain ⟨y1, h1, r1⟩ := hf 1 48 1 1 rfl cellsFields
  match cs, hl with
  | [c0, c1], _ =>
    obtain ⟨a, e0, _⟩ := DataW.trod_string Try.underlying9 h0
    obtain ⟨v, l, e1, hS, hQ, hL⟩ := slice_of_trod (E := EField) (Q := FieldSm) Try.underlying48 cellsField bytesField (by decide) (fun _ _ _ h hr => field_of h hr) h1 r1
    simp at e0 e1
    subst e0 e1
    exact ⟨⟨a, l⟩, ⟨_, rfl, hS⟩, hL, hQ⟩
theorem def_of {m : Nat} {cs : List Value} {y : DataW H × List MemPlace} (h : DataW.trod enc Try.prog w base spare held m 44 cs = some y) (hr : Reached Try.prog 44 y.1) : ∃ d mv, cs = defCells d mv ∧ MsgsOf w mv d.msgs ∧ DefSm d := by
  obtain ⟨hl, n, hf⟩ := struct_of_trod Try.underlying44 cellsDefinition h hr
  obtain ⟨y0, h0, r0⟩ := hf 0 9 0 1 rfl cellsString
  obtain ⟨y1, h1, r1⟩ := hf 1 42 1 1 rfl cellsMessages
  obtain ⟨y2, h2, r2⟩ := hf 2 9 2 1 rfl cellsString
  match cs, hl with
  | [c0, c1, c2], _ =>
    obtain ⟨a, e0, _⟩ := DataW.trod_string Try.underlying9 h0
    obtain ⟨v, l, e1, hS, hQ, hL⟩ := slice_of_trod (E := EMsg) (Q := MsgSm) Try.underlying42 cellsMessage bytesMessage (by decide) (fun _ _ _ h hr => msg_of h hr) h1 r1
    obtain ⟨b, e2, _⟩ := DataW.trod_string Try.underlying9 h2
    simp at e0 e1 e2
    subst e0 e1 e2
    exact ⟨⟨a, l, b⟩, _, rfl, hS, hL, hQ⟩
theorem def_val {r : Reach} {b0 : Nat} {v : Value} {d : DataW H} {ps : List MemPlace} (hval : Value.okWide Try.prog w r b0 44 v) (h : DataW.Trod enc Try.prog w base spare held 44 v d ps) (hr : Reached Try.prog 44 d) : ∃ f, DefVal w v f ∧ DefSm f := by
  obtain ⟨cs, rfl, _⟩ := okWide_struct Try.underlying44 hval
  obtain ⟨fuel, hf⟩ := h
  obtain ⟨f, tv, h1, h2, hs⟩ := def_of hf hr
  exact ⟨f, ⟨tv, congrArg Value.agg (by rw [← h1, cells_agg]), h2⟩, hs⟩
end
end Go.Proofs.Ytiajhbbmgglmlaa
namespace Go.Proofs.Ytiajhbbmgglmlaa
open Sw
open Go.RowKit (intOf Below)
set_option maxRecDepth 100000
def sumF (l : List MsgD) : Nat := (l.map fun m => m.fields.length).sum
def okF (f : FieldD) : Prop := f.cases.length ≤ 50 ∧ f.terms.length ≤ 10
def fitsP (d : DefD) : Prop := d.msgs.length ≤ 70 ∧ sumF d.msgs ≤ 400 ∧ ∀ m ∈ d.msgs, ∀ f ∈ m.fields, okF f
theorem sumF_take {l : List MsgD} {k : Nat} {x : MsgD} (hx : l[k]? = some x) : sumF (l.take (k + 1)) = sumF (l.take k) + x.fields.length := by
  rw [take_snoc hx]; simp [sumF]
theorem le_sumF {l : List MsgD} {m : MsgD} (h : m ∈ l) : m.fields.length ≤ sumF l := by
  unfold sumF
  induction l with
  | nil => cases h
  | cons a l ih =>
    rcases List.mem_cons.1 h with rfl | h
    · simp
    · have := ih h; simp at this ⊢; omega
theorem forall_take {α : Type} {p : α → Prop} {l : List α} {k : Nat} {x : α} (h : ∀ y ∈ l.take k, p y) (hx : l[k]? = some x) (hp : p x) : ∀ y ∈ l.take (k + 1), p y := by
  rw [take_snoc hx]
  intro y hy
  rcases List.mem_append.1 hy with hy | hy
  · exact h y hy
  · simp only [List.mem_singleton] at hy; subst hy; exact hp
theorem fits_ret (w0 : World) (v : Value) (d : DefD) (hd : DefVal w0 v d) (hs : DefSm d) : Ret Try.prog 17 #[v] w0 fun r w' => ∃ b, r = .bool b ∧ (b = true → fitsP d) ∧ Ext w0 w' := by
  obtain ⟨mv, rfl, hM⟩ := hd
  obtain ⟨A, c, rfl, hlc, hcm, hlm, hel⟩ := SliceOf.open hM
  refine n_phrasebooklaw05_fits_sound (R := retR _) ?_; unfold n_phrasebooklaw05_fits
  simp (disch := first | assumption | (simp only [ONE]; done) | rfl | (simp only [SZ]; done) | omega | (simp only [SZ] at *; omega)) only [↓PR, QR, Int.reduceBEq, Int.reduceBNe, Int.reduceLT, Int.reduceLE, Int.reduceGT, Int.reduceGE, Int.reduceNeg]
  have hBW := ElemAt.new (w := w0) (defCells d (.slice A d.msgs.length c)) (44)
  have eW : Ext w0 (w0.alloc (Obj.cells (List.toArray (defCells d (.slice A d.msgs.length c))) (44))) := (Ext.refl _).alloc _
  generalize (w0.alloc (Obj.cells (List.toArray (defCells d (.slice A d.msgs.length c))) (44))) = W at hBW eW ⊢
  refine loop2_intro (fun a0 a1 w => ∃ (k : Nat) , a0 = .int .i64 (sumF (d.msgs.take k) : Nat) ∧ a1 = .int .i64 (k : Int) ∧ k ≤ d.msgs.length ∧ Ext W w ∧ sumF (d.msgs.take k) ≤ 400 ∧ ∀ m ∈ d.msgs.take k, ∀ f ∈ m.fields, okF f) (fun a0 a1 _ => d.msgs.length - (intOf a1).toNat) ⟨0, rfl, rfl, Nat.zero_le _, ee, ⟨by simp [sumF], by simp⟩⟩ ?_
  rintro _ _ w ⟨k, rfl, rfl, hk, e, hI⟩
  have se := e.size
  rcases drop_cases hk with ⟨x, hx, hd, hlt, hdec⟩ | ⟨hk, hd, hdec⟩
  · obtain ⟨h400, hok⟩ := hI
    obtain ⟨b, o, cs, rfl, hl, hA, fv, rfl, hF⟩ := hel k x hx
    obtain ⟨A2, c2, rfl, hlc2, hcm2, hlm2, hel2⟩ := SliceOf.open hF
    have hxm := List.mem_of_getElem? hx
    have hsx := hs.2 x hxm
    have hx1 := hsx.1
    have e' := eW.trans e
    unfold n_phrasebooklaw05_fits_c5
    by_cases hk70 : k ≤ 70
    · have d1 : decide ((k : Int) ≤ 70) = true := by simp; omega
      simp (disch := first | assumption | (simp only [ONE]; done) | rfl | (simp only [SZ]; done) | omega | (simp only [SZ] at *; omega)) only [↓PR, QR, Int.reduceBEq, Int.reduceBNe, Int.reduceLT, Int.reduceLE, Int.reduceGT, Int.reduceGE, Int.reduceNeg, hBW.c3, hdec, d1]
      unfold n_phrasebooklaw05_fits_c4
      have hwr : IntKind.i64.wrap ((sumF (d.msgs.take k) : Int) + (x.fields.length : Int)) = ((sumF (d.msgs.take (k + 1)) : Nat) : Int) := by
        rw [sumF_take hx, wrap_ok (by omega) (by omega)]; omega
      by_cases hn : sumF (d.msgs.take (k + 1)) ≤ 400
      · have d2 : decide (((sumF (d.msgs.take (k + 1)) : Nat) : Int) > 400) = false := by simp; omega
        simp (disch := first | assumption | (simp only [ONE]; done) | rfl | (simp only [SZ]; done) | omega | (simp only [SZ] at *; omega)) only [↓PR, QR, Int.reduceBEq, Int.reduceBNe, Int.reduceLT, Int.reduceLE, Int.reduceGT, Int.reduceGE, Int.reduceNeg, hBW.c3, (hA.c2 e').1, (hA.c2 e').2, hwr, d2]
        rw [hwr]
        refine loop1_intro (fun a0 wb => ∃ (kb : Nat) , a0 = .int .i64 (kb : Int) ∧ kb ≤ x.fields.length ∧ Ext w wb ∧ ∀ f ∈ x.fields.take kb, okF f) (fun a0 _ => x.fields.length - (intOf a0).toNat) ⟨0, rfl, Nat.zero_le _, ee, by simp⟩ ?_
        rintro _ wb ⟨kb, rfl, hkb, eb, hIb⟩
        have seb := eb.size
        rcases drop_cases hkb with ⟨xb, hxb, hdb, hltb, hdecb⟩ | ⟨hkb, hdb, hdecb⟩
        · obtain ⟨b2, o2, cs2, rfl, hl2, hA2, hE2⟩ := hel2 kb xb hxb
          obtain ⟨tv, cv, rfl, hT, hC, ht1, hc1⟩ := hE2.op
          obtain ⟨A3, c3, rfl, hlc3, hcm3, hlm3, hel3⟩ := SliceOf.open hC
          obtain ⟨A4, c4, rfl, hlc4, hcm4, hlm4, hel4⟩ := SliceOf.open hT
          have eb' := e'.trans eb
          unfold n_phrasebooklaw05_fits_c2
          simp (disch := first | assumption | (simp only [ONE]; done) | rfl | (simp only [SZ]; done) | omega | (simp only [SZ] at *; omega)) only [↓PR, QR, Int.reduceBEq, Int.reduceBNe, Int.reduceLT, Int.reduceLE, Int.reduceGT, Int.reduceGE, Int.reduceNeg, hdecb]
          unfold n_phrasebooklaw05_fits_c1
          have hcell := hA2.c15 eb'
          by_cases hc50 : xb.cases.length ≤ 50
          · have d3 : decide ((xb.cases.length : Int) > 50) = false := by simp; omega
            by_cases ht10 : xb.terms.length ≤ 10
            · have d4 : decide ((xb.terms.length : Int) > 10) = false := by simp; omega
              simp (disch := first | assumption | (simp only [ONE]; done) | rfl | (simp only [SZ]; done) | omega | (simp only [SZ] at *; omega)) only [↓PR, QR, Int.reduceBEq, Int.reduceBNe, Int.reduceLT, Int.reduceLE, Int.reduceGT, Int.reduceGE, Int.reduceNeg, hcell, d3, d4]
              exact ⟨⟨kb + 1, rfl, by omega, ee, forall_take hIb hxb ⟨hc50, ht10⟩⟩, meas_lt hltb⟩
            · have d4 : decide ((xb.terms.length : Int) > 10) = true := by simp; omega
              simp (disch := first | assumption | (simp only [ONE]; done) | rfl | (simp only [SZ]; done) | omega | (simp only [SZ] at *; omega)) only [↓PR, QR, Int.reduceBEq, Int.reduceBNe, Int.reduceLT, Int.reduceLE, Int.reduceGT, Int.reduceGE, Int.reduceNeg, hcell, d3, d4]
              exact ⟨false, rfl, by simp, ee⟩
          · have d3 : decide ((xb.cases.length : Int) > 50) = true := by simp; omega
            simp (disch := first | assumption | (simp only [ONE]; done) | rfl | (simp only [SZ]; done) | omega | (simp only [SZ] at *; omega)) only [↓PR, QR, Int.reduceBEq, Int.reduceBNe, Int.reduceLT, Int.reduceLE, Int.reduceGT, Int.reduceGE, Int.reduceNeg, hcell, d3]
            exact ⟨false, rfl, by simp, ee⟩
        · subst hkb
          rw [List.take_length] at hIb
          unfold n_phrasebooklaw05_fits_c2
          simp (disch := first | assumption | (simp only [ONE]; done) | rfl | (simp only [SZ]; done) | omega | (simp only [SZ] at *; omega)) only [↓PR, QR, Int.reduceBEq, Int.reduceBNe, Int.reduceLT, Int.reduceLE, Int.reduceGT, Int.reduceGE, Int.reduceNeg, hdecb]
          exact ⟨⟨k + 1, rfl, rfl, by omega, ee, ⟨hn, forall_take hok hx hIb⟩⟩, meas_lt hlt⟩
      · have d2 : decide (((sumF (d.msgs.take (k + 1)) : Nat) : Int) > 400) = true := by simp; omega
        simp (disch := first | assumption | (simp only [ONE]; done) | rfl | (simp only [SZ]; done) | omega | (simp only [SZ] at *; omega)) only [↓PR, QR, Int.reduceBEq, Int.reduceBNe, Int.reduceLT, Int.reduceLE, Int.reduceGT, Int.reduceGE, Int.reduceNeg, hBW.c3, (hA.c2 e').1, (hA.c2 e').2, hwr, d2]
        exact ⟨false, rfl, by simp, ee⟩
    · have d1 : decide ((k : Int) ≤ 70) = false := by simp; omega
      have d2 : decide ((d.msgs.length : Int) ≤ 70) = false := by simp; omega
      simp (disch := first | assumption | (simp only [ONE]; done) | rfl | (simp only [SZ]; done) | omega | (simp only [SZ] at *; omega)) only [↓PR, QR, Int.reduceBEq, Int.reduceBNe, Int.reduceLT, Int.reduceLE, Int.reduceGT, Int.reduceGE, Int.reduceNeg, hBW.c3, hdec, d1, n_phrasebooklaw05_fits_c3, d2]
      exact ⟨false, rfl, by simp, ee⟩
  · subst hk
    obtain ⟨h400, hok⟩ := hI
    rw [List.take_length] at h400 hok
    unfold n_phrasebooklaw05_fits_c5
    simp (disch := first | assumption | (simp only [ONE]; done) | rfl | (simp only [SZ]; done) | omega | (simp only [SZ] at *; omega)) only [↓PR, QR, Int.reduceBEq, Int.reduceBNe, Int.reduceLT, Int.reduceLE, Int.reduceGT, Int.reduceGE, Int.reduceNeg, hBW.c3, hdec, n_phrasebooklaw05_fits_c3]
    exact ⟨_, rfl, fun hb => ⟨by have := of_decide_eq_true hb; omega, h400, hok⟩, ee⟩
end Go.Proofs.Ytiajhbbmgglmlaa
namespace Go.Proofs.Ytiajhbbmgglmlaa
open Sw
open Go.RowKit (intOf Below)
set_option maxRecDepth 100000
theorem refsF_len {f : FieldD} (h : okF f) : (refsF f).length ≤ 50 := by
  unfold refsF
  split
  · simp
  · split
    · simpa using h.1
    · simp
theorem allRefs_len : ∀ {l : List FieldD}, (∀ f ∈ l, okF f) → (allRefs l).length ≤ l.length * 50
  | [], _ => by simp [allRefs]
  | f :: l, h => by
    have h1 := refsF_len (h f (List.mem_cons_self ..))
    have h2 := allRefs_len (l := l) (fun g hg => h g (List.mem_cons_of_mem _ hg))
    unfold allRefs at *
    rw [List.flatMap_cons, List.length_append, List.length_cons]
    omega
theorem fits_calm {d : DefD} (h : fitsP d) : calm d := fun m hm => by
  have h1 := le_sumF hm
  have h2 := h.2.1
  have h3 := allRefs_len (h.2.2 m hm)
  exact ⟨by omega, fun f hf => by have := (h.2.2 m hm f hf).2; omega⟩
theorem fits_tame {d : DefD} (h : fitsP d) : tame d := ⟨by have := h.1; omega, fun m hm => ⟨by have := le_sumF hm; have := h.2.1; omega, fun f hf => ⟨by have := (h.2.2 m hm f hf).2; omega, by have := (h.2.2 m hm f hf).1; omega⟩⟩⟩
end Go.Proofs.Ytiajhbbmgglmlaa
namespace Go.Proofs.Ytiajhbbmgglmlaa
open Sw
def n_phrasebooklaw05_SchemaGrows_c1 (t6 t109 t113 : Value) (ds : List Deferred) (R : Ending → World → Prop) (w : World) : Prop :=
 pickK t109 t113 (.bool false) fun t114 =>
 joinK (fun (t116 : Value) (w : World) =>
 pickK t114 t116 (.bool false) fun t117 =>
 opU Try.prog (Instr.storeAt 4 t6 t117) (outQ Try.prog ds [(some 4, t6)] R) w fun w =>
 outX Try.prog ds [(some 4, t6)] R w) fun K11 =>
 guardP t114 true (
 callK Try.prog 8 #[] (outQ Try.prog ds [(some 4, t6)] R) w fun t116 w =>
 K11 t116 w) (
 K11 undef w)
def n_phrasebooklaw05_SchemaGrows_c2 (t3 t6 t101 t108 : Value) (ds : List Deferred) (R : Ending → World → Prop) (w : World) : Prop :=
 pickK t101 (.bool true) t108 fun t109 =>
 joinK (fun (t113 : Value) (w : World) =>
 n_phrasebooklaw05_SchemaGrows_c1 t6 t109 t113 ds R w) fun K10 =>
 guardP t109 true (
 opV Try.prog (Instr.loadAt 44 t3) (outQ Try.prog ds [(some 4, t6)] R) w fun t111 w =>
 callK Try.prog 27 #[t111] (outQ Try.prog ds [(some 4, t6)] R) w fun t112 w =>
 opV Try.prog (Op.unary .not t112) (outQ Try.prog ds [(some 4, t6)] R) w fun t113 w =>
 K10 t113 w) (
 K10 undef w)
def n_phrasebooklaw05_SchemaGrows_c3 (t3 t6 t101 t104 t107 : Value) (ds : List Deferred) (R : Ending → World → Prop) (w : World) : Prop :=
 joinK (fun (t108 : Value) (w : World) =>
 n_phrasebooklaw05_SchemaGrows_c2 t3 t6 t101 t108 ds R w) fun K9 =>
 guardP t101 false (
 pickK t104 t107 (.bool false) fun t108 =>
 K9 t108 w) (
 K9 undef w)
def n_phrasebooklaw05_SchemaGrows_c4 (t3 t6 t13 t15 t101 t104 : Value) (ds : List Deferred) (R : Ending → World → Prop) (w : World) : Prop :=
 joinK (fun (t107 : Value) (w : World) =>
 n_phrasebooklaw05_SchemaGrows_c3 t3 t6 t101 t104 t107 ds R w) fun K8 =>
 guardP t104 true (
 opV Try.prog (Instr.loadAt 68 t13) (outQ Try.prog ds [(some 4, t6)] R) w fun t105 w =>
 opV Try.prog (Instr.loadAt 68 t15) (outQ Try.prog ds [(some 4, t6)] R) w fun t106 w =>
 opV Try.prog (binS .eql 68 false t105 t106) (outQ Try.prog ds [(some 4, t6)] R) w fun t107 w =>
 K8 t107 w) (
 K8 undef w)
def n_phrasebooklaw05_SchemaGrows_c5 (t3 t6 t13 t96 : Value) (ds : List Deferred) (R : Ending → World → Prop) (w : World) : Prop :=
 opV Try.prog (Instr.extract t96 0) (outQ Try.prog ds [(some 4, t6)] R) w fun t97 w =>
 opV Try.prog (Instr.extract t96 1) (outQ Try.prog ds [(some 4, t6)] R) w fun t98 w =>
 opV Try.prog (Instr.alloc 68 true (.tuple #[])) (outQ Try.prog ds [(some 4, t6)] R) w fun t15 w =>
 opU Try.prog (Instr.storeAt 68 t15 t97) (outQ Try.prog ds [(some 4, t6)] R) w fun w =>
 opV Try.prog (Instr.fieldAt 68 t13 0) (outQ Try.prog ds [(some 4, t6)] R) w fun t99 w =>
 opV Try.prog (Instr.loadAt 3 t99) (outQ Try.prog ds [(some 4, t6)] R) w fun t100 w =>
 opV Try.prog (binS .lss 3 true t100 (.int .i64 0)) (outQ Try.prog ds [(some 4, t6)] R) w fun t101 w =>
 joinK (fun (t104 : Value) (w : World) =>
 n_phrasebooklaw05_SchemaGrows_c4 t3 t6 t13 t15 t101 t104 ds R w) fun K7 =>
 guardP t101 false (
 K7 t98 w) (
 K7 undef w)
def n_phrasebooklaw05_SchemaGrows_c6 (t6 t19 t192 t200 t203 : Value) (Kr18 : World → Prop) (Qr18 : List PanicEntry → World → Prop) (Xr18 : Nat → World → Prop) (R : Ending → World → Prop) (w : World) : Prop :=
 pickK t200 (.bool true) t203 fun t204 =>
 joinK (fun (t208 : Value) (w : World) =>
 pickK t204 (.bool true) t208 fun t209 =>
 condP t209 (
 opU Try.prog (Instr.storeAt 4 t6 (.bool false)) Qr18 w fun w =>
 Xr18 0 w) (
 Kr18 w)) fun K21 =>
 guardP t204 false (
 opV Try.prog (Instr.loadAt 3 t19) Qr18 w fun t207 w =>
 opV Try.prog (binS .geq 3 false t192 t207) Qr18 w fun t208 w =>
 K21 t208 w) (
 K21 undef w)
def n_phrasebooklaw05_SchemaGrows_c7 (t6 t19 t192 t193 t195 t199 : Value) (Kr18 : World → Prop) (Qr18 : List PanicEntry → World → Prop) (Xr18 : Nat → World → Prop) (R : Ending → World → Prop) (w : World) : Prop :=
 pickK t195 (.bool true) t199 fun t200 =>
 joinK (fun (t203 : Value) (w : World) =>
 n_phrasebooklaw05_SchemaGrows_c6 t6 t19 t192 t200 t203 Kr18 Qr18 Xr18 R w) fun K20 =>
 guardP t200 false (
 opV Try.prog (binS .neq 32 true t193 (.int .i64 0)) Qr18 w fun t203 w =>
 K20 t203 w) (
 K20 undef w)
def n_phrasebooklaw05_SchemaGrows_c8 (t6 t8 t19 t186 t187 t191 : Value) (Kr18 : World → Prop) (Qr18 : List PanicEntry → World → Prop) (Xr18 : Nat → World → Prop) (R : Ending → World → Prop) (w : World) : Prop :=
 opV Try.prog (Instr.extract t191 0) Qr18 w fun t192 w =>
 opV Try.prog (Instr.extract t191 1) Qr18 w fun t193 w =>
 opV Try.prog (Op.unary .not t187) Qr18 w fun t195 w =>
 joinK (fun (t199 : Value) (w : World) =>
 n_phrasebooklaw05_SchemaGrows_c7 t6 t19 t192 t193 t195 t199 Kr18 Qr18 Xr18 R w) fun K19 =>
 guardP t195 false (
 opV Try.prog (Instr.loadAt 3 t8) Qr18 w fun t198 w =>
 opV Try.prog (binS .geq 3 false t186 t198) Qr18 w fun t199 w =>
 K19 t199 w) (
 K19 undef w)
def n_phrasebooklaw05_SchemaGrows_c9 (t3 t6 t8 t19 t185 : Value) (Kr18 : World → Prop) (Qr18 : List PanicEntry → World → Prop) (Xr18 : Nat → World → Prop) (R : Ending → World → Prop) (w : World) : Prop :=
 opV Try.prog (Instr.extract t185 0) Qr18 w fun t186 w =>
 opV Try.prog (Instr.extract t185 1) Qr18 w fun t187 w =>
 opV Try.prog (Instr.loadAt 44 t3) Qr18 w fun t189 w =>
 callK Try.prog 29 #[t189, t186] Qr18 w fun t191 w =>
 n_phrasebooklaw05_SchemaGrows_c8 t6 t8 t19 t186 t187 t191 Kr18 Qr18 Xr18 R w
def n_phrasebooklaw05_SchemaGrows_c10 (t3 t6 t8 t19 t181 : Value) (Kr18 : World → Prop) (Qr18 : List PanicEntry → World → Prop) (Xr18 : Nat → World → Prop) (l18 : Nat) (R : Ending → World → Prop) (w : World) : Prop :=
 busyK l18 w fun w =>
 opV Try.prog (Instr.loadAt 44 t3) Qr18 w fun t183 w =>
 callK Try.prog 18 #[t183, t181] Qr18 w fun t185 w =>
 n_phrasebooklaw05_SchemaGrows_c9 t3 t6 t8 t19 t185 Kr18 Qr18 Xr18 R w
def n_phrasebooklaw05_SchemaGrows_c11 (t6 : Value) (ds : List Deferred) (R : Ending → World → Prop) (w : World) : Prop :=
 callK Try.prog 8 #[] (outQ Try.prog ds [(some 4, t6)] R) w fun t210 w =>
 opU Try.prog (Instr.storeAt 4 t6 t210) (outQ Try.prog ds [(some 4, t6)] R) w fun w =>
 outX Try.prog ds [(some 4, t6)] R w
def n_phrasebooklaw05_SchemaGrows_c12 (t3 t6 t8 t19 t177 : Value) (ds : List Deferred) (R : Ending → World → Prop) (w : World) : Prop :=
 rangeN Try.prog t177 ds (fun l18 t181 w Kr18 Xr18 Qr18 =>
 n_phrasebooklaw05_SchemaGrows_c10 t3 t6 t8 t19 t181 Kr18 Qr18 Xr18 l18 R w) (fun ch ds w => outQ Try.prog ds [(some 4, t6)] R ch w) w (fun ds w =>
 n_phrasebooklaw05_SchemaGrows_c11 t6 ds R w) [fun ds w =>
 outX Try.prog ds [(some 4, t6)] R w]
def n_phrasebooklaw05_SchemaGrows_c13 (t3 t6 t8 t19 t177 : Value) (ds : List Deferred) (R : Ending → World → Prop) (w : World) : Prop :=
 opV Try.prog (binS .eql 59 true t177 .nilFunc) (outQ Try.prog ds [(some 4, t6)] R) w fun t179 w =>
 condP t179 (
 opU Try.prog (Instr.storeAt 4 t6 (.bool false)) (outQ Try.prog ds [(some 4, t6)] R) w fun w =>
 outX Try.prog ds [(some 4, t6)] R w) (
 n_phrasebooklaw05_SchemaGrows_c12 t3 t6 t8 t19 t177 ds R w)
def n_phrasebooklaw05_SchemaGrows_c14 (t3 t6 t8 t19 : Value) (ds : List Deferred) (R : Ending → World → Prop) (w : World) : Prop :=
 opV Try.prog (Instr.fieldAt 44 t3 1) (outQ Try.prog ds [(some 4, t6)] R) w fun t172 w =>
 opV Try.prog (Instr.loadAt 42 t172) (outQ Try.prog ds [(some 4, t6)] R) w fun t173 w =>
 opV Try.prog (Instr.loadAt 3 t8) (outQ Try.prog ds [(some 4, t6)] R) w fun t174 w =>
 opV Try.prog (Instr.indexAt 42 t173 t174) (outQ Try.prog ds [(some 4, t6)] R) w fun t175 w =>
 opV Try.prog (Instr.loadAt 50 t175) (outQ Try.prog ds [(some 4, t6)] R) w fun t176 w =>
 callK Try.prog 24 #[t176] (outQ Try.prog ds [(some 4, t6)] R) w fun t177 w =>
 n_phrasebooklaw05_SchemaGrows_c13 t3 t6 t8 t19 t177 ds R w
def n_phrasebooklaw05_SchemaGrows_c15 (t3 t6 t8 t19 t167 t170 : Value) (ds : List Deferred) (R : Ending → World → Prop) (w : World) : Prop :=
 pickK t167 (.bool true) t170 fun t171 =>
 condP t171 (
 opU Try.prog (Instr.storeAt 4 t6 (.bool false)) (outQ Try.prog ds [(some 4, t6)] R) w fun w =>
 outX Try.prog ds [(some 4, t6)] R w) (
 n_phrasebooklaw05_SchemaGrows_c14 t3 t6 t8 t19 ds R w)
def n_phrasebooklaw05_SchemaGrows_c16 (t3 t6 t8 t19 t163 t166 : Value) (ds : List Deferred) (R : Ending → World → Prop) (w : World) : Prop :=
 pickK t163 (.bool true) t166 fun t167 =>
 joinK (fun (t170 : Value) (w : World) =>
 n_phrasebooklaw05_SchemaGrows_c15 t3 t6 t8 t19 t167 t170 ds R w) fun K17 =>
 guardP t167 false (
 opV Try.prog (Instr.loadAt 3 t19) (outQ Try.prog ds [(some 4, t6)] R) w fun t169 w =>
 opV Try.prog (binS .gtr 3 true t169 (.int .i64 16)) (outQ Try.prog ds [(some 4, t6)] R) w fun t170 w =>
 K17 t170 w) (
 K17 undef w)
def n_phrasebooklaw05_SchemaGrows_c17 (t3 t6 t8 t159 : Value) (ds : List Deferred) (R : Ending → World → Prop) (w : World) : Prop :=
 opV Try.prog (Instr.extract t159 0) (outQ Try.prog ds [(some 4, t6)] R) w fun t160 w =>
 opV Try.prog (Instr.extract t159 1) (outQ Try.prog ds [(some 4, t6)] R) w fun t161 w =>
 opV Try.prog (Instr.alloc 3 true (.tuple #[])) (outQ Try.prog ds [(some 4, t6)] R) w fun t19 w =>
 opU Try.prog (Instr.storeAt 3 t19 t160) (outQ Try.prog ds [(some 4, t6)] R) w fun w =>
 opV Try.prog (binS .neq 32 true t161 (.int .i64 0)) (outQ Try.prog ds [(some 4, t6)] R) w fun t163 w =>
 joinK (fun (t166 : Value) (w : World) =>
 n_phrasebooklaw05_SchemaGrows_c16 t3 t6 t8 t19 t163 t166 ds R w) fun K16 =>
 guardP t163 false (
 opV Try.prog (Instr.loadAt 3 t19) (outQ Try.prog ds [(some 4, t6)] R) w fun t165 w =>
 opV Try.prog (binS .lss 3 true t165 (.int .i64 1)) (outQ Try.prog ds [(some 4, t6)] R) w fun t166 w =>
 K16 t166 w) (
 K16 undef w)
def n_phrasebooklaw05_SchemaGrows_c18 (t3 t6 t8 : Value) (ds : List Deferred) (R : Ending → World → Prop) (w : World) : Prop :=
 opV Try.prog (Instr.loadAt 44 t3) (outQ Try.prog ds [(some 4, t6)] R) w fun t157 w =>
 opV Try.prog (Instr.loadAt 3 t8) (outQ Try.prog ds [(some 4, t6)] R) w fun t158 w =>
 callK Try.prog 29 #[t157, t158] (outQ Try.prog ds [(some 4, t6)] R) w fun t159 w =>
 n_phrasebooklaw05_SchemaGrows_c17 t3 t6 t8 t159 ds R w
def n_phrasebooklaw05_SchemaGrows_c19 (t3 t6 t8 t150 t154 : Value) (ds : List Deferred) (R : Ending → World → Prop) (w : World) : Prop :=
 pickK t150 t154 (.bool false) fun t155 =>
 condP t155 (
 opU Try.prog (Instr.storeAt 4 t6 (.bool false)) (outQ Try.prog ds [(some 4, t6)] R) w fun w =>
 outX Try.prog ds [(some 4, t6)] R w) (
 n_phrasebooklaw05_SchemaGrows_c18 t3 t6 t8 ds R w)
def n_phrasebooklaw05_SchemaGrows_c20 (t3 t6 t8 t10 t29 : Value) (C14 : World → Prop) (ds : List Deferred) (R : Ending → World → Prop) (w : World) : Prop :=
 qV Try.prog C14 (Instr.fieldAt 44 t3 1) fun t141 =>
 qV Try.prog C14 (Instr.loadAt 42 t141) fun t142 =>
 qV Try.prog C14 (binS .sub 3 true t29 (.int .i64 1)) fun t144 =>
 qV Try.prog C14 (Instr.indexAt 42 t142 t144) fun t145 =>
 qV Try.prog C14 (Instr.fieldAt 50 t145 0) fun t146 =>
 qV Try.prog C14 (Instr.loadAt 9 t146) fun t147 =>
 qV Try.prog C14 (Instr.fieldAt 44 t3 2) fun t148 =>
 qV Try.prog C14 (Instr.loadAt 9 t148) fun t149 =>
 qV Try.prog C14 (binS .neq 9 false t147 t149) fun t150 =>
 joinK (fun (t154 : Value) (w : World) =>
 n_phrasebooklaw05_SchemaGrows_c19 t3 t6 t8 t150 t154 ds R w) fun K15 =>
 guardP t150 true (
 qV Try.prog C14 (Instr.loadAt 44 t10) fun t152 =>
 callK Try.prog 27 #[t152] (outQ Try.prog ds [(some 4, t6)] R) w fun t153 w =>
 C14 w ∧ (
 qV Try.prog C14 (Op.unary .not t153) fun t154 =>
 K15 t154 w)) (
 K15 undef w)
def n_phrasebooklaw05_SchemaGrows_c21 (t3 t6 t8 t10 t29 : Value) (ds : List Deferred) (R : Ending → World → Prop) (w : World) : Prop :=
 opV Try.prog (Instr.fieldAt 44 t10 1) (outQ Try.prog ds [(some 4, t6)] R) w fun t135 w =>
 opV Try.prog (Instr.loadAt 42 t135) (outQ Try.prog ds [(some 4, t6)] R) w fun t136 w =>
 opV Try.prog (binS .sub 3 true t29 (.int .i64 1)) (outQ Try.prog ds [(some 4, t6)] R) w fun t138 w =>
 opV Try.prog (Instr.sliceAt 42 t136 none (some t138) none) (outQ Try.prog ds [(some 4, t6)] R) w fun t139 w =>
 opV Try.prog (Instr.fieldAt 44 t10 1) (outQ Try.prog ds [(some 4, t6)] R) w fun t140 w =>
 opU Try.prog (Instr.storeAt 42 t140 t139) (outQ Try.prog ds [(some 4, t6)] R) w fun w =>
 drawK w fun C14 w =>
 n_phrasebooklaw05_SchemaGrows_c20 t3 t6 t8 t10 t29 C14 ds R w
def n_phrasebooklaw05_SchemaGrows_c22 (t3 t6 t8 t10 t29 t129 t133 : Value) (ds : List Deferred) (R : Ending → World → Prop) (w : World) : Prop :=
 pickK t129 t133 (.bool false) fun t134 =>
 condP t134 (
 opU Try.prog (Instr.storeAt 4 t6 (.bool false)) (outQ Try.prog ds [(some 4, t6)] R) w fun w =>
 outX Try.prog ds [(some 4, t6)] R w) (
 n_phrasebooklaw05_SchemaGrows_c21 t3 t6 t8 t10 t29 ds R w)
def n_phrasebooklaw05_SchemaGrows_c23 (t3 t6 t8 t9 t10 t29 t125 t128 : Value) (ds : List Deferred) (R : Ending → World → Prop) (w : World) : Prop :=
 pickK t125 t128 (.bool false) fun t129 =>
 joinK (fun (t133 : Value) (w : World) =>
 n_phrasebooklaw05_SchemaGrows_c22 t3 t6 t8 t10 t29 t129 t133 ds R w) fun K13 =>
 guardP t129 true (
 opV Try.prog (Instr.loadAt 44 t9) (outQ Try.prog ds [(some 4, t6)] R) w fun t131 w =>
 callK Try.prog 27 #[t131] (outQ Try.prog ds [(some 4, t6)] R) w fun t132 w =>
 opV Try.prog (Op.unary .not t132) (outQ Try.prog ds [(some 4, t6)] R) w fun t133 w =>
 K13 t133 w) (
 K13 undef w)
def n_phrasebooklaw05_SchemaGrows_c24 (t3 t6 t8 t9 t10 t29 t123 t125 : Value) (ds : List Deferred) (R : Ending → World → Prop) (w : World) : Prop :=
 joinK (fun (t128 : Value) (w : World) =>
 n_phrasebooklaw05_SchemaGrows_c23 t3 t6 t8 t9 t10 t29 t125 t128 ds R w) fun K12 =>
 guardP t125 true (
 opV Try.prog (Op.unary .not t123) (outQ Try.prog ds [(some 4, t6)] R) w fun t128 w =>
 K12 t128 w) (
 K12 undef w)
def n_phrasebooklaw05_SchemaGrows_c25 (t2 t3 t6 t8 t9 t10 t29 t121 : Value) (ds : List Deferred) (R : Ending → World → Prop) (w : World) : Prop :=
 opV Try.prog (Instr.extract t121 0) (outQ Try.prog ds [(some 4, t6)] R) w fun t122 w =>
 opV Try.prog (Instr.extract t121 1) (outQ Try.prog ds [(some 4, t6)] R) w fun t123 w =>
 callK Try.prog 28 #[t2] (outQ Try.prog ds [(some 4, t6)] R) w fun t125 w =>
 n_phrasebooklaw05_SchemaGrows_c24 t3 t6 t8 t9 t10 t29 t123 t125 ds R w
def n_phrasebooklaw05_SchemaGrows_c26 (t3 t6 t9 t13 : Value) (ds : List Deferred) (R : Ending → World → Prop) (w : World) : Prop :=
 opV Try.prog (Instr.loadAt 44 t9) (outQ Try.prog ds [(some 4, t6)] R) w fun t95 w =>
 callK Try.prog 26 #[t95] (outQ Try.prog ds [(some 4, t6)] R) w fun t96 w =>
 n_phrasebooklaw05_SchemaGrows_c5 t3 t6 t13 t96 ds R w
def n_phrasebooklaw05_SchemaGrows_c27 (t2 t3 t6 t8 t9 t10 t29 : Value) (ds : List Deferred) (R : Ending → World → Prop) (w : World) : Prop :=
 opV Try.prog (Instr.loadAt 44 t3) (outQ Try.prog ds [(some 4, t6)] R) w fun t119 w =>
 callK Try.prog 18 #[t119, t2] (outQ Try.prog ds [(some 4, t6)] R) w fun t121 w =>
 n_phrasebooklaw05_SchemaGrows_c25 t2 t3 t6 t8 t9 t10 t29 t121 ds R w
def n_phrasebooklaw05_SchemaGrows_c28 (t2 t3 t6 t8 t9 t10 t29 t90 : Value) (ds : List Deferred) (R : Ending → World → Prop) (w : World) : Prop :=
 opV Try.prog (Instr.extract t90 0) (outQ Try.prog ds [(some 4, t6)] R) w fun t91 w =>
 opV Try.prog (Instr.extract t90 1) (outQ Try.prog ds [(some 4, t6)] R) w fun t92 w =>
 opV Try.prog (Instr.alloc 68 true (.tuple #[])) (outQ Try.prog ds [(some 4, t6)] R) w fun t13 w =>
 opU Try.prog (Instr.storeAt 68 t13 t91) (outQ Try.prog ds [(some 4, t6)] R) w fun w =>
 condP t92 (
 n_phrasebooklaw05_SchemaGrows_c26 t3 t6 t9 t13 ds R w) (
 n_phrasebooklaw05_SchemaGrows_c27 t2 t3 t6 t8 t9 t10 t29 ds R w)
def n_phrasebooklaw05_SchemaGrows_c29 (t2 t3 t6 t8 t9 t10 t11 t29 : Value) (ds : List Deferred) (R : Ending → World → Prop) (w : World) : Prop :=
 opV Try.prog (Instr.fieldAt 44 t11 1) (outQ Try.prog ds [(some 4, t6)] R) w fun t76 w =>
 opV Try.prog (Instr.loadAt 42 t76) (outQ Try.prog ds [(some 4, t6)] R) w fun t77 w =>
 opV Try.prog (Instr.indexAt 42 t77 (.int .i64 0)) (outQ Try.prog ds [(some 4, t6)] R) w fun t78 w =>
 opV Try.prog (Instr.loadAt 50 t78) (outQ Try.prog ds [(some 4, t6)] R) w fun t79 w =>
 opV Try.prog (Instr.alloc 50 true (.tuple #[])) (outQ Try.prog ds [(some 4, t6)] R) w fun t12 w =>
 opU Try.prog (Instr.storeAt 50 t12 t79) (outQ Try.prog ds [(some 4, t6)] R) w fun w =>
 opV Try.prog (Instr.fieldAt 50 t12 0) (outQ Try.prog ds [(some 4, t6)] R) w fun t81 w =>
 opU Try.prog (Instr.storeAt 9 t81 t2) (outQ Try.prog ds [(some 4, t6)] R) w fun w =>
 opV Try.prog (Instr.fieldAt 44 t9 1) (outQ Try.prog ds [(some 4, t6)] R) w fun t82 w =>
 opV Try.prog (Instr.loadAt 42 t82) (outQ Try.prog ds [(some 4, t6)] R) w fun t83 w =>
 opV Try.prog (Instr.loadAt 50 t12) (outQ Try.prog ds [(some 4, t6)] R) w fun t84 w =>
 opV Try.prog (Instr.buildSlice 42 1 #[(0, t84)]) (outQ Try.prog ds [(some 4, t6)] R) w fun t85 w =>
 opV Try.prog (Builtin.append_ #[42, 42] 42 #[t83, t85]) (outQ Try.prog ds [(some 4, t6)] R) w fun t86 w =>
 opV Try.prog (Instr.fieldAt 44 t9 1) (outQ Try.prog ds [(some 4, t6)] R) w fun t87 w =>
 opU Try.prog (Instr.storeAt 42 t87 t86) (outQ Try.prog ds [(some 4, t6)] R) w fun w =>
 opV Try.prog (Instr.loadAt 44 t3) (outQ Try.prog ds [(some 4, t6)] R) w fun t89 w =>
 callK Try.prog 26 #[t89] (outQ Try.prog ds [(some 4, t6)] R) w fun t90 w =>
 n_phrasebooklaw05_SchemaGrows_c28 t2 t3 t6 t8 t9 t10 t29 t90 ds R w
def n_phrasebooklaw05_SchemaGrows_c30 (t2 t3 t6 t8 t9 t10 t11 t29 t69 t74 : Value) (ds : List Deferred) (R : Ending → World → Prop) (w : World) : Prop :=
 pickK t69 (.bool true) t74 fun t75 =>
 condP t75 (
 opU Try.prog (Instr.storeAt 4 t6 (.bool false)) (outQ Try.prog ds [(some 4, t6)] R) w fun w =>
 outX Try.prog ds [(some 4, t6)] R w) (
 n_phrasebooklaw05_SchemaGrows_c29 t2 t3 t6 t8 t9 t10 t11 t29 ds R w)
def n_phrasebooklaw05_SchemaGrows_c31 (t2 t3 t6 t8 t9 t10 t11 t29 t62 t68 : Value) (ds : List Deferred) (R : Ending → World → Prop) (w : World) : Prop :=
 pickK t62 (.bool true) t68 fun t69 =>
 joinK (fun (t74 : Value) (w : World) =>
 n_phrasebooklaw05_SchemaGrows_c30 t2 t3 t6 t8 t9 t10 t11 t29 t69 t74 ds R w) fun K6 =>
 guardP t69 false (
 opV Try.prog (Instr.fieldAt 44 t11 1) (outQ Try.prog ds [(some 4, t6)] R) w fun t71 w =>
 opV Try.prog (Instr.loadAt 42 t71) (outQ Try.prog ds [(some 4, t6)] R) w fun t72 w =>
 opV Try.prog (Builtin.len_ #[42] 3 #[t72]) (outQ Try.prog ds [(some 4, t6)] R) w fun t73 w =>
 opV Try.prog (binS .neq 3 true t73 (.int .i64 1)) (outQ Try.prog ds [(some 4, t6)] R) w fun t74 w =>
 K6 t74 w) (
 K6 undef w)
def n_phrasebooklaw05_SchemaGrows_c32 (t2 t3 t6 t8 t9 t10 t29 t57 : Value) (ds : List Deferred) (R : Ending → World → Prop) (w : World) : Prop :=
 opV Try.prog (Instr.alloc 44 true (.tuple #[])) (outQ Try.prog ds [(some 4, t6)] R) w fun t11 w =>
 opU Try.prog (Instr.storeAt 44 t11 t57) (outQ Try.prog ds [(some 4, t6)] R) w fun w =>
 opV Try.prog (Instr.fieldAt 44 t9 1) (outQ Try.prog ds [(some 4, t6)] R) w fun t58 w =>
 opV Try.prog (Instr.loadAt 42 t58) (outQ Try.prog ds [(some 4, t6)] R) w fun t59 w =>
 opV Try.prog (Builtin.len_ #[42] 3 #[t59]) (outQ Try.prog ds [(some 4, t6)] R) w fun t60 w =>
 opV Try.prog (binS .neq 3 false t60 t29) (outQ Try.prog ds [(some 4, t6)] R) w fun t62 w =>
 joinK (fun (t68 : Value) (w : World) =>
 n_phrasebooklaw05_SchemaGrows_c31 t2 t3 t6 t8 t9 t10 t11 t29 t62 t68 ds R w) fun K5 =>
 guardP t62 false (
 opV Try.prog (Instr.fieldAt 44 t10 1) (outQ Try.prog ds [(some 4, t6)] R) w fun t64 w =>
 opV Try.prog (Instr.loadAt 42 t64) (outQ Try.prog ds [(some 4, t6)] R) w fun t65 w =>
 opV Try.prog (Builtin.len_ #[42] 3 #[t65]) (outQ Try.prog ds [(some 4, t6)] R) w fun t66 w =>
 opV Try.prog (binS .neq 3 false t66 t29) (outQ Try.prog ds [(some 4, t6)] R) w fun t68 w =>
 K5 t68 w) (
 K5 undef w)
def n_phrasebooklaw05_SchemaGrows_c33 (t2 t3 t6 t8 t9 t10 t29 : Value) (ds : List Deferred) (R : Ending → World → Prop) (w : World) : Prop :=
 opV Try.prog (Instr.fieldAt 44 t3 1) (outQ Try.prog ds [(some 4, t6)] R) w fun t50 w =>
 opV Try.prog (Instr.loadAt 42 t50) (outQ Try.prog ds [(some 4, t6)] R) w fun t51 w =>
 opV Try.prog (Instr.loadAt 3 t8) (outQ Try.prog ds [(some 4, t6)] R) w fun t52 w =>
 opV Try.prog (Instr.loadAt 3 t8) (outQ Try.prog ds [(some 4, t6)] R) w fun t53 w =>
 opV Try.prog (binS .add 3 true t53 (.int .i64 1)) (outQ Try.prog ds [(some 4, t6)] R) w fun t54 w =>
 opV Try.prog (Instr.sliceAt 42 t51 (some t52) (some t54) none) (outQ Try.prog ds [(some 4, t6)] R) w fun t55 w =>
 opV Try.prog (Instr.build 44 #[(1, t55)]) (outQ Try.prog ds [(some 4, t6)] R) w fun t56 w =>
 callK Try.prog 23 #[t56] (outQ Try.prog ds [(some 4, t6)] R) w fun t57 w =>
 n_phrasebooklaw05_SchemaGrows_c32 t2 t3 t6 t8 t9 t10 t29 t57 ds R w
def n_phrasebooklaw05_SchemaGrows_c34 (t6 t9 t10 t47 t49 : Value) (K4 : Value → Value → World → Prop) (ds : List Deferred) (R : Ending → World → Prop) (w : World) : Prop :=
 opU Try.prog (Instr.storeAt 44 t9 t47) (outQ Try.prog ds [(some 4, t6)] R) w fun w =>
 turnK w fun C22 w =>
 opU Try.prog (Instr.storeAt 44 t10 t49) (outQ Try.prog ds [(some 4, t6)] R) w fun w =>
 turnK w fun C23 w =>
 K4 t9 t10 w
def n_phrasebooklaw05_SchemaGrows_c35 (t6 t9 t10 t47 t49 : Value) (K4 : Value → Value → World → Prop) (ds : List Deferred) (R : Ending → World → Prop) (w : World) : Prop :=
 opU Try.prog (Instr.storeAt 44 t9 t47) (outQ Try.prog ds [(some 4, t6)] R) w fun w =>
 turnK w fun C24 w =>
 opU Try.prog (Instr.storeAt 44 t10 t49) (outQ Try.prog ds [(some 4, t6)] R) w fun w =>
 turnK w fun C25 w =>
 K4 t9 t10 w
def n_phrasebooklaw05_SchemaGrows_c36 (t6 t47 t49 : Value) (C3 : World → Prop) (K4 : Value → Value → World → Prop) (ds : List Deferred) (R : Ending → World → Prop) (w : World) : Prop :=
 (
 opV Try.prog (Instr.alloc 44 true (.tuple #[])) (outQ Try.prog ds [(some 4, t6)] R) w fun t9 w =>
 C3 w ∧ (
 opV Try.prog (Instr.alloc 44 true (.tuple #[])) (outQ Try.prog ds [(some 4, t6)] R) w fun t10 w =>
 C3 w ∧ (
 n_phrasebooklaw05_SchemaGrows_c34 t6 t9 t10 t47 t49 K4 ds R w))) ∧ (
 opV Try.prog (Instr.alloc 44 true (.tuple #[])) (outQ Try.prog ds [(some 4, t6)] R) w fun t10 w =>
 C3 w ∧ (
 opV Try.prog (Instr.alloc 44 true (.tuple #[])) (outQ Try.prog ds [(some 4, t6)] R) w fun t9 w =>
 C3 w ∧ (
 n_phrasebooklaw05_SchemaGrows_c35 t6 t9 t10 t47 t49 K4 ds R w)))
def n_phrasebooklaw05_SchemaGrows_c37 (t6 t9 t10 t47 t49 : Value) (K4 : Value → Value → World → Prop) (ds : List Deferred) (R : Ending → World → Prop) (w : World) : Prop :=
 opU Try.prog (Instr.storeAt 44 t9 t47) (outQ Try.prog ds [(some 4, t6)] R) w fun w =>
 turnK w fun C26 w =>
 opU Try.prog (Instr.storeAt 44 t10 t49) (outQ Try.prog ds [(some 4, t6)] R) w fun w =>
 turnK w fun C27 w =>
 K4 t9 t10 w
def n_phrasebooklaw05_SchemaGrows_c38 (t6 t9 t10 t47 t49 : Value) (K4 : Value → Value → World → Prop) (ds : List Deferred) (R : Ending → World → Prop) (w : World) : Prop :=
 opU Try.prog (Instr.storeAt 44 t9 t47) (outQ Try.prog ds [(some 4, t6)] R) w fun w =>
 turnK w fun C28 w =>
 opU Try.prog (Instr.storeAt 44 t10 t49) (outQ Try.prog ds [(some 4, t6)] R) w fun w =>
 turnK w fun C29 w =>
 K4 t9 t10 w
def n_phrasebooklaw05_SchemaGrows_c39 (t6 t9 t47 t48 : Value) (C3 : World → Prop) (K4 : Value → Value → World → Prop) (ds : List Deferred) (R : Ending → World → Prop) (w : World) : Prop :=
 (
 callK Try.prog 23 #[t48] (outQ Try.prog ds [(some 4, t6)] R) w fun t49 w =>
 C3 w ∧ (
 opV Try.prog (Instr.alloc 44 true (.tuple #[])) (outQ Try.prog ds [(some 4, t6)] R) w fun t10 w =>
 C3 w ∧ (
 n_phrasebooklaw05_SchemaGrows_c37 t6 t9 t10 t47 t49 K4 ds R w))) ∧ (
 opV Try.prog (Instr.alloc 44 true (.tuple #[])) (outQ Try.prog ds [(some 4, t6)] R) w fun t10 w =>
 C3 w ∧ (
 callK Try.prog 23 #[t48] (outQ Try.prog ds [(some 4, t6)] R) w fun t49 w =>
 C3 w ∧ (
 n_phrasebooklaw05_SchemaGrows_c38 t6 t9 t10 t47 t49 K4 ds R w)))
def n_phrasebooklaw05_SchemaGrows_c40 (t6 t9 t10 t47 t49 : Value) (K4 : Value → Value → World → Prop) (ds : List Deferred) (R : Ending → World → Prop) (w : World) : Prop :=
 opU Try.prog (Instr.storeAt 44 t9 t47) (outQ Try.prog ds [(some 4, t6)] R) w fun w =>
 turnK w fun C30 w =>
 opU Try.prog (Instr.storeAt 44 t10 t49) (outQ Try.prog ds [(some 4, t6)] R) w fun w =>
 turnK w fun C31 w =>
 K4 t9 t10 w
def n_phrasebooklaw05_SchemaGrows_c41 (t6 t9 t10 t47 t49 : Value) (K4 : Value → Value → World → Prop) (ds : List Deferred) (R : Ending → World → Prop) (w : World) : Prop :=
 opU Try.prog (Instr.storeAt 44 t9 t47) (outQ Try.prog ds [(some 4, t6)] R) w fun w =>
 turnK w fun C32 w =>
 opU Try.prog (Instr.storeAt 44 t10 t49) (outQ Try.prog ds [(some 4, t6)] R) w fun w =>
 turnK w fun C33 w =>
 K4 t9 t10 w
def n_phrasebooklaw05_SchemaGrows_c42 (t6 t10 t47 t48 : Value) (C3 : World → Prop) (K4 : Value → Value → World → Prop) (ds : List Deferred) (R : Ending → World → Prop) (w : World) : Prop :=
 (
 callK Try.prog 23 #[t48] (outQ Try.prog ds [(some 4, t6)] R) w fun t49 w =>
 C3 w ∧ (
 opV Try.prog (Instr.alloc 44 true (.tuple #[])) (outQ Try.prog ds [(some 4, t6)] R) w fun t9 w =>
 C3 w ∧ (
 n_phrasebooklaw05_SchemaGrows_c40 t6 t9 t10 t47 t49 K4 ds R w))) ∧ (
 opV Try.prog (Instr.alloc 44 true (.tuple #[])) (outQ Try.prog ds [(some 4, t6)] R) w fun t9 w =>
 C3 w ∧ (
 callK Try.prog 23 #[t48] (outQ Try.prog ds [(some 4, t6)] R) w fun t49 w =>
 C3 w ∧ (
 n_phrasebooklaw05_SchemaGrows_c41 t6 t9 t10 t47 t49 K4 ds R w)))
def n_phrasebooklaw05_SchemaGrows_c43 (t6 t47 t48 : Value) (C3 : World → Prop) (K4 : Value → Value → World → Prop) (ds : List Deferred) (R : Ending → World → Prop) (w : World) : Prop :=
 (
 callK Try.prog 23 #[t48] (outQ Try.prog ds [(some 4, t6)] R) w fun t49 w =>
 C3 w ∧ (
 n_phrasebooklaw05_SchemaGrows_c36 t6 t47 t49 C3 K4 ds R w)) ∧ (
 opV Try.prog (Instr.alloc 44 true (.tuple #[])) (outQ Try.prog ds [(some 4, t6)] R) w fun t9 w =>
 C3 w ∧ (
 n_phrasebooklaw05_SchemaGrows_c39 t6 t9 t47 t48 C3 K4 ds R w)) ∧ (
 opV Try.prog (Instr.alloc 44 true (.tuple #[])) (outQ Try.prog ds [(some 4, t6)] R) w fun t10 w =>
 C3 w ∧ (
 n_phrasebooklaw05_SchemaGrows_c42 t6 t10 t47 t48 C3 K4 ds R w))
def n_phrasebooklaw05_SchemaGrows_c44 (t6 t9 t10 t47 t49 : Value) (K4 : Value → Value → World → Prop) (ds : List Deferred) (R : Ending → World → Prop) (w : World) : Prop :=
 opU Try.prog (Instr.storeAt 44 t9 t47) (outQ Try.prog ds [(some 4, t6)] R) w fun w =>
 turnK w fun C34 w =>
 opU Try.prog (Instr.storeAt 44 t10 t49) (outQ Try.prog ds [(some 4, t6)] R) w fun w =>
 turnK w fun C35 w =>
 K4 t9 t10 w
def n_phrasebooklaw05_SchemaGrows_c45 (t6 t9 t10 t47 t49 : Value) (K4 : Value → Value → World → Prop) (ds : List Deferred) (R : Ending → World → Prop) (w : World) : Prop :=
 opU Try.prog (Instr.storeAt 44 t9 t47) (outQ Try.prog ds [(some 4, t6)] R) w fun w =>
 turnK w fun C36 w =>
 opU Try.prog (Instr.storeAt 44 t10 t49) (outQ Try.prog ds [(some 4, t6)] R) w fun w =>
 turnK w fun C37 w =>
 K4 t9 t10 w
def n_phrasebooklaw05_SchemaGrows_c46 (t6 t9 t47 t48 : Value) (C3 : World → Prop) (K4 : Value → Value → World → Prop) (ds : List Deferred) (R : Ending → World → Prop) (w : World) : Prop :=
 (
 callK Try.prog 23 #[t48] (outQ Try.prog ds [(some 4, t6)] R) w fun t49 w =>
 C3 w ∧ (
 opV Try.prog (Instr.alloc 44 true (.tuple #[])) (outQ Try.prog ds [(some 4, t6)] R) w fun t10 w =>
 C3 w ∧ (
 n_phrasebooklaw05_SchemaGrows_c44 t6 t9 t10 t47 t49 K4 ds R w))) ∧ (
 opV Try.prog (Instr.alloc 44 true (.tuple #[])) (outQ Try.prog ds [(some 4, t6)] R) w fun t10 w =>
 C3 w ∧ (
 callK Try.prog 23 #[t48] (outQ Try.prog ds [(some 4, t6)] R) w fun t49 w =>
 C3 w ∧ (
 n_phrasebooklaw05_SchemaGrows_c45 t6 t9 t10 t47 t49 K4 ds R w)))
def n_phrasebooklaw05_SchemaGrows_c47 (t6 t9 t10 t47 t49 : Value) (K4 : Value → Value → World → Prop) (ds : List Deferred) (R : Ending → World → Prop) (w : World) : Prop :=
 opU Try.prog (Instr.storeAt 44 t9 t47) (outQ Try.prog ds [(some 4, t6)] R) w fun w =>
 turnK w fun C38 w =>
 opU Try.prog (Instr.storeAt 44 t10 t49) (outQ Try.prog ds [(some 4, t6)] R) w fun w =>
 turnK w fun C39 w =>
 K4 t9 t10 w
def n_phrasebooklaw05_SchemaGrows_c48 (t6 t9 t10 t46 t48 : Value) (C3 : World → Prop) (K4 : Value → Value → World → Prop) (ds : List Deferred) (R : Ending → World → Prop) (w : World) : Prop :=
 callK Try.prog 23 #[t46] (outQ Try.prog ds [(some 4, t6)] R) w fun t47 w =>
 C3 w ∧ (
 callK Try.prog 23 #[t48] (outQ Try.prog ds [(some 4, t6)] R) w fun t49 w =>
 C3 w ∧ (
 n_phrasebooklaw05_SchemaGrows_c47 t6 t9 t10 t47 t49 K4 ds R w))
def n_phrasebooklaw05_SchemaGrows_c49 (t6 t9 t46 t48 : Value) (C3 : World → Prop) (K4 : Value → Value → World → Prop) (ds : List Deferred) (R : Ending → World → Prop) (w : World) : Prop :=
 (
 callK Try.prog 23 #[t46] (outQ Try.prog ds [(some 4, t6)] R) w fun t47 w =>
 C3 w ∧ (
 n_phrasebooklaw05_SchemaGrows_c46 t6 t9 t47 t48 C3 K4 ds R w)) ∧ (
 opV Try.prog (Instr.alloc 44 true (.tuple #[])) (outQ Try.prog ds [(some 4, t6)] R) w fun t10 w =>
 C3 w ∧ (
 n_phrasebooklaw05_SchemaGrows_c48 t6 t9 t10 t46 t48 C3 K4 ds R w))
def n_phrasebooklaw05_SchemaGrows_c50 (t6 t9 t10 t47 t49 : Value) (K4 : Value → Value → World → Prop) (ds : List Deferred) (R : Ending → World → Prop) (w : World) : Prop :=
 opU Try.prog (Instr.storeAt 44 t9 t47) (outQ Try.prog ds [(some 4, t6)] R) w fun w =>
 turnK w fun C40 w =>
 opU Try.prog (Instr.storeAt 44 t10 t49) (outQ Try.prog ds [(some 4, t6)] R) w fun w =>
 turnK w fun C41 w =>
 K4 t9 t10 w
def n_phrasebooklaw05_SchemaGrows_c51 (t6 t9 t10 t47 t49 : Value) (K4 : Value → Value → World → Prop) (ds : List Deferred) (R : Ending → World → Prop) (w : World) : Prop :=
 opU Try.prog (Instr.storeAt 44 t9 t47) (outQ Try.prog ds [(some 4, t6)] R) w fun w =>
 turnK w fun C42 w =>
 opU Try.prog (Instr.storeAt 44 t10 t49) (outQ Try.prog ds [(some 4, t6)] R) w fun w =>
 turnK w fun C43 w =>
 K4 t9 t10 w
def n_phrasebooklaw05_SchemaGrows_c52 (t6 t10 t47 t48 : Value) (C3 : World → Prop) (K4 : Value → Value → World → Prop) (ds : List Deferred) (R : Ending → World → Prop) (w : World) : Prop :=
 (
 callK Try.prog 23 #[t48] (outQ Try.prog ds [(some 4, t6)] R) w fun t49 w =>
 C3 w ∧ (
 opV Try.prog (Instr.alloc 44 true (.tuple #[])) (outQ Try.prog ds [(some 4, t6)] R) w fun t9 w =>
 C3 w ∧ (
 n_phrasebooklaw05_SchemaGrows_c50 t6 t9 t10 t47 t49 K4 ds R w))) ∧ (
 opV Try.prog (Instr.alloc 44 true (.tuple #[])) (outQ Try.prog ds [(some 4, t6)] R) w fun t9 w =>
 C3 w ∧ (
 callK Try.prog 23 #[t48] (outQ Try.prog ds [(some 4, t6)] R) w fun t49 w =>
 C3 w ∧ (
 n_phrasebooklaw05_SchemaGrows_c51 t6 t9 t10 t47 t49 K4 ds R w)))
def n_phrasebooklaw05_SchemaGrows_c53 (t6 t9 t10 t47 t49 : Value) (K4 : Value → Value → World → Prop) (ds : List Deferred) (R : Ending → World → Prop) (w : World) : Prop :=
 opU Try.prog (Instr.storeAt 44 t9 t47) (outQ Try.prog ds [(some 4, t6)] R) w fun w =>
 turnK w fun C44 w =>
 opU Try.prog (Instr.storeAt 44 t10 t49) (outQ Try.prog ds [(some 4, t6)] R) w fun w =>
 turnK w fun C45 w =>
 K4 t9 t10 w
def n_phrasebooklaw05_SchemaGrows_c54 (t6 t9 t10 t46 t48 : Value) (C3 : World → Prop) (K4 : Value → Value → World → Prop) (ds : List Deferred) (R : Ending → World → Prop) (w : World) : Prop :=
 callK Try.prog 23 #[t46] (outQ Try.prog ds [(some 4, t6)] R) w fun t47 w =>
 C3 w ∧ (
 callK Try.prog 23 #[t48] (outQ Try.prog ds [(some 4, t6)] R) w fun t49 w =>
 C3 w ∧ (
 n_phrasebooklaw05_SchemaGrows_c53 t6 t9 t10 t47 t49 K4 ds R w))
def n_phrasebooklaw05_SchemaGrows_c55 (t6 t10 t46 t48 : Value) (C3 : World → Prop) (K4 : Value → Value → World → Prop) (ds : List Deferred) (R : Ending → World → Prop) (w : World) : Prop :=
 (
 callK Try.prog 23 #[t46] (outQ Try.prog ds [(some 4, t6)] R) w fun t47 w =>
 C3 w ∧ (
 n_phrasebooklaw05_SchemaGrows_c52 t6 t10 t47 t48 C3 K4 ds R w)) ∧ (
 opV Try.prog (Instr.alloc 44 true (.tuple #[])) (outQ Try.prog ds [(some 4, t6)] R) w fun t9 w =>
 C3 w ∧ (
 n_phrasebooklaw05_SchemaGrows_c54 t6 t9 t10 t46 t48 C3 K4 ds R w))
def n_phrasebooklaw05_SchemaGrows_c56 (t2 t3 t6 t8 t29 : Value) (C3 : World → Prop) (ds : List Deferred) (R : Ending → World → Prop) (w : World) : Prop :=
 qV Try.prog C3 (Instr.loadAt 44 t3) fun t46 =>
 qV Try.prog C3 (Instr.loadAt 44 t3) fun t48 =>
 joinK (fun (t9 : Value) (t10 : Value) (w : World) =>
 n_phrasebooklaw05_SchemaGrows_c33 t2 t3 t6 t8 t9 t10 t29 ds R w) fun K4 =>
 (
 callK Try.prog 23 #[t46] (outQ Try.prog ds [(some 4, t6)] R) w fun t47 w =>
 C3 w ∧ (
 n_phrasebooklaw05_SchemaGrows_c43 t6 t47 t48 C3 K4 ds R w)) ∧ (
 opV Try.prog (Instr.alloc 44 true (.tuple #[])) (outQ Try.prog ds [(some 4, t6)] R) w fun t9 w =>
 C3 w ∧ (
 n_phrasebooklaw05_SchemaGrows_c49 t6 t9 t46 t48 C3 K4 ds R w)) ∧ (
 opV Try.prog (Instr.alloc 44 true (.tuple #[])) (outQ Try.prog ds [(some 4, t6)] R) w fun t10 w =>
 C3 w ∧ (
 n_phrasebooklaw05_SchemaGrows_c55 t6 t10 t46 t48 C3 K4 ds R w))
def n_phrasebooklaw05_SchemaGrows_c57 (t6 : Value) (ds : List Deferred) (R : Ending → World → Prop) (w : World) : Prop :=
 callK Try.prog 8 #[] (outQ Try.prog ds [(some 4, t6)] R) w fun t41 w =>
 opU Try.prog (Instr.storeAt 4 t6 t41) (outQ Try.prog ds [(some 4, t6)] R) w fun w =>
 outX Try.prog ds [(some 4, t6)] R w
def n_phrasebooklaw05_SchemaGrows_c58 (t1 t2 t3 t6 t29 : Value) (ds : List Deferred) (R : Ending → World → Prop) (w : World) : Prop :=
 opV Try.prog (Go.convert 5 3 t1) (outQ Try.prog ds [(some 4, t6)] R) w fun t43 w =>
 opV Try.prog (binS .rem 3 false t43 t29) (outQ Try.prog ds [(some 4, t6)] R) w fun t45 w =>
 opV Try.prog (Instr.alloc 3 true (.tuple #[])) (outQ Try.prog ds [(some 4, t6)] R) w fun t8 w =>
 opU Try.prog (Instr.storeAt 3 t8 t45) (outQ Try.prog ds [(some 4, t6)] R) w fun w =>
 drawK w fun C3 w =>
 n_phrasebooklaw05_SchemaGrows_c56 t2 t3 t6 t8 t29 C3 ds R w
def n_phrasebooklaw05_SchemaGrows_c59 (t1 t2 t3 t6 t29 t32 t35 : Value) (ds : List Deferred) (R : Ending → World → Prop) (w : World) : Prop :=
 pickK t32 (.bool true) t35 fun t36 =>
 joinK (fun (t39 : Value) (w : World) =>
 pickK t36 (.bool true) t39 fun t40 =>
 condP t40 (
 n_phrasebooklaw05_SchemaGrows_c57 t6 ds R w) (
 n_phrasebooklaw05_SchemaGrows_c58 t1 t2 t3 t6 t29 ds R w)) fun K2 =>
 guardP t36 false (
 opV Try.prog (binS .gtr 3 true t29 (.int .i64 59)) (outQ Try.prog ds [(some 4, t6)] R) w fun t39 w =>
 K2 t39 w) (
 K2 undef w)
def n_phrasebooklaw05_SchemaGrows_c60 (t1 t2 t3 t6 t29 t31 : Value) (ds : List Deferred) (R : Ending → World → Prop) (w : World) : Prop :=
 opV Try.prog (Op.unary .not t31) (outQ Try.prog ds [(some 4, t6)] R) w fun t32 w =>
 joinK (fun (t35 : Value) (w : World) =>
 n_phrasebooklaw05_SchemaGrows_c59 t1 t2 t3 t6 t29 t32 t35 ds R w) fun K1 =>
 guardP t32 false (
 opV Try.prog (binS .eql 3 true t29 (.int .i64 0)) (outQ Try.prog ds [(some 4, t6)] R) w fun t35 w =>
 K1 t35 w) (
 K1 undef w)
def n_phrasebooklaw05_SchemaGrows (t0 t1 t2 : Value) (R : Ending → World → Prop) (w : World) : Prop :=
 (fun (ds : List Deferred) =>
 opV Try.prog (Instr.box 44 t0) (outQ Try.prog ds [(some 4, undef)] R) w fun t3 w =>
 opV Try.prog (Instr.alloc 4 true (.tuple #[])) (outQ Try.prog ds [(some 4, undef)] R) w fun t6 w =>
 opV Try.prog (Instr.fieldAt 44 t3 1) (outQ Try.prog ds [(some 4, t6)] R) w fun t27 w =>
 opV Try.prog (Instr.loadAt 42 t27) (outQ Try.prog ds [(some 4, t6)] R) w fun t28 w =>
 opV Try.prog (Builtin.len_ #[42] 3 #[t28]) (outQ Try.prog ds [(some 4, t6)] R) w fun t29 w =>
 opV Try.prog (Instr.loadAt 44 t3) (outQ Try.prog ds [(some 4, t6)] R) w fun t30 w =>
 callK Try.prog 17 #[t30] (outQ Try.prog ds [(some 4, t6)] R) w fun t31 w =>
 n_phrasebooklaw05_SchemaGrows_c60 t1 t2 t3 t6 t29 t31 ds R w) []
set_option maxRecDepth 100000 in
set_option maxHeartbeats 40000000 in
theorem n_phrasebooklaw05_SchemaGrows_sound {t0 t1 t2 : Value} {R : Ending → World → Prop} {w : World} (h : n_phrasebooklaw05_SchemaGrows t0 t1 t2 R w) : Calls Try.prog 6 #[t0, t1, t2] w R := by
  refine calls_of_denM (args := [t0, t1, t2]) Try.func6 rfl (Nat.le_of_ble_eq_true rfl) ?_
  unfold n_phrasebooklaw05_SchemaGrows at h
  dsimp only at h
  refine zs <| zr ?_
  refine zq h fun t3 w h => ?_
  refine zq h fun t6 w h => ?_
  refine zn <| zk <| zs <| zr ?_
  refine zq h fun t27 w h => ?_
  refine zq h fun t28 w h => ?_
  refine sim_builtin h rfl (fun _ _ h => outQ_of rfl h) ?_; intro t29 w h
  refine zm <| zn <| zk <| zs <| zs <| sim_regionG ?_
  refine sim_seg 4 rfl ?_
  refine zq h fun t30 w h => ?_
  refine sim_call h c17 rfl (fun _ _ h => outQ_of rfl h) ?_; intro t31 w h
  refine zq h fun t32 w h => ?_
  refine zm <| zn ?_
  refine joinK_elim h (fun K1 hK h => ?_)
  refine sim_groupJ 2 3 false [34, 35] (fun ρ w => K1 (ρ 35) w) rfl rfl (fun T hT => guardP_mono h (fun h => ?_) (fun h => ?_)) (fun σ w h => ?_)
  · refine zm ?_
    refine sim_bin h rfl rfl rfl (fun _ _ h => outQ_of rfl h) ?_; intro t35 w h
    refine zn ?_
    exact zt hT h
  · exact zt hT h
  subst hK
  refine sim_seg 2 rfl ?_
  refine sim_pick h rfl rfl rfl ?_; intro t36 h
  refine zm <| zn ?_
  refine joinK_elim h (fun K2 hK h => ?_)
  refine sim_groupJ 2 7 false [38, 39] (fun ρ w => K2 (ρ 39) w) rfl rfl (fun T hT => guardP_mono h (fun h => ?_) (fun h => ?_)) (fun σ w h => ?_)
  · refine zm ?_
    refine sim_bin h rfl rfl rfl (fun _ _ h => outQ_of rfl h) ?_; intro t39 w h
    refine zn ?_
    exact zt hT h
  · exact zt hT h
  subst hK
  refine sim_seg 1 rfl ?_
  refine sim_pick h rfl rfl rfl ?_; intro t40 h
  refine zn <| sim_end <| zk ?_
  refine sim_cond h rfl (fun h => ?_) (fun h => ?_)
  · refine zs <| zr ?_
    refine sim_call h c8 rfl (fun _ _ h => outQ_of rfl h) ?_; intro t41 w h
    refine sim_unit h rfl rfl (fun _ _ h => outQ_of rfl h) ?_; intro w h
    refine zn <| zk <| sim_ret <| sim_then_ret ?_
    exact Sw.bodyM_ret rfl h
  · refine sim_skip <| zk <| zs <| zr <| zm ?_
    refine zq h fun t43 w h => ?_
    refine zm ?_
    refine sim_bin h rfl rfl rfl (fun _ _ h => outQ_of rfl h) ?_; intro t45 w h
    refine zq h fun t8 w h => ?_
    refine sim_unit h rfl rfl (fun _ _ h => outQ_of rfl h) ?_; intro w h
    refine zn <| zk <| zs ?_
    obtain ⟨C3, hC, h⟩ := h
    refine sim_draw [9, 10, 46, 47, 48, 49] (by kernel_rfl) (by kernel_rfl) C3 ?_
    refine ze 0 hC h fun t46 h => ?_
    refine ze 2 hC h fun t48 h => ?_
    refine joinK_elim h (fun K4 hK h => ?_)
    refine sim_dmeet [9, 10, 47, 49] (fun ρ w => K4 (ρ 9) (ρ 10) w) (fun T hT => ?_) (fun σ w h => ?_)
    · obtain ⟨h0, h1, h2⟩ := h
      refine sim_dloud3 1 4 5 rfl rfl rfl (by kernel_rfl) (fun _ _ => rfl) (fun _ _ => rfl) (fun _ _ => rfl) ?_ ?_ ?_
      · have h := h0
        refine sim_call h c23 rfl (fun _ _ h => outQ_ofD rfl rfl h) ?_; intro t47 w h
        refine zn ?_
        obtain ⟨hC, h⟩ := h
        refine ⟨_, fun _ h => h, hC, ?_⟩
        obtain ⟨h0, h1, h2⟩ := h
        refine sim_dloud3 3 4 5 rfl rfl rfl (by kernel_rfl) (fun _ _ => rfl) (fun _ _ => rfl) (fun _ _ => rfl) ?_ ?_ ?_
        · have h := h0
          refine sim_call h c23 rfl (fun _ _ h => outQ_ofD rfl rfl h) ?_; intro t49 w h
          refine zn ?_
          obtain ⟨hC, h⟩ := h
          refine ⟨_, fun _ h => h, hC, ?_⟩
          obtain ⟨h0, h1⟩ := h
          refine sim_dloud2 4 5 rfl rfl (by kernel_rfl) (fun _ _ => rfl) (fun _ _ => rfl) ?_ ?_
          · have h := h0
            refine sim_val h rfl rfl (fun _ _ h => outQ_ofD rfl rfl h) ?_; intro t9 w h
            refine zn ?_
            obtain ⟨hC, h⟩ := h
            refine ⟨_, fun _ h => h, hC, ?_⟩
            refine sim_dloud 5 rfl (by kernel_rfl) (fun _ _ => rfl) ?_
            refine sim_val h rfl rfl (fun _ _ h => outQ_ofD rfl rfl h) ?_; intro t10 w h
            refine zn ?_
            obtain ⟨hC, h⟩ := h
            refine ⟨hC, ?_⟩
            refine sim_dturn 6 2 rfl (by kernel_rfl) (by kernel_rfl) (fun _ _ => rfl) ?_
            refine sim_unit h rfl rfl (fun _ _ h => outQ_ofD rfl rfl h) ?_; intro w h
            refine zn ?_
            obtain ⟨C22, hC, h⟩ := h
            refine ⟨C22, hC, ?_⟩
            refine sim_dturn 7 1 rfl (by kernel_rfl) (by kernel_rfl) (fun _ _ => rfl) ?_
            refine sim_unit h rfl rfl (fun _ _ h => outQ_ofD rfl rfl h) ?_; intro w h
            refine zn ?_
            obtain ⟨C23, hC, h⟩ := h
            refine ⟨C23, hC, ?_⟩
            refine sim_dend (by kernel_rfl) ?_
            exact zt hT h
          · have h := h1
            refine sim_val h rfl rfl (fun _ _ h => outQ_ofD rfl rfl h) ?_; intro t10 w h
            refine zn ?_
            obtain ⟨hC, h⟩ := h
            refine ⟨_, fun _ h => h, hC, ?_⟩
            refine sim_dloud 4 rfl (by kernel_rfl) (fun _ _ => rfl) ?_
            refine sim_val h rfl rfl (fun _ _ h => outQ_ofD rfl rfl h) ?_; intro t9 w h
            refine zn ?_
            obtain ⟨hC, h⟩ := h
            refine ⟨hC, ?_⟩
            refine sim_dturn 6 2 rfl (by kernel_rfl) (by kernel_rfl) (fun _ _ => rfl) ?_
            refine sim_unit h rfl rfl (fun _ _ h => outQ_ofD rfl rfl h) ?_; intro w h
            refine zn ?_
            obtain ⟨C24, hC, h⟩ := h
            refine ⟨C24, hC, ?_⟩
            refine sim_dturn 7 1 rfl (by kernel_rfl) (by kernel_rfl) (fun _ _ => rfl) ?_
            refine sim_unit h rfl rfl (fun _ _ h => outQ_ofD rfl rfl h) ?_; intro w h
            refine zn ?_
            obtain ⟨C25, hC, h⟩ := h
            refine ⟨C25, hC, ?_⟩
            refine sim_dend (by kernel_rfl) ?_
            exact zt hT h
        · have h := h1
          refine sim_val h rfl rfl (fun _ _ h => outQ_ofD rfl rfl h) ?_; intro t9 w h
          refine zn ?_
          obtain ⟨hC, h⟩ := h
          refine ⟨_, fun _ h => h, hC, ?_⟩
          obtain ⟨h0, h1⟩ := h
          refine sim_dloud2 3 5 rfl rfl (by kernel_rfl) (fun _ _ => rfl) (fun _ _ => rfl) ?_ ?_
          · have h := h0
            refine sim_call h c23 rfl (fun _ _ h => outQ_ofD rfl rfl h) ?_; intro t49 w h
            refine zn ?_
            obtain ⟨hC, h⟩ := h
            refine ⟨_, fun _ h => h, hC, ?_⟩
            refine sim_dloud 5 rfl (by kernel_rfl) (fun _ _ => rfl) ?_
            refine sim_val h rfl rfl (fun _ _ h => outQ_ofD rfl rfl h) ?_; intro t10 w h
            refine zn ?_
            obtain ⟨hC, h⟩ := h
            refine ⟨hC, ?_⟩
            refine sim_dturn 6 2 rfl (by kernel_rfl) (by kernel_rfl) (fun _ _ => rfl) ?_
            refine sim_unit h rfl rfl (fun _ _ h => outQ_ofD rfl rfl h) ?_; intro w h
            refine zn ?_
            obtain ⟨C26, hC, h⟩ := h
            refine ⟨C26, hC, ?_⟩
            refine sim_dturn 7 1 rfl (by kernel_rfl) (by kernel_rfl) (fun _ _ => rfl) ?_
            refine sim_unit h rfl rfl (fun _ _ h => outQ_ofD rfl rfl h) ?_; intro w h
            refine zn ?_
            obtain ⟨C27, hC, h⟩ := h
            refine ⟨C27, hC, ?_⟩
            refine sim_dend (by kernel_rfl) ?_
            exact zt hT h
          · have h := h1
            refine sim_val h rfl rfl (fun _ _ h => outQ_ofD rfl rfl h) ?_; intro t10 w h
            refine zn ?_
            obtain ⟨hC, h⟩ := h
            refine ⟨_, fun _ h => h, hC, ?_⟩
            refine sim_dloud 3 rfl (by kernel_rfl) (fun _ _ => rfl) ?_
            refine sim_call h c23 rfl (fun _ _ h => outQ_ofD rfl rfl h) ?_; intro t49 w h
            refine zn ?_
            obtain ⟨hC, h⟩ := h
            refine ⟨hC, ?_⟩
            refine sim_dturn 6 2 rfl (by kernel_rfl) (by kernel_rfl) (fun _ _ => rfl) ?_
            refine sim_unit h rfl rfl (fun _ _ h => outQ_ofD rfl rfl h) ?_; intro w h
            refine zn ?_
            obtain ⟨C28, hC, h⟩ := h
            refine ⟨C28, hC, ?_⟩
            refine sim_dturn 7 1 rfl (by kernel_rfl) (by kernel_rfl) (fun _ _ => rfl) ?_
            refine sim_unit h rfl rfl (fun _ _ h => outQ_ofD rfl rfl h) ?_; intro w h
            refine zn ?_
            obtain ⟨C29, hC, h⟩ := h
            refine ⟨C29, hC, ?_⟩
            refine sim_dend (by kernel_rfl) ?_
            exact zt hT h
        · have h := h2
          refine sim_val h rfl rfl (fun _ _ h => outQ_ofD rfl rfl h) ?_; intro t10 w h
          refine zn ?_
          obtain ⟨hC, h⟩ := h
          refine ⟨_, fun _ h => h, hC, ?_⟩
          obtain ⟨h0, h1⟩ := h
          refine sim_dloud2 3 4 rfl rfl (by kernel_rfl) (fun _ _ => rfl) (fun _ _ => rfl) ?_ ?_
          · have h := h0
            refine sim_call h c23 rfl (fun _ _ h => outQ_ofD rfl rfl h) ?_; intro t49 w h
            refine zn ?_
            obtain ⟨hC, h⟩ := h
            refine ⟨_, fun _ h => h, hC, ?_⟩
            refine sim_dloud 4 rfl (by kernel_rfl) (fun _ _ => rfl) ?_
            refine sim_val h rfl rfl (fun _ _ h => outQ_ofD rfl rfl h) ?_; intro t9 w h
            refine zn ?_
            obtain ⟨hC, h⟩ := h
            refine ⟨hC, ?_⟩
            refine sim_dturn 6 2 rfl (by kernel_rfl) (by kernel_rfl) (fun _ _ => rfl) ?_
            refine sim_unit h rfl rfl (fun _ _ h => outQ_ofD rfl rfl h) ?_; intro w h
            refine zn ?_
            obtain ⟨C30, hC, h⟩ := h
            refine ⟨C30, hC, ?_⟩
            refine sim_dturn 7 1 rfl (by kernel_rfl) (by kernel_rfl) (fun _ _ => rfl) ?_
            refine sim_unit h rfl rfl (fun _ _ h => outQ_ofD rfl rfl h) ?_; intro w h
            refine zn ?_
            obtain ⟨C31, hC, h⟩ := h
            refine ⟨C31, hC, ?_⟩
            refine sim_dend (by kernel_rfl) ?_
            exact zt hT h
          · have h := h1
            refine sim_val h rfl rfl (fun _ _ h => outQ_ofD rfl rfl h) ?_; intro t9 w h
            refine zn ?_
            obtain ⟨hC, h⟩ := h
            refine ⟨_, fun _ h => h, hC, ?_⟩
            refine sim_dloud 3 rfl (by kernel_rfl) (fun _ _ => rfl) ?_
            refine sim_call h c23 rfl (fun _ _ h => outQ_ofD rfl rfl h) ?_; intro t49 w h
            refine zn ?_
            obtain ⟨hC, h⟩ := h
            refine ⟨hC, ?_⟩
            refine sim_dturn 6 2 rfl (by kernel_rfl) (by kernel_rfl) (fun _ _ => rfl) ?_
            refine sim_unit h rfl rfl (fun _ _ h => outQ_ofD rfl rfl h) ?_; intro w h
            refine zn ?_
            obtain ⟨C32, hC, h⟩ := h
            refine ⟨C32, hC, ?_⟩
            refine sim_dturn 7 1 rfl (by kernel_rfl) (by kernel_rfl) (fun _ _ => rfl) ?_
            refine sim_unit h rfl rfl (fun _ _ h => outQ_ofD rfl rfl h) ?_; intro w h
            refine zn ?_
            obtain ⟨C33, hC, h⟩ := h
            refine ⟨C33, hC, ?_⟩
            refine sim_dend (by kernel_rfl) ?_
            exact zt hT h
      · have h := h1
        refine sim_val h rfl rfl (fun _ _ h => outQ_ofD rfl rfl h) ?_; intro t9 w h
        refine zn ?_
        obtain ⟨hC, h⟩ := h
        refine ⟨_, fun _ h => h, hC, ?_⟩
        obtain ⟨h0, h1⟩ := h
        refine sim_dloud2 1 5 rfl rfl (by kernel_rfl) (fun _ _ => rfl) (fun _ _ => rfl) ?_ ?_
        · have h := h0
          refine sim_call h c23 rfl (fun _ _ h => outQ_ofD rfl rfl h) ?_; intro t47 w h
          refine zn ?_
          obtain ⟨hC, h⟩ := h
          refine ⟨_, fun _ h => h, hC, ?_⟩
          obtain ⟨h0, h1⟩ := h
          refine sim_dloud2 3 5 rfl rfl (by kernel_rfl) (fun _ _ => rfl) (fun _ _ => rfl) ?_ ?_
          · have h := h0
            refine sim_call h c23 rfl (fun _ _ h => outQ_ofD rfl rfl h) ?_; intro t49 w h
            refine zn ?_
            obtain ⟨hC, h⟩ := h
            refine ⟨_, fun _ h => h, hC, ?_⟩
            refine sim_dloud 5 rfl (by kernel_rfl) (fun _ _ => rfl) ?_
            refine sim_val h rfl rfl (fun _ _ h => outQ_ofD rfl rfl h) ?_; intro t10 w h
            refine zn ?_
            obtain ⟨hC, h⟩ := h
            refine ⟨hC, ?_⟩
            refine sim_dturn 6 2 rfl (by kernel_rfl) (by kernel_rfl) (fun _ _ => rfl) ?_
            refine sim_unit h rfl rfl (fun _ _ h => outQ_ofD rfl rfl h) ?_; intro w h
            refine zn ?_
            obtain ⟨C34, hC, h⟩ := h
            refine ⟨C34, hC, ?_⟩
            refine sim_dturn 7 1 rfl (by kernel_rfl) (by kernel_rfl) (fun _ _ => rfl) ?_
            refine sim_unit h rfl rfl (fun _ _ h => outQ_ofD rfl rfl h) ?_; intro w h
            refine zn ?_
            obtain ⟨C35, hC, h⟩ := h
            refine ⟨C35, hC, ?_⟩
            refine sim_dend (by kernel_rfl) ?_
            exact zt hT h
          · have h := h1
            refine sim_val h rfl rfl (fun _ _ h => outQ_ofD rfl rfl h) ?_; intro t10 w h
            refine zn ?_
            obtain ⟨hC, h⟩ := h
            refine ⟨_, fun _ h => h, hC, ?_⟩
            refine sim_dloud 3 rfl (by kernel_rfl) (fun _ _ => rfl) ?_
            refine sim_call h c23 rfl (fun _ _ h => outQ_ofD rfl rfl h) ?_; intro t49 w h
            refine zn ?_
            obtain ⟨hC, h⟩ := h
            refine ⟨hC, ?_⟩
            refine sim_dturn 6 2 rfl (by kernel_rfl) (by kernel_rfl) (fun _ _ => rfl) ?_
            refine sim_unit h rfl rfl (fun _ _ h => outQ_ofD rfl rfl h) ?_; intro w h
            refine zn ?_
            obtain ⟨C36, hC, h⟩ := h
            refine ⟨C36, hC, ?_⟩
            refine sim_dturn 7 1 rfl (by kernel_rfl) (by kernel_rfl) (fun _ _ => rfl) ?_
            refine sim_unit h rfl rfl (fun _ _ h => outQ_ofD rfl rfl h) ?_; intro w h
            refine zn ?_
            obtain ⟨C37, hC, h⟩ := h
            refine ⟨C37, hC, ?_⟩
            refine sim_dend (by kernel_rfl) ?_
            exact zt hT h
        · have h := h1
          refine sim_val h rfl rfl (fun _ _ h => outQ_ofD rfl rfl h) ?_; intro t10 w h
          refine zn ?_
          obtain ⟨hC, h⟩ := h
          refine ⟨_, fun _ h => h, hC, ?_⟩
          refine sim_dloud 1 rfl (by kernel_rfl) (fun _ _ => rfl) ?_
          refine sim_call h c23 rfl (fun _ _ h => outQ_ofD rfl rfl h) ?_; intro t47 w h
          refine zn ?_
          obtain ⟨hC, h⟩ := h
          refine ⟨hC, ?_⟩
          refine sim_dloud 3 rfl (by kernel_rfl) (fun _ _ => rfl) ?_
          refine sim_call h c23 rfl (fun _ _ h => outQ_ofD rfl rfl h) ?_; intro t49 w h
          refine zn ?_
          obtain ⟨hC, h⟩ := h
          refine ⟨hC, ?_⟩
          refine sim_dturn 6 2 rfl (by kernel_rfl) (by kernel_rfl) (fun _ _ => rfl) ?_
          refine sim_unit h rfl rfl (fun _ _ h => outQ_ofD rfl rfl h) ?_; intro w h
          refine zn ?_
          obtain ⟨C38, hC, h⟩ := h
          refine ⟨C38, hC, ?_⟩
          refine sim_dturn 7 1 rfl (by kernel_rfl) (by kernel_rfl) (fun _ _ => rfl) ?_
          refine sim_unit h rfl rfl (fun _ _ h => outQ_ofD rfl rfl h) ?_; intro w h
          refine zn ?_
          obtain ⟨C39, hC, h⟩ := h
          refine ⟨C39, hC, ?_⟩
          refine sim_dend (by kernel_rfl) ?_
          exact zt hT h
      · have h := h2
        refine sim_val h rfl rfl (fun _ _ h => outQ_ofD rfl rfl h) ?_; intro t10 w h
        refine zn ?_
        obtain ⟨hC, h⟩ := h
        refine ⟨_, fun _ h => h, hC, ?_⟩
        obtain ⟨h0, h1⟩ := h
        refine sim_dloud2 1 4 rfl rfl (by kernel_rfl) (fun _ _ => rfl) (fun _ _ => rfl) ?_ ?_
        · have h := h0
          refine sim_call h c23 rfl (fun _ _ h => outQ_ofD rfl rfl h) ?_; intro t47 w h
          refine zn ?_
          obtain ⟨hC, h⟩ := h
          refine ⟨_, fun _ h => h, hC, ?_⟩
          obtain ⟨h0, h1⟩ := h
          refine sim_dloud2 3 4 rfl rfl (by kernel_rfl) (fun _ _ => rfl) (fun _ _ => rfl) ?_ ?_
          · have h := h0
            refine sim_call h c23 rfl (fun _ _ h => outQ_ofD rfl rfl h) ?_; intro t49 w h
            refine zn ?_
            obtain ⟨hC, h⟩ := h
            refine ⟨_, fun _ h => h, hC, ?_⟩
            refine sim_dloud 4 rfl (by kernel_rfl) (fun _ _ => rfl) ?_
            refine sim_val h rfl rfl (fun _ _ h => outQ_ofD rfl rfl h) ?_; intro t9 w h
            refine zn ?_
            obtain ⟨hC, h⟩ := h
            refine ⟨hC, ?_⟩
            refine sim_dturn 6 2 rfl (by kernel_rfl) (by kernel_rfl) (fun _ _ => rfl) ?_
            refine sim_unit h rfl rfl (fun _ _ h => outQ_ofD rfl rfl h) ?_; intro w h
            refine zn ?_
            obtain ⟨C40, hC, h⟩ := h
            refine ⟨C40, hC, ?_⟩
            refine sim_dturn 7 1 rfl (by kernel_rfl) (by kernel_rfl) (fun _ _ => rfl) ?_
            refine sim_unit h rfl rfl (fun _ _ h => outQ_ofD rfl rfl h) ?_; intro w h
            refine zn ?_
            obtain ⟨C41, hC, h⟩ := h
            refine ⟨C41, hC, ?_⟩
            refine sim_dend (by kernel_rfl) ?_
            exact zt hT h
          · have h := h1
            refine sim_val h rfl rfl (fun _ _ h => outQ_ofD rfl rfl h) ?_; intro t9 w h
            refine zn ?_
            obtain ⟨hC, h⟩ := h
            refine ⟨_, fun _ h => h, hC, ?_⟩
            refine sim_dloud 3 rfl (by kernel_rfl) (fun _ _ => rfl) ?_
            refine sim_call h c23 rfl (fun _ _ h => outQ_ofD rfl rfl h) ?_; intro t49 w h
            refine zn ?_
            obtain ⟨hC, h⟩ := h
            refine ⟨hC, ?_⟩
            refine sim_dturn 6 2 rfl (by kernel_rfl) (by kernel_rfl) (fun _ _ => rfl) ?_
            refine sim_unit h rfl rfl (fun _ _ h => outQ_ofD rfl rfl h) ?_; intro w h
            refine zn ?_
            obtain ⟨C42, hC, h⟩ := h
            refine ⟨C42, hC, ?_⟩
            refine sim_dturn 7 1 rfl (by kernel_rfl) (by kernel_rfl) (fun _ _ => rfl) ?_
            refine sim_unit h rfl rfl (fun _ _ h => outQ_ofD rfl rfl h) ?_; intro w h
            refine zn ?_
            obtain ⟨C43, hC, h⟩ := h
            refine ⟨C43, hC, ?_⟩
            refine sim_dend (by kernel_rfl) ?_
            exact zt hT h
        · have h := h1
          refine sim_val h rfl rfl (fun _ _ h => outQ_ofD rfl rfl h) ?_; intro t9 w h
          refine zn ?_
          obtain ⟨hC, h⟩ := h
          refine ⟨_, fun _ h => h, hC, ?_⟩
          refine sim_dloud 1 rfl (by kernel_rfl) (fun _ _ => rfl) ?_
          refine sim_call h c23 rfl (fun _ _ h => outQ_ofD rfl rfl h) ?_; intro t47 w h
          refine zn ?_
          obtain ⟨hC, h⟩ := h
          refine ⟨hC, ?_⟩
          refine sim_dloud 3 rfl (by kernel_rfl) (fun _ _ => rfl) ?_
          refine sim_call h c23 rfl (fun _ _ h => outQ_ofD rfl rfl h) ?_; intro t49 w h
          refine zn ?_
          obtain ⟨hC, h⟩ := h
          refine ⟨hC, ?_⟩
          refine sim_dturn 6 2 rfl (by kernel_rfl) (by kernel_rfl) (fun _ _ => rfl) ?_
          refine sim_unit h rfl rfl (fun _ _ h => outQ_ofD rfl rfl h) ?_; intro w h
          refine zn ?_
          obtain ⟨C44, hC, h⟩ := h
          refine ⟨C44, hC, ?_⟩
          refine sim_dturn 7 1 rfl (by kernel_rfl) (by kernel_rfl) (fun _ _ => rfl) ?_
          refine sim_unit h rfl rfl (fun _ _ h => outQ_ofD rfl rfl h) ?_; intro w h
          refine zn ?_
          obtain ⟨C45, hC, h⟩ := h
          refine ⟨C45, hC, ?_⟩
          refine sim_dend (by kernel_rfl) ?_
          exact zt hT h
    subst hK
    refine zk <| zs <| zr ?_
    refine zq h fun t50 w h => ?_
    refine zq h fun t51 w h => ?_
    refine zq h fun t52 w h => ?_
    refine zq h fun t53 w h => ?_
    refine sim_bin h rfl rfl rfl (fun _ _ h => outQ_of rfl h) ?_; intro t54 w h
    refine zq h fun t55 w h => ?_
    refine sim_build h rfl (fun _ _ h => outQ_of rfl h) ?_; intro t56 w h
    refine sim_call h c23 rfl (fun _ _ h => outQ_of rfl h) ?_; intro t57 w h
    refine zq h fun t11 w h => ?_
    refine sim_unit h rfl rfl (fun _ _ h => outQ_of rfl h) ?_; intro w h
    refine zn <| zk <| zs <| zs <| sim_regionG ?_
    refine sim_seg 6 rfl ?_
    refine zq h fun t58 w h => ?_
    refine zq h fun t59 w h => ?_
    refine sim_builtin h rfl (fun _ _ h => outQ_of rfl h) ?_; intro t60 w h
    refine zm ?_
    refine sim_bin h rfl rfl rfl (fun _ _ h => outQ_of rfl h) ?_; intro t62 w h
    refine zm <| zn ?_
    refine joinK_elim h (fun K5 hK h => ?_)
    refine sim_groupJ 5 5 false [64, 65, 66, 67, 68] (fun ρ w => K5 (ρ 68) w) rfl rfl (fun T hT => guardP_mono h (fun h => ?_) (fun h => ?_)) (fun σ w h => ?_)
    · refine zq h fun t64 w h => ?_
      refine zq h fun t65 w h => ?_
      refine sim_builtin h rfl (fun _ _ h => outQ_of rfl h) ?_; intro t66 w h
      refine zm ?_
      refine sim_bin h rfl rfl rfl (fun _ _ h => outQ_of rfl h) ?_; intro t68 w h
      refine zn ?_
      exact zt hT h
    · exact zt hT h
    subst hK
    refine sim_seg 2 rfl ?_
    refine sim_pick h rfl rfl rfl ?_; intro t69 h
    refine zm <| zn ?_
    refine joinK_elim h (fun K6 hK h => ?_)
    refine sim_groupJ 4 12 false [71, 72, 73, 74] (fun ρ w => K6 (ρ 74) w) rfl rfl (fun T hT => guardP_mono h (fun h => ?_) (fun h => ?_)) (fun σ w h => ?_)
    · refine zq h fun t71 w h => ?_
      refine zq h fun t72 w h => ?_
      refine sim_builtin h rfl (fun _ _ h => outQ_of rfl h) ?_; intro t73 w h
      refine sim_bin h rfl rfl rfl (fun _ _ h => outQ_of rfl h) ?_; intro t74 w h
      refine zn ?_
      exact zt hT h
    · exact zt hT h
    subst hK
    refine sim_seg 1 rfl ?_
    refine sim_pick h rfl rfl rfl ?_; intro t75 h
    refine zn <| sim_end <| zk ?_
    refine sim_cond h rfl (fun h => ?_) (fun h => ?_)
    · refine zs <| zr ?_
      refine sim_unit h rfl rfl (fun _ _ h => outQ_of rfl h) ?_; intro w h
      refine zn <| zk <| sim_ret <| sim_then_ret ?_
      exact Sw.bodyM_ret rfl h
    · refine sim_skip <| zk <| zs <| zr ?_
      refine zq h fun t76 w h => ?_
      refine zq h fun t77 w h => ?_
      refine zq h fun t78 w h => ?_
      refine zq h fun t79 w h => ?_
      refine zq h fun t12 w h => ?_
      refine sim_unit h rfl rfl (fun _ _ h => outQ_of rfl h) ?_; intro w h
      refine zn <| zk <| zs <| zr <| zm ?_
      refine zq h fun t81 w h => ?_
      refine sim_unit h rfl rfl (fun _ _ h => outQ_of rfl h) ?_; intro w h
      refine zn <| zk <| zs <| zr ?_
      refine zq h fun t82 w h => ?_
      refine zq h fun t83 w h => ?_
      refine zq h fun t84 w h => ?_
      refine sim_buildSlice h rfl (fun _ _ h => outQ_of rfl h) ?_; intro t85 w h
      refine sim_builtin h rfl (fun _ _ h => outQ_of rfl h) ?_; intro t86 w h
      refine zq h fun t87 w h => ?_
      refine sim_unit h rfl rfl (fun _ _ h => outQ_of rfl h) ?_; intro w h
      refine zn <| zk <| zs <| zr ?_
      refine zq h fun t89 w h => ?_
      refine sim_call h c26 rfl (fun _ _ h => outQ_of rfl h) ?_; intro t90 w h
      refine zm ?_
      refine zq h fun t91 w h => ?_
      refine zq h fun t92 w h => ?_
      refine zq h fun t13 w h => ?_
      refine sim_unit h rfl rfl (fun _ _ h => outQ_of rfl h) ?_; intro w h
      refine zm <| zn <| zk <| zs <| zs <| zr <| zm <| zn <| zk ?_
      refine sim_cond h rfl (fun h => ?_) (fun h => ?_)
      · refine zs <| zr ?_
        refine zq h fun t95 w h => ?_
        refine sim_call h c26 rfl (fun _ _ h => outQ_of rfl h) ?_; intro t96 w h
        refine zm ?_
        refine zq h fun t97 w h => ?_
        refine zq h fun t98 w h => ?_
        refine zq h fun t15 w h => ?_
        refine sim_unit h rfl rfl (fun _ _ h => outQ_of rfl h) ?_; intro w h
        refine zm <| zn <| zk <| zs <| sim_regionG ?_
        refine sim_seg 4 rfl ?_
        refine zq h fun t99 w h => ?_
        refine zq h fun t100 w h => ?_
        refine sim_bin h rfl rfl rfl (fun _ _ h => outQ_of rfl h) ?_; intro t101 w h
        refine zm <| zn ?_
        refine joinK_elim h (fun K7 hK h => ?_)
        refine sim_groupJ 2 3 false [103, 104] (fun ρ w => K7 (ρ 104) w) rfl rfl (fun T hT => guardP_mono h (fun h => ?_) (fun h => ?_)) (fun σ w h => ?_)
        · refine zm <| zm <| zn ?_
          exact zt hT h
        · exact zt hT h
        subst hK
        refine joinK_elim h (fun K8 hK h => ?_)
        refine sim_groupJ 3 5 true [105, 106, 107] (fun ρ w => K8 (ρ 107) w) rfl rfl (fun T hT => guardP_mono h (fun h => ?_) (fun h => ?_)) (fun σ w h => ?_)
        · refine zq h fun t105 w h => ?_
          refine zq h fun t106 w h => ?_
          refine sim_bin h rfl rfl rfl (fun _ _ h => outQ_of rfl h) ?_; intro t107 w h
          refine zn ?_
          exact zt hT h
        · exact zt hT h
        subst hK
        refine joinK_elim h (fun K9 hK h => ?_)
        refine sim_groupJ 1 3 false [108] (fun ρ w => K9 (ρ 108) w) rfl rfl (fun T hT => guardP_mono h (fun h => ?_) (fun h => ?_)) (fun σ w h => ?_)
        · refine sim_pick h rfl rfl rfl ?_; intro t108 h
          refine zn ?_
          exact zt hT h
        · exact zt hT h
        subst hK
        refine sim_seg 2 rfl ?_
        refine sim_pick h rfl rfl rfl ?_; intro t109 h
        refine zm <| zn ?_
        refine joinK_elim h (fun K10 hK h => ?_)
        refine sim_groupJ 3 11 true [111, 112, 113] (fun ρ w => K10 (ρ 113) w) rfl rfl (fun T hT => guardP_mono h (fun h => ?_) (fun h => ?_)) (fun σ w h => ?_)
        · refine zq h fun t111 w h => ?_
          refine sim_call h c27 rfl (fun _ _ h => outQ_of rfl h) ?_; intro t112 w h
          refine zq h fun t113 w h => ?_
          refine zn ?_
          exact zt hT h
        · exact zt hT h
        subst hK
        refine sim_seg 2 rfl ?_
        refine sim_pick h rfl rfl rfl ?_; intro t114 h
        refine zm <| zn ?_
        refine joinK_elim h (fun K11 hK h => ?_)
        refine sim_groupJ 1 16 true [116] (fun ρ w => K11 (ρ 116) w) rfl rfl (fun T hT => guardP_mono h (fun h => ?_) (fun h => ?_)) (fun σ w h => ?_)
        · refine sim_call h c8 rfl (fun _ _ h => outQ_of rfl h) ?_; intro t116 w h
          refine zn ?_
          exact zt hT h
        · exact zt hT h
        subst hK
        refine sim_seg 2 rfl ?_
        refine sim_pick h rfl rfl rfl ?_; intro t117 h
        refine sim_unit h rfl rfl (fun _ _ h => outQ_of rfl h) ?_; intro w h
        refine zn <| sim_end <| zk <| sim_ret <| sim_then_ret ?_
        exact Sw.bodyM_ret rfl h
      · refine sim_skip <| zk <| zs <| zr ?_
        refine zq h fun t119 w h => ?_
        refine zm ?_
        refine sim_call h c18 rfl (fun _ _ h => outQ_of rfl h) ?_; intro t121 w h
        refine zm ?_
        refine zq h fun t122 w h => ?_
        refine zq h fun t123 w h => ?_
        refine zm <| zm <| zn <| zk <| zs <| zs <| sim_regionG ?_
        refine sim_seg 3 rfl ?_
        refine zm ?_
        refine sim_call h c28 rfl (fun _ _ h => outQ_of rfl h) ?_; intro t125 w h
        refine zm <| zn ?_
        refine joinK_elim h (fun K12 hK h => ?_)
        refine sim_groupJ 2 2 true [127, 128] (fun ρ w => K12 (ρ 128) w) rfl rfl (fun T hT => guardP_mono h (fun h => ?_) (fun h => ?_)) (fun σ w h => ?_)
        · refine zm ?_
          refine zq h fun t128 w h => ?_
          refine zn ?_
          exact zt hT h
        · exact zt hT h
        subst hK
        refine sim_seg 2 rfl ?_
        refine sim_pick h rfl rfl rfl ?_; intro t129 h
        refine zm <| zn ?_
        refine joinK_elim h (fun K13 hK h => ?_)
        refine sim_groupJ 3 6 true [131, 132, 133] (fun ρ w => K13 (ρ 133) w) rfl rfl (fun T hT => guardP_mono h (fun h => ?_) (fun h => ?_)) (fun σ w h => ?_)
        · refine zq h fun t131 w h => ?_
          refine sim_call h c27 rfl (fun _ _ h => outQ_of rfl h) ?_; intro t132 w h
          refine zq h fun t133 w h => ?_
          refine zn ?_
          exact zt hT h
        · exact zt hT h
        subst hK
        refine sim_seg 1 rfl ?_
        refine sim_pick h rfl rfl rfl ?_; intro t134 h
        refine zn <| sim_end <| zk ?_
        refine sim_cond h rfl (fun h => ?_) (fun h => ?_)
        · refine zs <| zr ?_
          refine sim_unit h rfl rfl (fun _ _ h => outQ_of rfl h) ?_; intro w h
          refine zn <| zk <| sim_ret <| sim_then_ret ?_
          exact Sw.bodyM_ret rfl h
        · refine sim_skip <| zk <| zs <| zr ?_
          refine zq h fun t135 w h => ?_
          refine zq h fun t136 w h => ?_
          refine zm ?_
          refine sim_bin h rfl rfl rfl (fun _ _ h => outQ_of rfl h) ?_; intro t138 w h
          refine zq h fun t139 w h => ?_
          refine zq h fun t140 w h => ?_
          refine sim_unit h rfl rfl (fun _ _ h => outQ_of rfl h) ?_; intro w h
          refine zn <| zk <| zs <| zs ?_
          obtain ⟨C14, hC, h⟩ := h
          refine sim_draw [141, 142, 143, 144, 145, 146, 147, 148, 149, 150, 151, 152, 153, 154, 155] (by kernel_rfl) (by kernel_rfl) C14 ?_
          refine ze 0 hC h fun t141 h => ?_
          refine ze 1 hC h fun t142 h => ?_
          refine zw 2 hC ?_
          obtain ⟨t144, hv, h⟩ := h
          refine sim_dsilent 3 hC rfl (by kernel_rfl) (by kernel_rfl) (fun _ _ => rfl) rfl (Sw.qV_bin rfl rfl rfl hv) ?_
          refine ze 4 hC h fun t145 h => ?_
          refine ze 5 hC h fun t146 h => ?_
          refine ze 6 hC h fun t147 h => ?_
          refine ze 7 hC h fun t148 h => ?_
          refine ze 8 hC h fun t149 h => ?_
          obtain ⟨t150, hv, h⟩ := h
          refine sim_dsilent 9 hC rfl (by kernel_rfl) (by kernel_rfl) (fun _ _ => rfl) rfl (Sw.qV_bin rfl rfl rfl hv) ?_
          refine zw 10 hC ?_
          refine joinK_elim h (fun K15 hK h => ?_)
          refine sim_djoin 1 [13, 12, 11, 10, 9, 8, 7, 6, 5, 4, 3, 2, 1, 0] [152, 153, 154] (fun ρ w => K15 (ρ 154) w) (fun _ hT => ?_) (fun σ w hC h => ?_)
          · rcases Sw.guardP_cases h with ⟨hb, h⟩ | ⟨hb, h⟩
            · obtain ⟨t152, hv, h⟩ := h
              refine sim_dsilent 11 hC rfl (by kernel_rfl) (by kernel_rfl) (fun _ _ => Sw.guardP_true hb) rfl (Sw.qV_run rfl hv) ?_
              refine sim_dloud 12 rfl (by kernel_rfl) (fun _ _ => Sw.guardP_true hb) ?_
              refine sim_call h c27 rfl (fun _ _ h => outQ_ofD rfl rfl h) ?_; intro t153 w h
              refine zn ?_
              obtain ⟨hC, h⟩ := h
              refine ⟨hC, ?_⟩
              obtain ⟨t154, hv, h⟩ := h
              refine sim_dsilent 13 hC rfl (by kernel_rfl) (by kernel_rfl) (fun _ _ => Sw.guardP_true hb) rfl (Sw.qV_run rfl hv) ?_
              exact hT _ _ (by repeat (first | exact Sw.Fr.refl _ _ | refine Sw.Fr.put rfl ?_ | refine Sw.Fr.put_none ?_ | refine Sw.Fr.mix rfl ?_ | refine Sw.Fr.skipAll rfl ?_)) hC h
            · refine sim_dskip 11 hC rfl (by kernel_rfl) (by kernel_rfl) (fun _ _ => Sw.guardP_false hb) ?_
              refine sim_dskip 12 hC rfl (by kernel_rfl) (by kernel_rfl) (fun _ _ => Sw.guardP_false hb) ?_
              refine sim_dskip 13 hC rfl (by kernel_rfl) (by kernel_rfl) (fun _ _ => Sw.guardP_false hb) ?_
              exact hT _ _ (by repeat (first | exact Sw.Fr.refl _ _ | refine Sw.Fr.put rfl ?_ | refine Sw.Fr.put_none ?_ | refine Sw.Fr.mix rfl ?_ | refine Sw.Fr.skipAll rfl ?_)) hC h
          subst hK
          obtain ⟨b155, hb155, h⟩ := Sw.pickK_elim h
          refine sim_dsilent 14 hC rfl (by kernel_rfl) (by kernel_rfl) (fun _ _ => rfl) rfl (Sw.pick_run hb155 rfl rfl) ?_
          refine sim_dend (by kernel_rfl) ?_
          refine zk ?_
          refine sim_cond h rfl (fun h => ?_) (fun h => ?_)
          · refine zs <| zr ?_
            refine sim_unit h rfl rfl (fun _ _ h => outQ_of rfl h) ?_; intro w h
            refine zn <| zk <| sim_ret <| sim_then_ret ?_
            exact Sw.bodyM_ret rfl h
          · refine sim_skip <| zk <| zs <| zr ?_
            refine zq h fun t157 w h => ?_
            refine zq h fun t158 w h => ?_
            refine sim_call h c29 rfl (fun _ _ h => outQ_of rfl h) ?_; intro t159 w h
            refine zm ?_
            refine zq h fun t160 w h => ?_
            refine zq h fun t161 w h => ?_
            refine zq h fun t19 w h => ?_
            refine sim_unit h rfl rfl (fun _ _ h => outQ_of rfl h) ?_; intro w h
            refine zm <| zn <| zk <| zs <| zs <| sim_regionG ?_
            refine sim_seg 3 rfl ?_
            refine zm ?_
            refine sim_bin h rfl rfl rfl (fun _ _ h => outQ_of rfl h) ?_; intro t163 w h
            refine zm <| zn ?_
            refine joinK_elim h (fun K16 hK h => ?_)
            refine sim_groupJ 2 2 false [165, 166] (fun ρ w => K16 (ρ 166) w) rfl rfl (fun T hT => guardP_mono h (fun h => ?_) (fun h => ?_)) (fun σ w h => ?_)
            · refine zq h fun t165 w h => ?_
              refine sim_bin h rfl rfl rfl (fun _ _ h => outQ_of rfl h) ?_; intro t166 w h
              refine zn ?_
              exact zt hT h
            · exact zt hT h
            subst hK
            refine sim_seg 2 rfl ?_
            refine sim_pick h rfl rfl rfl ?_; intro t167 h
            refine zm <| zn ?_
            refine joinK_elim h (fun K17 hK h => ?_)
            refine sim_groupJ 2 6 false [169, 170] (fun ρ w => K17 (ρ 170) w) rfl rfl (fun T hT => guardP_mono h (fun h => ?_) (fun h => ?_)) (fun σ w h => ?_)
            · refine zq h fun t169 w h => ?_
              refine sim_bin h rfl rfl rfl (fun _ _ h => outQ_of rfl h) ?_; intro t170 w h
              refine zn ?_
              exact zt hT h
            · exact zt hT h
            subst hK
            refine sim_seg 1 rfl ?_
            refine sim_pick h rfl rfl rfl ?_; intro t171 h
            refine zn <| sim_end <| zk ?_
            refine sim_cond h rfl (fun h => ?_) (fun h => ?_)
            · refine zs <| zr ?_
              refine sim_unit h rfl rfl (fun _ _ h => outQ_of rfl h) ?_; intro w h
              refine zn <| zk <| sim_ret <| sim_then_ret ?_
              exact Sw.bodyM_ret rfl h
            · refine sim_skip <| zk <| zs <| zr ?_
              refine zq h fun t172 w h => ?_
              refine zq h fun t173 w h => ?_
              refine zq h fun t174 w h => ?_
              refine zq h fun t175 w h => ?_
              refine zq h fun t176 w h => ?_
              refine sim_call h c24 rfl (fun _ _ h => outQ_of rfl h) ?_; intro t177 w h
              refine zm <| zn <| zk <| zs <| zs <| zr <| zm ?_
              refine sim_bin h rfl rfl rfl (fun _ _ h => outQ_of rfl h) ?_; intro t179 w h
              refine zn <| zk ?_
              refine sim_cond h rfl (fun h => ?_) (fun h => ?_)
              · refine zs <| zr ?_
                refine sim_unit h rfl rfl (fun _ _ h => outQ_of rfl h) ?_; intro w h
                refine zn <| zk <| sim_ret <| sim_then_ret ?_
                exact Sw.bodyM_ret rfl h
              · refine sim_skip <| zk <| zs <| zs <| zr <| zm <| zn <| zk <| sim_block ?_
                refine sim_range [.ret] h rfl (fun l18 t181 w Kr18 Xr18 Qr18 h => ?_) (fun ds w h => ?_) (fun c ds w h => ?_) (fun ch ds w h => outQ_of rfl h)
                · refine zr <| zm <| zn <| zk ?_
                  obtain ⟨hr, h⟩ := h
                  refine ⟨rfl, hr, fun w hb => ?_⟩
                  have h := h w hb
                  refine sim_block <| zs <| zr ?_
                  refine zv h fun t183 w h => ?_
                  refine zm ?_
                  refine zc h c18 fun t185 w h => ?_
                  refine zm ?_
                  refine zv h fun t186 w h => ?_
                  refine zv h fun t187 w h => ?_
                  refine zm <| zm <| zn <| zk <| zs <| zr ?_
                  refine zv h fun t189 w h => ?_
                  refine zm ?_
                  refine zc h c29 fun t191 w h => ?_
                  refine zm ?_
                  refine zv h fun t192 w h => ?_
                  refine zv h fun t193 w h => ?_
                  refine zm <| zm <| zn <| zk <| zs <| sim_regionG ?_
                  refine sim_seg 3 rfl ?_
                  refine zm ?_
                  refine zv h fun t195 w h => ?_
                  refine zm <| zn ?_
                  refine joinK_elim h (fun K19 hK h => ?_)
                  refine sim_groupJ 3 2 false [197, 198, 199] (fun ρ w => K19 (ρ 199) w) rfl rfl (fun T hT => guardP_mono h (fun h => ?_) (fun h => ?_)) (fun σ w h => ?_)
                  · refine zm ?_
                    refine zv h fun t198 w h => ?_
                    refine zb h fun t199 w h => ?_
                    refine zn ?_
                    exact zt hT h
                  · exact zt hT h
                  subst hK
                  refine sim_seg 2 rfl ?_
                  refine sim_pick h rfl rfl rfl ?_; intro t200 h
                  refine zm <| zn ?_
                  refine joinK_elim h (fun K20 hK h => ?_)
                  refine sim_groupJ 2 7 false [202, 203] (fun ρ w => K20 (ρ 203) w) rfl rfl (fun T hT => guardP_mono h (fun h => ?_) (fun h => ?_)) (fun σ w h => ?_)
                  · refine zm ?_
                    refine zb h fun t203 w h => ?_
                    refine zn ?_
                    exact zt hT h
                  · exact zt hT h
                  subst hK
                  refine sim_seg 2 rfl ?_
                  refine sim_pick h rfl rfl rfl ?_; intro t204 h
                  refine zm <| zn ?_
                  refine joinK_elim h (fun K21 hK h => ?_)
                  refine sim_groupJ 3 11 false [206, 207, 208] (fun ρ w => K21 (ρ 208) w) rfl rfl (fun T hT => guardP_mono h (fun h => ?_) (fun h => ?_)) (fun σ w h => ?_)
                  · refine zm ?_
                    refine zv h fun t207 w h => ?_
                    refine zb h fun t208 w h => ?_
                    refine zn ?_
                    exact zt hT h
                  · exact zt hT h
                  subst hK
                  refine sim_seg 1 rfl ?_
                  refine sim_pick h rfl rfl rfl ?_; intro t209 h
                  refine zn <| sim_end <| zk ?_
                  refine sim_cond h rfl (fun h => ?_) (fun h => ?_)
                  · refine zs <| zr ?_
                    refine zu h fun w h => ?_
                    refine zn <| zk <| sim_ret <| sim_block_ret ?_
                    exact ⟨rfl, 0, rfl, h⟩
                  · refine sim_skip <| sim_block_normal ?_
                    exact ⟨rfl, h⟩
                · refine sim_block_normal <| zk <| zs <| zr ?_
                  refine sim_call h c8 rfl (fun _ _ h => outQ_of rfl h) ?_; intro t210 w h
                  refine sim_unit h rfl rfl (fun _ _ h => outQ_of rfl h) ?_; intro w h
                  refine zn <| zk <| sim_ret ?_
                  exact Sw.bodyM_ret rfl h
                · rcases c with _ | c
                  · refine ⟨_, rfl, .inl ⟨rfl, ?_⟩⟩
                    refine sim_block_ret <| sim_then_ret ?_
                    exact Sw.bodyM_ret rfl h
                  exact h.elim
end Go.Proofs.Ytiajhbbmgglmlaa
