/-
  Lemmas for the claim.
-/
import Derived.Test.YtiajhbbmgglmlaaFc1
set_option linter.all false
namespace Go.Sw
section
variable {α : Type}
def mkE (enc : α → Value) (x : α × Value × Nat) : MapEntry := { key := enc x.1, val := x.2.1, born := x.2.2 }
structure MapB (w : World) (r : Nat) (enc : α → Value) (L : List (α × Value × Nat)) (c : Nat) : Prop where
  obj : w.heap[r]? = some (.map (L.map (mkE enc)).toArray c)
  lt : ∀ x ∈ L, x.2.2 < c
  births : L.Pairwise (fun x y => x.2.2 ≠ y.2.2)
  keys : L.Pairwise (fun x y => x.1 ≠ y.1)
section dec
variable [DecidableEq α]
def look (L : List (α × Value × Nat)) (k : α) : Option Value := (L.find? (fun x => decide (x.1 = k))).map (·.2.1)
def bornOf (L : List (α × Value × Nat)) (k : α) : Nat := ((L.find? (fun x => decide (x.1 = k))).map (·.2.2)).getD 0
def hasK (L : List (α × Value × Nat)) (k : α) : Bool := L.any (fun x => decide (x.1 = k))
def updL (L : List (α × Value × Nat)) (k : α) (v : Value) : List (α × Value × Nat) := L.map fun x => if x.1 = k then (x.1, v, x.2.2) else x
def putL (L : List (α × Value × Nat)) (c : Nat) (k : α) (v : Value) : List (α × Value × Nat) := if hasK L k then updL L k v else L ++ [(k, v, c)]
def putC (L : List (α × Value × Nat)) (c : Nat) (k : α) : Nat := if hasK L k then c else c + 1
def entL (L : List (α × Value × Nat)) (c : Nat) (k : α) (z : Value) : List (α × Value × Nat) := if hasK L k then L else L ++ [(k, z, c)]
end dec
theorem MapB.ext {w w' : World} {r : Nat} {enc : α → Value} {L : List (α × Value × Nat)} {c : Nat} (h : MapB w r enc L c) (e : Ext w w') : MapB w' r enc L c := ⟨e.obj h.obj, h.lt, h.births, h.keys⟩
theorem MapB.setCell {w : World} {r : Nat} {enc : α → Value} {L : List (α × Value × Nat)} {c : Nat} (h : MapB w r enc L c) (a : Addr) (v : Value) : MapB (w.setCell a v) r enc L c := ⟨(KeepsOthers.setCell w a v).same _ _ h.obj rfl, h.lt, h.births, h.keys⟩
theorem MapB.keeps {w w' : World} {r : Nat} {enc : α → Value} {L : List (α × Value × Nat)} {c : Nat} (h : MapB w r enc L c) (e : KeepsOthers w w') : MapB w' r enc L c := ⟨e.same _ _ h.obj rfl, h.lt, h.births, h.keys⟩
theorem MapB.new (w : World) (enc : α → Value) : MapB (w.alloc (.map #[] 0)) w.heap.size enc [] 0 := ⟨World.alloc_heap_new w _, by simp, by simp, by simp⟩
theorem MapB.putOther {w : World} {r r' : Nat} {enc : α → Value} {L : List (α × Value × Nat)} {c : Nat} (h : MapB w r enc L c) (hne : r ≠ r') (o : Obj) : MapB (w.putObj r' o) r enc L c := ⟨(World.putObj_heap_other hne).trans h.obj, h.lt, h.births, h.keys⟩
variable [DecidableEq α]
theorem look_cons (x : α × Value × Nat) (L : List (α × Value × Nat)) (k : α) : look (x :: L) k = if x.1 = k then some x.2.1 else look L k := by
  unfold look
  by_cases h : x.1 = k <;> simp [h]
theorem hasK_look (L : List (α × Value × Nat)) (k : α) : hasK L k = (look L k).isSome := by
  induction L with
  | nil => rfl
  | cons x L ih =>
    rw [look_cons]
    unfold hasK at *
    simp only [List.any_cons, ih]
    by_cases h : x.1 = k <;> simp [h]
theorem look_append (L : List (α × Value × Nat)) (k k' : α) (v : Value) (c : Nat) : look (L ++ [(k, v, c)]) k' = (look L k').or (if k = k' then some v else none) := by
  induction L with
  | nil => rw [List.nil_append, look_cons]; by_cases h : k = k' <;> simp [h, look]
  | cons x L ih =>
    rw [List.cons_append, look_cons, look_cons, ih]
    by_cases h : x.1 = k' <;> simp [h]
theorem look_upd (L : List (α × Value × Nat)) (k k' : α) (v : Value) : look (updL L k v) k' = if k' = k then (if hasK L k then some v else none) else look L k' := by
  induction L with
  | nil => by_cases h : k' = k <;> simp [h, look, updL, hasK]
  | cons x L ih =>
    have e : updL (x :: L) k v = (if x.1 = k then (x.1, v, x.2.2) else x) :: updL L k v := rfl
    rw [e, look_cons, ih, look_cons]
    by_cases h : x.1 = k
    · by_cases h' : k' = k
      · subst h; subst h'; simp [hasK]
      · simp only [h, if_true, h', if_false]
        by_cases h2 : k = k'
        · exact absurd h2.symm h'
        · simp [h2]
    · by_cases h' : k' = k
      · subst h'; simp only [h, if_false, if_true, hasK, List.any_cons, decide_false, Bool.false_or]; congr
      · simp [h, h']
theorem look_put (L : List (α × Value × Nat)) (c : Nat) (k k' : α) (v : Value) : look (putL L c k v) k' = if k' = k then some v else look L k' := by
  unfold putL
  by_cases h : hasK L k = true
  · rw [if_pos h, look_upd, if_pos h]
  · rw [if_neg h, look_append]
    have hn : look L k = none := by rw [hasK_look] at h; simpa using h
    by_cases h' : k' = k
    · subst h'; simp [hn]
    · have : ¬ k = k' := fun e => h' e.symm
      simp [h', this]
structure KeyOK (P : Program) (kt : TypeId) (enc : α → Value) : Prop where
  find : ∃ d, P.underlying kt = some d ∧ ∀ a b, Instr.sameNow d (enc a) (enc b) = some (decide (a = b))
  check : ∀ e a w, (Instr.checkKey e 10000 kt (enc a)).run P w = .ok () w
  bits : ∀ a, Instr.sameBits 10000 (enc a) (enc a) = true
theorem bytes_beq' (a b : ByteArray) : (a == b) = decide (a = b) := by
  rw [Bool.eq_iff_iff, decide_eq_true_iff]
  cases a with
  | mk x => cases b with
    | mk y =>
      show (x == y) = true ↔ _
      rw [beq_iff_eq]
      simp
theorem KeyOK.string {P : Program} {kt : TypeId} (h : P.underlying kt = some .string) : KeyOK P kt (fun s : ByteArray => Value.string s) := by
  refine ⟨⟨_, h, fun a b => ?_⟩, fun e a w => ?_, fun a => by simp [Instr.sameBits, bytes_beq']⟩
  · simp [Instr.sameNow, bytes_beq']
  · unfold Instr.checkKey
    simp only [Sem.run_bind, run_underlying h, Result.andThen_ok]
    rfl
theorem KeyOK.int {P : Program} {kt : TypeId} {kd : IntKind} (h : P.underlying kt = some (.int kd)) : KeyOK P kt (fun s : Int => Value.int kd s) := by
  refine ⟨⟨_, h, fun a b => ?_⟩, fun e a w => ?_, fun a => by simp [Instr.sameBits]⟩
  · simp only [Instr.sameNow, if_true]; congr 1
  · unfold Instr.checkKey
    simp only [Sem.run_bind, run_underlying h, Result.andThen_ok]
    rfl
theorem findNow_enc {d : TypeDesc} {enc : α → Value} (hs : ∀ a b, Instr.sameNow d (enc a) (enc b) = some (decide (a = b))) (k : α) : ∀ (L : List (α × Value × Nat)) (i : Nat),
    (∃ j x, L[j]? = some x ∧ x.1 = k ∧ look L k = some x.2.1 ∧ bornOf L k = x.2.2 ∧ hasK L k = true ∧ Instr.findNow d (enc k) (L.map (mkE enc)) i = some (some (i + j, x.2.1))) ∨
    (hasK L k = false ∧ look L k = none ∧ Instr.findNow d (enc k) (L.map (mkE enc)) i = some none)
  | [], i => .inr ⟨rfl, rfl, rfl⟩
  | x :: L, i => by
    by_cases h : x.1 = k
    · refine .inl ⟨0, x, rfl, h, by rw [look_cons, if_pos h], by simp [bornOf, h], by simp [hasK, h], ?_⟩
      simp only [List.map_cons, Instr.findNow, mkE, hs, h, decide_true, Nat.add_zero]
    · have hne : ¬ k = x.1 := fun e => h e.symm
      rcases findNow_enc hs k L (i + 1) with ⟨j, y, h1, h2, h3, h4, h5, h6⟩ | ⟨h1, h2, h3⟩
      · refine .inl ⟨j + 1, y, by simpa using h1, h2, by rw [look_cons, if_neg h]; exact h3, by rw [← h4]; simp [bornOf, h], by unfold hasK at *; simp only [List.any_cons, h5, Bool.or_true], ?_⟩
        simp only [List.map_cons, Instr.findNow, mkE, hs, hne, decide_false]
        rw [show i + (j + 1) = i + 1 + j by omega]
        exact h6
      · refine .inr ⟨by unfold hasK at *; simp only [List.any_cons, h1, h, decide_false, Bool.or_self], by rw [look_cons, if_neg h]; exact h2, ?_⟩
        simp only [List.map_cons, Instr.findNow, mkE, hs, hne, decide_false]
        exact h3
variable {P : Program} {QP : List PanicEntry → World → Prop} {w : World} {k' : Value → World → Prop} {ku : World → Prop} {enc : α → Value} {r : Nat} {L : List (α × Value × Nat)} {c : Nat}
theorem run_findKey {kt : TypeId} (K : KeyOK P kt enc) (k : α) (L : List (α × Value × Nat)) :
    (∃ j x, L[j]? = some x ∧ x.1 = k ∧ look L k = some x.2.1 ∧ bornOf L k = x.2.2 ∧ hasK L k = true ∧ (Instr.findKey kt (enc k) (L.map (mkE enc))).run P w = .ok (some (j, x.2.1)) w) ∨
    (hasK L k = false ∧ look L k = none ∧ (Instr.findKey kt (enc k) (L.map (mkE enc))).run P w = .ok none w) := by
  obtain ⟨d, hd, hs⟩ := K.find
  rcases findNow_enc hs k L 0 with ⟨j, x, h1, h2, h3, h4, h5, h6⟩ | ⟨h1, h2, h3⟩
  · refine .inl ⟨j, x, h1, h2, h3, h4, h5, ?_⟩
    unfold Instr.findKey
    simp only [Sem.run_bind, run_underlying hd, Result.andThen_ok, h6, Nat.zero_add, Sem.run_pure]
  · refine .inr ⟨h1, h2, ?_⟩
    unfold Instr.findKey
    simp only [Sem.run_bind, run_underlying hd, Result.andThen_ok, h3, Sem.run_pure]
theorem run_getMap (h : MapB w r enc L c) : (getObj r).run P w = .ok (.map (L.map (mkE enc)).toArray c) w := by simp [getObj, Sem.run, h.obj]
theorem op_lookup {mt kt et : TypeId} {agg : Bool} {n m : Nat} {z : Value} (hm : P.underlying mt = some (.map kt et)) (K : KeyOK P kt enc) (hz : TyInfo P et agg n m z) (h : MapB w r enc L c) (k : α) :
    opV P (Instr.lookup mt (.map (some r)) (enc k) true) QP w k' = k' (.tuple #[(look L k).getD z, .bool (look L k).isSome]) w := by
  obtain ⟨⟨i, hi, _, _, hzz⟩, _⟩ := hz
  refine opV_ok ?_
  unfold Instr.lookup
  simp only [Sem.run_bind, run_underlying hm, Result.andThen_ok, run_getMap h, Sem.run_pure, K.check]
  rcases run_findKey (P := P) (w := w) K k L with ⟨j, x, h1, h2, h3, h4, h5, h6⟩ | ⟨h1, h2, h3⟩
  · simp only [h6, Result.andThen_ok, h3, Sem.run_pure]; rfl
  · simp only [h3, Result.andThen_ok, h2, Sem.run_pure, Sem.run_bind, zeroValue, typeInfo]
    simp [hi, hzz]
theorem op_lookup1 {mt kt et : TypeId} {agg : Bool} {n m : Nat} {z : Value} (hm : P.underlying mt = some (.map kt et)) (K : KeyOK P kt enc) (hz : TyInfo P et agg n m z) (h : MapB w r enc L c) (k : α) :
    opV P (Instr.lookup mt (.map (some r)) (enc k) false) QP w k' = k' ((look L k).getD z) w := by
  obtain ⟨⟨i, hi, _, _, hzz⟩, _⟩ := hz
  refine opV_ok ?_
  unfold Instr.lookup
  simp only [Sem.run_bind, run_underlying hm, Result.andThen_ok, run_getMap h, Sem.run_pure, K.check]
  rcases run_findKey (P := P) (w := w) K k L with ⟨j, x, h1, h2, h3, h4, h5, h6⟩ | ⟨h1, h2, h3⟩
  · simp only [h6, Result.andThen_ok, h3, Sem.run_pure]; rfl
  · simp only [h3, Result.andThen_ok, h2, Sem.run_pure, Sem.run_bind, zeroValue, typeInfo]
    simp [hi, hzz]
theorem op_makeMap (t : TypeId) : opV P (Instr.makeMap t none) QP w k' = k' (.map (some w.heap.size)) (w.alloc (.map #[] 0)) := opV_ok rfl
def mapObj (enc : α → Value) (L : List (α × Value × Nat)) (c : Nat) : Obj := .map (L.map (mkE enc)).toArray c
theorem MapB.put (h : MapB w r enc L c) (k : α) (v : Value) : MapB (w.putObj r (mapObj enc (putL L c k v) (putC L c k))) r enc (putL L c k v) (putC L c k) := by
  refine ⟨World.putObj_heap_same (Array.getElem?_eq_some_iff.1 h.obj).1, ?_, ?_, ?_⟩
  · intro x hx
    unfold putL at hx
    unfold putC
    by_cases hh : hasK L k = true
    · rw [if_pos hh] at hx ⊢
      unfold updL at hx
      obtain ⟨y, hy, rfl⟩ := List.mem_map.1 hx
      have := h.lt y hy
      split <;> exact this
    · rw [if_neg hh] at hx ⊢
      rcases List.mem_append.1 hx with hx | hx
      · have := h.lt x hx; omega
      · simp at hx; subst hx; simp
  · unfold putL
    by_cases hh : hasK L k = true
    · rw [if_pos hh]
      unfold updL
      rw [List.pairwise_map]
      refine h.births.imp fun {a b} hab => ?_
      split <;> split <;> exact hab
    · rw [if_neg hh]
      refine List.pairwise_append.2 ⟨h.births, by simp, fun x hx y hy => ?_⟩
      simp at hy; subst hy
      have := h.lt x hx
      simp; omega
  · unfold putL
    by_cases hh : hasK L k = true
    · rw [if_pos hh]
      unfold updL
      rw [List.pairwise_map]
      refine h.keys.imp fun {a b} hab => ?_
      split <;> split <;> exact hab
    · rw [if_neg hh]
      refine List.pairwise_append.2 ⟨h.keys, by simp, fun x hx y hy => ?_⟩
      simp at hy; subst hy
      intro e
      apply hh
      unfold hasK
      rw [List.any_eq_true]
      exact ⟨x, hx, by simpa using e⟩
theorem pos_of_keys (hk : L.Pairwise (fun x y => x.1 ≠ y.1)) {k : α} {j : Nat} {x : α × Value × Nat} (hj : L[j]? = some x) (hx : x.1 = k) {i : Nat} {y : α × Value × Nat} (hi : L[i]? = some y) (hy : y.1 = k) : i = j := by
  rw [List.pairwise_iff_getElem] at hk
  obtain ⟨hj', rfl⟩ := List.getElem?_eq_some_iff.1 hj
  obtain ⟨hi', rfl⟩ := List.getElem?_eq_some_iff.1 hi
  rcases Nat.lt_trichotomy i j with h | h | h
  · exact absurd (hy.trans hx.symm) (hk i j hi' hj' h)
  · exact h
  · exact absurd (hx.trans hy.symm) (hk j i hj' hi' h)
theorem modify_upd (h : MapB w r enc L c) {k : α} {j : Nat} {x : α × Value × Nat} (hj : L[j]? = some x) (hx : x.1 = k) (v : Value) :
    ((L.map (mkE enc)).toArray.modify j fun e => { e with key := enc k, val := v }) = ((updL L k v).map (mkE enc)).toArray := by
  apply Array.ext_getElem?
  intro i
  simp only [Array.getElem?_modify, List.getElem?_toArray, List.getElem?_map, updL]
  by_cases hij : j = i
  · subst hij
    simp only [if_true, hj, Option.map_some, hx, mkE]
  · simp only [hij, if_false]
    cases hi : L[i]? with
    | none => rfl
    | some y =>
      have : y.1 ≠ k := fun e => hij (pos_of_keys h.keys hi e hj hx)
      simp only [Option.map_some, this, if_false]
theorem run_stays {kt : TypeId} (K : KeyOK P kt enc) (k : α) : (Instr.keyThatStays (enc k) (enc k)).run P w = .ok (enc k) w := by
  unfold Instr.keyThatStays
  rw [K.bits]; rfl
theorem op_mapUpdate {mt kt et : TypeId} (hm : P.underlying mt = some (.map kt et)) (K : KeyOK P kt enc) (h : MapB w r enc L c) (k : α) (v : Value) :
    opU P (Instr.mapUpdate mt (.map (some r)) (enc k) v) QP w ku = ku (w.putObj r (mapObj enc (putL L c k v) (putC L c k))) := by
  refine opU_ok (u := ()) ?_
  unfold Instr.mapUpdate
  simp only [Sem.run_bind, run_underlying hm, Result.andThen_ok, run_getMap h, K.check]
  have hset : ∀ o, (setObj r o).run P w = .ok () (w.putObj r o) := fun o => by simp [setObj, Sem.run, h.obj, World.putObj]
  rcases run_findKey (P := P) (w := w) K k L with ⟨j, x, h1, h2, h3, h4, h5, h6⟩ | ⟨h1, h2, h3⟩
  · have hke : (((L.map (mkE enc)).toArray[j]?.map (·.key)).getD (enc k)) = enc k := by simp [h1, mkE, h2]
    simp only [h6, Result.andThen_ok, Sem.run_bind, hke, run_stays K, hset]
    rw [modify_upd h h1 h2]
    simp only [mapObj, putL, putC, h5, if_true]
  · simp only [h3, Result.andThen_ok, hset]
    have : (L.map (mkE enc)).toArray.push { key := enc k, val := v, born := c } = ((L ++ [(k, v, c)]).map (mkE enc)).toArray := by simp [mkE]
    rw [this]
    simp only [mapObj, putL, putC, h1, Bool.false_eq_true, if_false]
theorem op_mapEntry {mt kt et : TypeId} {agg : Bool} {n m : Nat} {z : Value} (hm : P.underlying mt = some (.map kt et)) (K : KeyOK P kt enc) (hz : TyInfo P et agg n m z) (h : MapB w r enc L c) (k : α) :
    opV P (Instr.mapEntry mt (.map (some r)) (enc k)) QP w k' = k' (.tuple #[(look L k).getD z, goInt (bornOf (entL L c k z) k)]) (w.putObj r (mapObj enc (entL L c k z) (putC L c k))) := by
  obtain ⟨⟨i, hi, _, _, hzz⟩, _⟩ := hz
  refine opV_ok ?_
  unfold Instr.mapEntry
  simp only [Sem.run_bind, run_underlying hm, Result.andThen_ok, run_getMap h, K.check]
  have hset : ∀ o, (setObj r o).run P w = .ok () (w.putObj r o) := fun o => by simp [setObj, Sem.run, h.obj, World.putObj]
  rcases run_findKey (P := P) (w := w) K k L with ⟨j, x, h1, h2, h3, h4, h5, h6⟩ | ⟨h1, h2, h3⟩
  · have hke : (((L.map (mkE enc)).toArray[j]?.map (·.key)).getD (enc k)) = enc k := by simp [h1, mkE, h2]
    have hbo : ((Option.map (fun x : MapEntry => (x.born : Int)) (L.map (mkE enc)).toArray[j]?).getD 0) = (x.2.2 : Int) := by simp [h1, mkE]
    have hmo : ((L.map (mkE enc)).toArray.modify j fun e => { e with key := enc k }) = (L.map (mkE enc)).toArray := by
      apply Array.ext_getElem?
      intro i
      simp only [Array.getElem?_modify, List.getElem?_toArray, List.getElem?_map]
      by_cases hij : j = i
      · subst hij; simp [h1, mkE, h2]
      · simp [hij]
    simp only [h6, Result.andThen_ok, Sem.run_bind, hke, run_stays K, hset, hbo, hmo, Sem.run_pure]
    simp only [mapObj, entL, putC, h5, if_true, h3, Option.getD_some, h4]
  · have hzr : (zeroValue et).run P w = .ok z w := by simp [zeroValue, typeInfo, hi, hzz]
    have hn : (L.map (mkE enc)).toArray.push { key := enc k, val := z, born := c } = ((L ++ [(k, z, c)]).map (mkE enc)).toArray := by simp [mkE]
    simp only [h3, Result.andThen_ok, hset, Sem.run_bind, hzr, Sem.run_pure, hn]
    have hb : bornOf (L ++ [(k, z, c)]) k = c := by
      unfold bornOf
      have : L.find? (fun x => decide (x.1 = k)) = none := by
        rw [List.find?_eq_none]
        intro x hx e
        unfold hasK at h1
        rw [List.any_eq_false] at h1
        exact h1 x hx e
      simp [List.find?_append, this]
    simp only [mapObj, entL, putC, h1, Bool.false_eq_true, if_false, h2, Option.getD_none, hb]
theorem MapB.ent (h : MapB w r enc L c) (k : α) (z : Value) : MapB (w.putObj r (mapObj enc (entL L c k z) (putC L c k))) r enc (entL L c k z) (putC L c k) := by
  by_cases hh : hasK L k = true
  · have e1 : entL L c k z = L := if_pos hh
    have e2 : putC L c k = c := if_pos hh
    rw [e1, e2]
    exact ⟨World.putObj_heap_same (Array.getElem?_eq_some_iff.1 h.obj).1, h.lt, h.births, h.keys⟩
  · have := h.put k z
    have e1 : entL L c k z = putL L c k z := by unfold entL putL; rw [if_neg hh, if_neg hh]
    rw [e1]; exact this
theorem ent_put (k : α) (v z : Value) : updL (entL L c k z) k v = putL L c k v := by
  unfold entL putL
  by_cases hh : hasK L k = true
  · rw [if_pos hh, if_pos hh]
  · rw [if_neg hh, if_neg hh]
    unfold updL
    rw [List.map_append]
    congr 1
    · conv => rhs; rw [← List.map_id L]
      apply List.map_congr_left
      intro x hx
      have : x.1 ≠ k := by
        intro e; apply hh; unfold hasK; rw [List.any_eq_true]; exact ⟨x, hx, by simpa using e⟩
      simp [this]
    · simp
theorem hasK_ent (k : α) (z : Value) : hasK (entL L c k z) k = true := by
  unfold entL
  by_cases hh : hasK L k = true
  · rw [if_pos hh]; exact hh
  · rw [if_neg hh]; simp [hasK]
theorem op_entryStore {mt : TypeId} (h : MapB w r enc L c) {k : α} (hk : hasK L k = true) (v : Value) :
    opU P (Instr.entryStore mt (.map (some r)) (goInt (bornOf L k)) v) QP w ku = ku (w.putObj r (mapObj enc (updL L k v) c)) := by
  refine opU_ok (u := ()) ?_
  unfold Instr.entryStore
  have hset : ∀ o, (setObj r o).run P w = .ok () (w.putObj r o) := fun o => by simp [setObj, Sem.run, h.obj, World.putObj]
  have hai : (asInt (goInt (bornOf L k))).run P w = .ok ((bornOf L k : Nat) : Int) w := rfl
  simp only [Sem.run_bind, run_getMap h, Result.andThen_ok, hai]
  obtain ⟨x, hx⟩ : ∃ x, L.find? (fun x => decide (x.1 = k)) = some x := by
    unfold hasK at hk
    rw [List.any_eq_true] at hk
    obtain ⟨x, h1, h2⟩ := hk
    cases hf : L.find? (fun x => decide (x.1 = k)) with
    | some y => exact ⟨y, rfl⟩
    | none => rw [List.find?_eq_none] at hf; exact absurd h2 (hf x h1)
  have hxk : x.1 = k := by simpa using List.find?_some hx
  have hxm := List.mem_of_find?_eq_some hx
  obtain ⟨j, hj⟩ := List.getElem?_of_mem hxm
  have hb : bornOf L k = x.2.2 := by simp [bornOf, hx]
  have hidx : (L.map (mkE enc)).toArray.findIdx? (fun e => (e.born : Int) == ((bornOf L k : Nat) : Int)) = some j := by
    rw [Array.findIdx?_eq_some_iff_getElem]
    obtain ⟨hjl, hje⟩ := List.getElem?_eq_some_iff.1 hj
    refine ⟨by simpa using hjl, ?_, ?_⟩
    · simp [mkE, hje, hb]
    · intro i hi
      have hbi := List.pairwise_iff_getElem.1 h.births i j (by omega) hjl hi
      simp only [List.getElem_toArray, List.getElem_map, mkE, hb, Bool.not_eq_true]
      rw [hje] at hbi
      rw [beq_eq_false_iff_ne]; intro e; exact hbi (Int.ofNat.inj e)
  simp only [hidx, hset]
  have hm2 : ((L.map (mkE enc)).toArray.modify j fun e => { e with val := v }) = ((updL L k v).map (mkE enc)).toArray := by
    rw [← modify_upd h hj hxk v]
    apply Array.ext_getElem?
    intro i
    simp only [Array.getElem?_modify, List.getElem?_toArray, List.getElem?_map]
    by_cases hij : j = i
    · subst hij; simp [hj, mkE, hxk]
    · simp [hij]
  rw [hm2]; rfl
theorem putObj_putObj (o o' : Obj) : (w.putObj r o).putObj r o' = w.putObj r o' := by
  simp only [World.putObj, Array.setIfInBounds_setIfInBounds]
theorem op_lenMap {mt kt et t : TypeId} (hm : P.underlying mt = some (.map kt et)) (h : MapB w r enc L c) : opV P (Builtin.len_ #[mt] t #[.map (some r)]) QP w k' = k' (.int .i64 L.length) w := by
  refine opV_ok ?_
  unfold Builtin.len_
  simp only [Sem.run_bind, run_underlying hm, Result.andThen_ok, run_getMap h, Sem.run_pure, List.getElem?_toArray, List.getElem?_cons_zero]
  simp [goInt]
theorem Ext.putObj {a w : World} (h : Ext a w) {l : Nat} (hl : a.heap.size ≤ l) (o : Obj) : Ext a (w.putObj l o) :=
  ⟨h.os, h.tape, h.output, by simpa using h.size, fun k hk => (World.putObj_heap_other (by omega)).trans (h.block k hk)⟩
theorem cell_putMap (h : MapB w r enc L c) {L' : List (α × Value × Nat)} {c' : Nat} (a : Addr) : (w.putObj r (mapObj enc L' c')).cell? a = w.cell? a := by
  unfold World.cell?
  by_cases e : a.block = r
  · rw [e, World.putObj_heap_same (Array.getElem?_eq_some_iff.1 h.obj).1, h.obj]; rfl
  · rw [World.putObj_heap_other e]
end
section
variable {P : Program} {QP : List PanicEntry → World → Prop} {w : World} {k' : Value → World → Prop} {ku : World → Prop} {r : Nat} {c : Nat}
abbrev MapS (w : World) (r : Nat) (L : List (ByteArray × Value × Nat)) (c : Nat) : Prop := MapB w r (fun s : ByteArray => Value.string s) L c
abbrev mapObjS (L : List (ByteArray × Value × Nat)) (c : Nat) : Obj := mapObj (fun s : ByteArray => Value.string s) L c
variable {L : List (ByteArray × Value × Nat)} {mt kt et : TypeId} {agg : Bool} {n m : Nat} {z : Value}
theorem op_lookupS (hm : P.underlying mt = some (.map kt et)) (hk : P.underlying kt = some .string) (hz : TyInfo P et agg n m z) (h : MapS w r L c) (k : ByteArray) :
    opV P (Instr.lookup mt (.map (some r)) (.string k) true) QP w k' = k' (.tuple #[(look L k).getD z, .bool (look L k).isSome]) w := op_lookup hm (KeyOK.string hk) hz h k
theorem op_lookup1S (hm : P.underlying mt = some (.map kt et)) (hk : P.underlying kt = some .string) (hz : TyInfo P et agg n m z) (h : MapS w r L c) (k : ByteArray) :
    opV P (Instr.lookup mt (.map (some r)) (.string k) false) QP w k' = k' ((look L k).getD z) w := op_lookup1 hm (KeyOK.string hk) hz h k
theorem op_mapUpdateS (hm : P.underlying mt = some (.map kt et)) (hk : P.underlying kt = some .string) (h : MapS w r L c) (k : ByteArray) (v : Value) :
    opU P (Instr.mapUpdate mt (.map (some r)) (.string k) v) QP w ku = ku (w.putObj r (mapObjS (putL L c k v) (putC L c k))) := op_mapUpdate hm (KeyOK.string hk) h k v
theorem op_mapEntryS (hm : P.underlying mt = some (.map kt et)) (hk : P.underlying kt = some .string) (hz : TyInfo P et agg n m z) (h : MapS w r L c) (k : ByteArray) :
    opV P (Instr.mapEntry mt (.map (some r)) (.string k)) QP w k' = k' (.tuple #[(look L k).getD z, goInt (bornOf (entL L c k z) k)]) (w.putObj r (mapObjS (entL L c k z) (putC L c k))) := op_mapEntry hm (KeyOK.string hk) hz h k
theorem MapS.new (w : World) : MapS (w.alloc (.map #[] 0)) w.heap.size [] 0 := MapB.new w _
def memB (names : List ByteArray) (s : ByteArray) : Bool := names.any (fun u => decide (u = s))
theorem memB_append (a : List ByteArray) (k s : ByteArray) : memB (a ++ [k]) s = (memB a s || decide (k = s)) := by simp [memB]
def SetOf (w : World) (r : Nat) (names : List ByteArray) : Prop := ∃ L c, MapS w r L c ∧ ∀ s, look L s = if memB names s = true then some (Value.bool true) else none
theorem SetOf.ext {w w' : World} {names : List ByteArray} (h : SetOf w r names) (e : Ext w w') : SetOf w' r names := let ⟨L, c, h1, h2⟩ := h; ⟨L, c, h1.ext e, h2⟩
theorem SetOf.put {names : List ByteArray} (h : MapS w r L c) (hl : ∀ s, look L s = if memB names s = true then some (Value.bool true) else none) (k : ByteArray) :
    SetOf (w.putObj r (mapObjS (putL L c k (.bool true)) (putC L c k))) r (names ++ [k]) := by
  refine ⟨_, _, h.put k _, fun s => ?_⟩
  rw [look_put, hl]
  rw [memB_append]
  by_cases hs : s = k
  · subst hs; simp
  · have hs' : ¬ k = s := fun e => hs e.symm
    simp [hs, hs']
def bld (ps : List (ByteArray × Value)) : List (ByteArray × Value × Nat) × Nat := ps.foldl (fun s p => (putL s.1 s.2 p.1 p.2, putC s.1 s.2 p.1)) ([], 0)
theorem bld_snoc (ps : List (ByteArray × Value)) (p : ByteArray × Value) : bld (ps ++ [p]) = (putL (bld ps).1 (bld ps).2 p.1 p.2, putC (bld ps).1 (bld ps).2 p.1) := by simp [bld, List.foldl_append]
def lastOf (ps : List (ByteArray × Value)) (s : ByteArray) : Option Value := (ps.reverse.find? (fun p => decide (p.1 = s))).map (·.2)
theorem lastOf_snoc (ps : List (ByteArray × Value)) (p : ByteArray × Value) (s : ByteArray) : lastOf (ps ++ [p]) s = if p.1 = s then some p.2 else lastOf ps s := by
  unfold lastOf
  rw [List.reverse_append, List.reverse_singleton, List.singleton_append, List.find?_cons]
  by_cases h : p.1 = s <;> simp [h]
theorem snoc_induct {α : Type} {motive : List α → Prop} (h0 : motive []) (h1 : ∀ l a, motive l → motive (l ++ [a])) (l : List α) : motive l := by
  have : ∀ l : List α, motive l.reverse := by
    intro l
    induction l with
    | nil => exact h0
    | cons a l ih => rw [List.reverse_cons]; exact h1 _ _ ih
  have h := this l.reverse
  rwa [List.reverse_reverse] at h
theorem look_bld (ps : List (ByteArray × Value)) (s : ByteArray) : look (bld ps).1 s = lastOf ps s := by
  revert s
  refine snoc_induct (motive := fun ps => ∀ s, look (bld ps).1 s = lastOf ps s) ?_ ?_ ps
  · intro s; rfl
  · intro l a ih s
    rw [bld_snoc, lastOf_snoc, look_put, ih]
    by_cases h : a.1 = s
    · subst h; simp
    · have h' : ¬ s = a.1 := fun e => h e.symm
      simp [h, h']
def MapOf (w : World) (r : Nat) (ps : List (ByteArray × Value)) : Prop := MapS w r (bld ps).1 (bld ps).2
theorem MapOf.ext {w w' : World} {r : Nat} {ps : List (ByteArray × Value)} (h : MapOf w r ps) (e : Ext w w') : MapOf w' r ps := MapB.ext h e
theorem MapOf.new (w : World) : MapOf (w.alloc (.map #[] 0)) w.heap.size [] := MapS.new w
theorem MapOf.setCell {w : World} {r : Nat} {ps : List (ByteArray × Value)} (h : MapOf w r ps) (a : Addr) (v : Value) : MapOf (w.setCell a v) r ps := MapB.setCell h a v
theorem MapOf.lt {w : World} {r : Nat} {ps : List (ByteArray × Value)} (h : MapOf w r ps) : r < w.heap.size := (Array.getElem?_eq_some_iff.1 h.obj).1
def putW (w : World) (r : Nat) (ps : List (ByteArray × Value)) (k : ByteArray) (v : Value) : World := w.putObj r (mapObjS (bld (ps ++ [(k, v)])).1 (bld (ps ++ [(k, v)])).2)
theorem MapOf.put {w : World} {r : Nat} {ps : List (ByteArray × Value)} (h : MapOf w r ps) (k : ByteArray) (v : Value) : MapOf (putW w r ps k v) r (ps ++ [(k, v)]) := by
  unfold MapOf putW
  rw [bld_snoc]
  exact MapB.put h k v
theorem op_updateO {w : World} {ps : List (ByteArray × Value)} (hm : P.underlying mt = some (.map kt et)) (hk : P.underlying kt = some .string) (h : MapOf w r ps) (k : ByteArray) (v : Value) :
    opU P (Instr.mapUpdate mt (.map (some r)) (.string k) v) QP w ku = ku (putW w r ps k v) := by
  unfold putW
  rw [bld_snoc]
  exact op_mapUpdateS hm hk h k v
theorem op_lookupO {w : World} {ps : List (ByteArray × Value)} (hm : P.underlying mt = some (.map kt et)) (hk : P.underlying kt = some .string) (hz : TyInfo P et agg n m z) (h : MapOf w r ps) (k : ByteArray) :
    opV P (Instr.lookup mt (.map (some r)) (.string k) true) QP w k' = k' (.tuple #[(lastOf ps k).getD z, .bool (lastOf ps k).isSome]) w := by
  rw [op_lookupS hm hk hz h, look_bld]
theorem op_lookup1O {w : World} {ps : List (ByteArray × Value)} (hm : P.underlying mt = some (.map kt et)) (hk : P.underlying kt = some .string) (hz : TyInfo P et agg n m z) (h : MapOf w r ps) (k : ByteArray) :
    opV P (Instr.lookup mt (.map (some r)) (.string k) false) QP w k' = k' ((lastOf ps k).getD z) w := by
  rw [op_lookup1S hm hk hz h, look_bld]
theorem op_lenO {w : World} {t : TypeId} {ps : List (ByteArray × Value)} (hm : P.underlying mt = some (.map kt et)) (h : MapOf w r ps) : opV P (Builtin.len_ #[mt] t #[.map (some r)]) QP w k' = k' (.int .i64 (bld ps).1.length) w := op_lenMap hm h
theorem Ext.putW {a w : World} {ps : List (ByteArray × Value)} (h : Ext a w) (hr : a.heap.size ≤ r) (k : ByteArray) (v : Value) : Ext a (putW w r ps k v) := h.putObj hr _
theorem putW_size {w : World} {ps : List (ByteArray × Value)} {k : ByteArray} {v : Value} : (putW w r ps k v).heap.size = w.heap.size := World.putObj_size
end
end Go.Sw
namespace Go.Sw
open Go.RowKit (Below)
set_option maxRecDepth 100000
section
variable {P : Program} {QP : List PanicEntry → World → Prop} {w : World} {k : Value → World → Prop} {ku : World → Prop}
theorem op_indexS {t : TypeId} (hu : P.underlying t = some .string) (s : ByteArray) (kd : IntKind) (i : Nat) {b : UInt8} (hb : s.data.toList[i]? = some b) :
    opV P (Instr.index t (.string s) (.int kd (i : Int))) QP w k = k (.int .u8 b.toNat) w := by
  refine opV_ok ?_
  have hs : s[i]? = some b := by
    obtain ⟨h1, h2⟩ := List.getElem?_eq_some_iff.1 hb
    have h3 : i < s.data.size := by simpa using h1
    rw [getElem?_pos s i h3]
    exact congrArg some h2
  unfold Instr.index
  have hai : (asIntOf (.int kd (i : Int))).run P w = .ok (kd, (i : Int)) w := rfl
  simp only [Sem.run_bind, hai, Result.andThen_ok, run_underlying hu]
  have : (if (0 : Int) ≤ (i : Int) then s[(i : Int).toNat]? else none) = some b := by rw [if_pos (by omega), Int.toNat_natCast]; exact hs
  rw [this]; rfl
theorem op_indexS0 {t : TypeId} (hu : P.underlying t = some .string) (s : ByteArray) (kd : IntKind) {b : UInt8} (hb : s.data.toList[0]? = some b) :
    opV P (Instr.index t (.string s) (.int kd 0)) QP w k = k (.int .u8 b.toNat) w := op_indexS hu s kd 0 hb
theorem op_shl (t : TypeId) (c : Bool) (x : Int) (yk : IntKind) (y : Int) (h0 : 0 ≤ y) (h1 : y ≤ 64) : opV P (binS .shl t c (.int .i64 x) (.int yk y)) QP w k = k (.int .i64 (IntKind.i64.wrap (x * 2 ^ y.toNat))) w := opV_ok (by
  simp [binS, go_sem, h0, h1])
theorem op_sliceTo {t e : TypeId} {agg : Bool} {n m : Nat} {z : Value} (hu : P.underlying t = some (.slice e)) (ht : TyInfo P e agg n m z) (b o len cap : Nat) (kd : IntKind) (h : Nat) (hh : h ≤ cap) :
    opV P (Instr.sliceAt t (.slice (some ⟨b, o, none⟩) len cap) none (some (.int kd (h : Int))) none) QP w k = k (.slice (some ⟨b, o, none⟩) h cap) w := by
  refine opV_ok ?_
  have h1 : (h : Int) ≤ (cap : Int) := by omega
  have h2 : (0 : Int) ≤ (h : Int) := by omega
  simp [Instr.sliceAt, run_underlying hu, Instr.slice, Instr.sliceBounds, run_sliceBound, h1, h2, run_sizeOf ht, Addr.add_lit]
theorem op_convInt {src dst : TypeId} {kd : IntKind} (hs : (P.underlying src).isSome = true) (hd : P.underlying dst = some (.int kd)) (q : IntKind) (n : Int) :
    opV P (Go.convert src dst (.int q n)) QP w k = k (.int kd (kd.wrap n)) w := opV_ok (by
  have hk : P.intKind dst = kd := by simp [Program.intKind, hd]
  have := run_convert_int (P := P) w src dst q n hs (by rw [hk]; exact hd)
  rw [hk] at this; exact this)
theorem op_rem (t : TypeId) (c : Bool) (kd : IntKind) (a b : Int) (hb : b ≠ 0) : opV P (binS .rem t c (.int kd a) (.int kd b)) QP w k = k (.int kd (a.tmod b)) w := opV_ok (by
  rw [run_bin_int _ _ _ _ _ _ rfl]
  show Sem.run P (Op.intDiv .rem kd a b) w = _
  unfold Op.intDiv
  rw [if_neg hb]; rfl)
theorem run_eqv {t : TypeId} {a b : Value} {r : Bool} (h : (Op.equalIn (9999 + 1) t a b).run P w = .ok r w) : (do pure (.bool (← Op.equal t a b)) : Sem Value).run P w = .ok (.bool r) w := by
  have h' : (Op.equal t a b).run P w = .ok r w := h
  rw [Sem.run_bind, h']; rfl
theorem run_nev {t : TypeId} {a b : Value} {r : Bool} (h : (Op.equalIn (9999 + 1) t a b).run P w = .ok r w) : (do pure (.bool (!(← Op.equal t a b))) : Sem Value).run P w = .ok (.bool (!r)) w := by
  have h' : (Op.equal t a b).run P w = .ok r w := h
  rw [Sem.run_bind, h']; rfl
theorem op_iface {t : TypeId} {d : TypeDesc} (hu : P.underlying t = some d) (hn : (match d with | .interface _ => false | _ => true) = true) (v : Value) : opV P (Instr.makeInterface t v) QP w k = k (.iface t v) w := by
  refine opV_ok ?_
  unfold Instr.makeInterface
  simp only [Sem.run_bind, run_underlying hu, Result.andThen_ok]
  cases d <;> simp at hn <;> rfl
theorem op_assert_ok {xt t : TypeId} {d : TypeDesc} (hu : P.underlying t = some d) (hn : (match d with | .interface _ => false | _ => true) = true) (v : Value) : opV P (Instr.typeAssert (.iface t v) xt t true) QP w k = k (.tuple #[v, .bool true]) w := by
  refine opV_ok ?_
  unfold Instr.typeAssert
  simp only [Sem.run_bind, run_underlying hu, Result.andThen_ok]
  cases d <;> simp at hn <;> simp
theorem op_panic (t : TypeId) (v : Value) : opV P (Instr.panic (.iface t v)) QP w k = QP [{ v := .iface t v, recovered := false }] w := opV_panic rfl
theorem eqNil_i (d0 : Nat) {t : TypeId} {m : Array (String × TypeId)} (hu : P.underlying t = some (.interface m)) (d : TypeId) (v : Value) : (Op.equalIn (d0 + 1) t (.iface d v) .nilIface).run P w = .ok false w := by simp [Op.equalIn, run_underlying hu]
theorem eqNil_n (d0 : Nat) {t : TypeId} {m : Array (String × TypeId)} (hu : P.underlying t = some (.interface m)) : (Op.equalIn (d0 + 1) t .nilIface .nilIface).run P w = .ok true w := by simp [Op.equalIn, run_underlying hu]
theorem eqNil_f (d0 : Nat) {t : TypeId} {a b : Array TypeId} {vr : Bool} (hu : P.underlying t = some (.func a b vr)) (f : Fn) (x y : Array Value) : (Op.equalIn (d0 + 1) t (.func f x y) .nilFunc).run P w = .ok false w := by simp [Op.equalIn, run_underlying hu]
theorem eqNil_s (d0 : Nat) {t e : TypeId} (hu : P.underlying t = some (.slice e)) (A : Option Addr) (n m : Nat) : (Op.equalIn (d0 + 1) t (.slice A n m) (.slice none 0 0)).run P w = .ok A.isNone w := by cases A <;> simp [Op.equalIn, run_underlying hu]
theorem op_neqNil_some {t : TypeId} {m : Array (String × TypeId)} (hu : P.underlying t = some (.interface m)) (d : TypeId) (v : Value) : opV P (binS .neq t true (.iface d v) .nilIface) QP w k = k (.bool true) w :=
  opV_ok (run_nev (r := false) (eqNil_i 9999 hu d v))
theorem op_neqNil_none {t : TypeId} {m : Array (String × TypeId)} (hu : P.underlying t = some (.interface m)) : opV P (binS .neq t true .nilIface .nilIface) QP w k = k (.bool false) w :=
  opV_ok (run_nev (r := true) (eqNil_n 9999 hu))
theorem op_neqNilF {t : TypeId} {a b : Array TypeId} {vr : Bool} (hu : P.underlying t = some (.func a b vr)) (c : Bool) (f : Fn) (x y : Array Value) : opV P (binS .neq t c (.func f x y) .nilFunc) QP w k = k (.bool true) w :=
  opV_ok (run_nev (r := false) (eqNil_f 9999 hu f x y))
theorem op_eqNilF {t : TypeId} {a b : Array TypeId} {vr : Bool} (hu : P.underlying t = some (.func a b vr)) (c : Bool) (f : Fn) (x y : Array Value) : opV P (binS .eql t c (.func f x y) .nilFunc) QP w k = k (.bool false) w :=
  opV_ok (run_eqv (eqNil_f 9999 hu f x y))
theorem op_eqNilS {t e : TypeId} (hu : P.underlying t = some (.slice e)) (c : Bool) (A : Option Addr) (n m : Nat) : opV P (binS .eql t c (.slice A n m) (.slice none 0 0)) QP w k = k (.bool A.isNone) w :=
  opV_ok (run_eqv (eqNil_s 9999 hu A n m))
theorem op_aggEq {t : TypeId} {xs ys : Array Value} {r : Bool} (hm : P.eqGuardType P.depth t = false) (h : ∀ w, (Op.equalIn (9999 + 1) t (.agg xs) (.agg ys)).run P w = .ok r w) (c : Bool) : opV P (binS .eql t c (.agg xs) (.agg ys)) QP w k = k (.bool r) w := by
  refine opV_ok ?_
  show Sem.run P (do (do if !(← program).eqGuardType (← program).depth t then pure () else if ← Op.eqGuardIn Op.maxDepth t (.agg xs) (.agg ys) then unsupported (.noEntry "binop/eql: two nil values of an interface type with methods, in a part of a struct or an array")); (do pure (.bool (← Op.equal t (.agg xs) (.agg ys)))) : Sem Value) w = _
  simp only [Sem.run_bind, run_program, Result.andThen_ok, hm, Bool.not_false, if_true, Sem.run_pure]
  have h' := run_eqv (h w)
  simp only [Sem.run_bind, Sem.run_pure] at h'
  exact h'
theorem op_aggNe {t : TypeId} {xs ys : Array Value} {r : Bool} (hm : P.eqGuardType P.depth t = false) (h : ∀ w, (Op.equalIn (9999 + 1) t (.agg xs) (.agg ys)).run P w = .ok r w) (c : Bool) : opV P (binS .neq t c (.agg xs) (.agg ys)) QP w k = k (.bool (!r)) w := by
  refine opV_ok ?_
  show Sem.run P (do (do if !(← program).eqGuardType (← program).depth t then pure () else if ← Op.eqGuardIn Op.maxDepth t (.agg xs) (.agg ys) then unsupported (.noEntry "binop/eql: two nil values of an interface type with methods, in a part of a struct or an array")); (do pure (.bool (!(← Op.equal t (.agg xs) (.agg ys))))) : Sem Value) w = _
  simp only [Sem.run_bind, run_program, Result.andThen_ok, hm, Bool.not_false, if_true, Sem.run_pure]
  have h' := run_nev (h w)
  simp only [Sem.run_bind, Sem.run_pure] at h'
  exact h'
theorem op_bytes {src dst e : TypeId} (hs : P.underlying src = some .string) (hd : P.underlying dst = some (.slice e)) (he : P.underlying e = some (.int .u8)) (s : ByteArray) (hlen : s.size ≤ 9223372036854775807)
    (h : ∀ v w', Ext w w' → (∃ A c, v = .slice A s.size c ∧ s.size ≤ c ∧ c ≤ 9223372036854775807 ∧ ∃ b, A = some ⟨b, 0, none⟩ ∧ ∀ j x, s.data.toList[j]? = some x → w'.cell? ⟨b, j, none⟩ = some (.int .u8 (x.toNat : Int))) → k v w') : opV P (Go.convert src dst (.string s)) QP w k := by
  have := run_bytes_of_string (P := P) w src dst e s hs hd he
  rw [opV_ok this]
  refine h _ _ ((Ext.refl w).wdrew.alloc _) ⟨_, _, rfl, grownCap_ge _ _ _ _, ?_, ?_⟩
  · have := grownCap_le_maxLen w s.size 0 e (by simp only [maxLen]; omega)
    simp only [maxLen] at this; omega
  · refine ⟨_, rfl, fun j x hx => ?_⟩
    obtain ⟨h1, h2⟩ := List.getElem?_eq_some_iff.1 hx
    have h3 : j < s.data.size := by simpa using h1
    have h4 := bytesRow_at s (grownCap w s.size 0 e) j h3
    show World.cell? _ ⟨w.drew.heap.size, j, none⟩ = _
    unfold World.cell?
    rw [World.alloc_heap_new]
    show (if (none : Option _).isSome then none else (bytesRow s (grownCap w s.size 0 e))[j]?) = _
    rw [h4, ← h2]
    rfl
theorem cells_agg (cs : Array Value) : (Value.agg cs).cells = cs := rfl
theorem equalIn_struct {d : Nat} {t : TypeId} {fs : Array Field} {xs ys : Array Value} {r : Bool} (hu : P.underlying t = some (.struct fs)) (hs : P.stoodInHeld t = false) (h : (Op.eqFields d xs ys fs.toList).run P w = .ok r w) :
    (Op.equalIn (d + 1) t (.agg xs) (.agg ys)).run P w = .ok r w := by
  have hf : P.fieldsOf t = fs := by simp [Program.fieldsOf, hu]
  rw [run_equalIn_agg w d t xs ys (by rw [hf]; exact hu) hs, hf]
  exact h
theorem eqFields_nil {d : Nat} {xs ys : Array Value} : (Op.eqFields d xs ys []).run P w = .ok true w := rfl
theorem eqFields_step {d : Nat} {xs ys : Array Value} {f : Field} {fs : List Field} {x y : Value} {b r : Bool} (hn : (f.name == "_") = false) (hx : (part f.type xs f.offset).run P w = .ok x w) (hy : (part f.type ys f.offset).run P w = .ok y w)
    (he : (Op.equalIn d f.type x y).run P w = .ok b w) (hr : (Op.eqFields d xs ys fs).run P w = .ok r w) : (Op.eqFields d xs ys (f :: fs)).run P w = .ok (b && r) w := by
  have hn' : f.name ≠ "_" := by simpa using hn
  simp only [Op.eqFields]
  rw [if_pos hn']
  simp only [Sem.run_bind, hx, hy, he, Result.andThen_ok]
  cases b with
  | true => simpa using hr
  | false => rfl
theorem part1 {T : TypeId} {n m : Nat} {z v : Value} {cs : Array Value} {off : Nat} (h : TyInfo P T false n m z) (hc : cs[off]? = some v) : (part T cs off).run P w = .ok v w := by
  unfold part
  rw [Sem.run_bind, run_isAgg h]
  simp [hc]
theorem op_fieldV1 {s : TypeId} {fs : Array Field} {i off ft : Nat} {n m : Nat} {z v : Value} {cs : Array Value} {k : Value → World → Prop} (hu : P.underlying s = some (.struct fs)) (hf : (fs[i]?).map (fun f => (f.type, f.offset)) = some (ft, off)) (ht : TyInfo P ft false n m z) (hc : cs[off]? = some v) :
    opV P (Instr.field s (.agg cs) i) QP w k = k v w := by
  obtain ⟨f, h1, h2⟩ := Option.map_eq_some_iff.1 hf
  simp only [Prod.mk.injEq] at h2
  obtain ⟨rfl, rfl⟩ := h2
  refine opV_ok ?_
  have ha : (asAgg (.agg cs)).run P w = .ok cs w := rfl
  simp [Instr.field, run_underlying hu, h1, ha, part1 (w := w) ht hc]
theorem eqInt {d : Nat} {t : TypeId} {q : IntKind} (hu : P.underlying t = some (.int q)) {kd : IntKind} {a b : Int} : (Op.equalIn (d + 1) t (.int kd a) (.int kd b)).run P w = .ok (decide (a = b)) w := by
  rw [run_equalIn_int w d t kd q a b hu]; congr 1
theorem eqBool {d : Nat} {t : TypeId} (hu : P.underlying t = some .bool) {a b : Bool} : (Op.equalIn (d + 1) t (.bool a) (.bool b)).run P w = .ok (decide (a = b)) w := by
  rw [run_equalIn_bool w d t a b hu]; congr 1
theorem eqString {d : Nat} {t : TypeId} (hu : P.underlying t = some .string) {a b : ByteArray} : (Op.equalIn (d + 1) t (.string a) (.string b)).run P w = .ok (decide (a = b)) w := by
  rw [run_equalIn_string w d t a b hu, bytes_eq]
theorem cells_one {v : Value} (h : v.oneCell' = true) : v.cells = #[v] := by cases v <;> first | rfl | simp [Value.oneCell'] at h
theorem op_build {T : TypeId} {fs : Array Field} {n m : Nat} {z cs : Array Value} {parts : Array (Nat × Value)} {places : Array (Nat × Nat)} (hu : P.underlying T = some (.struct fs)) (hz : TyInfo P T true n m (.agg z))
    (hp : ∀ w : World, (fs.mapM (m := Sem) (fun f => do pure (f.offset, ← sizeOf f.type))).run P w = .ok places w) (hf : Instr.fill (places[·]?) z parts.toList = some cs) : opV P (Instr.build T parts) QP w k = k (.agg cs) w := by
  obtain ⟨⟨i, hi, _, _, hzz⟩, _⟩ := hz
  refine opV_ok ?_
  unfold Instr.build
  have hz0 : (zeroValue T).run P w = .ok (.agg z) w := by simp [zeroValue, typeInfo, hi, hzz]
  simp only [Sem.run_bind, hz0, Result.andThen_ok, run_underlying hu, hp]
  have : (Value.agg z).cells = z := rfl
  rw [this, hf]
  rfl
theorem op_buildSlice {T e : TypeId} {agg : Bool} {n m : Nat} {z : Value} {len : Nat} {cs : Array Value} {parts : Array (Nat × Value)} (hu : P.underlying T = some (.slice e)) (hz : TyInfo P e agg n m z) (hl : len * n ≤ 16777216)
    {base : Array Value} (hb : (Array.range (len * n)).map ((if len * n = 0 then #[] else z.cells)[· % (if len * n = 0 then #[] else z.cells).size]!) = base) (hf : Instr.fill (fun i => some (i * n, n)) base parts.toList = some cs) :
    opV P (Instr.buildSlice T len parts) QP w k = k (.slice (some ⟨w.heap.size, 0, none⟩) len len) (w.alloc (.cells cs e)) := by
  subst hb
  have hsz := run_sizeOf (w := w) hz
  obtain ⟨⟨i, hi, _, _, hzz⟩, _⟩ := hz
  refine opV_ok ?_
  unfold Instr.buildSlice
  have hl' : ¬ (2 ^ 24 < len * n) := by omega
  simp only [Sem.run_bind, run_underlying hu, hsz, Result.andThen_ok, gt_iff_lt, hl', if_false]
  have hz0 : (zeroValue e).run P w = .ok z w := by simp [zeroValue, typeInfo, hi, hzz]
  by_cases h0 : len * n = 0
  · rw [if_pos h0] at hf
    rw [if_pos h0]
    simp only [Sem.run_bind, Sem.run_pure, Result.andThen_ok]
    rw [hf]
    simp [newRow]
  · rw [if_neg h0] at hf
    rw [if_neg h0]
    simp only [Sem.run_bind, hz0, Sem.run_pure, Result.andThen_ok]
    rw [hf]
    simp [newRow]
def EC (w : World) : World → Prop := fun w' => Ext w w'
class ClassNe (C : World → Prop) : Prop where
  ne : ∃ w, C w
instance (w : World) : ClassNe (EC w) := ⟨⟨w, Ext.refl w⟩⟩
def KB (w : World) (b1 b2 : Nat) : World → Prop := fun w' => ∀ b, b < w.heap.size → b ≠ b1 → b ≠ b2 → w'.heap[b]? = w.heap[b]?
instance (w : World) (b1 b2 : Nat) : ClassNe (KB w b1 b2) := ⟨⟨w, fun _ _ _ _ => rfl⟩⟩
theorem KB.cell {w w' : World} {b1 b2 b o : Nat} {v : Value} (h : KB w b1 b2 w') (h1 : b ≠ b1) (h2 : b ≠ b2) (hc : w.cell? ⟨b, o, none⟩ = some v) : w'.cell? ⟨b, o, none⟩ = some v :=
  (World.cell?_of_block (h b (World.block_lt_of_cell? w _ hc) h1 h2)).trans hc
theorem run_of_op {s : Sem Value} {v : Value} (h : ∀ (QP : List PanicEntry → World → Prop) (k : Value → World → Prop), opV P s QP w k = k v w) : s.run P w = .ok v w := by
  have h1 := h (fun _ _ => False) (fun u x => u = v ∧ x = w)
  simp only [and_self] at h1
  have h2 : opV P s (fun _ _ => False) w (fun u x => u = v ∧ x = w) := by rw [h1]; trivial
  unfold opV at h2
  split at h2
  · rename_i a b he; obtain ⟨rfl, rfl⟩ := h2; exact he
  · exact h2.elim
  · exact h2.elim
theorem qV_eq {s : Sem Value} {v : Value} {k : Value → Prop} (h : ∀ w', Ext w w' → s.run P w' = .ok v w') : qV P (EC w) s k = k v := by
  apply propext
  constructor
  · rintro ⟨v', h1, h2⟩
    have a := h1 w (Ext.refl w)
    rw [h w (Ext.refl w)] at a
    injection a with a _
    rw [a]; exact h2
  · exact fun hk => ⟨v, h, hk⟩
theorem qV_eqC {C : World → Prop} [hne : ClassNe C] {s : Sem Value} {v : Value} {k : Value → Prop} (h : ∀ w', C w' → s.run P w' = .ok v w') : qV P C s k = k v := by
  apply propext
  obtain ⟨w0, hw0⟩ := hne.ne
  constructor
  · rintro ⟨v', h1, h2⟩
    have a := h1 w0 hw0
    rw [h w0 hw0] at a
    injection a with a _
    rw [a]; exact h2
  · exact fun hk => ⟨v, h, hk⟩
theorem qV_of {C : World → Prop} [ClassNe C] {s : Sem Value} {v : Value} {k : Value → Prop} (h : ∀ (QP : List PanicEntry → World → Prop) (w' : World) (k : Value → World → Prop), opV P s QP w' k = k v w') : qV P C s k = k v := qV_eqC fun w' _ => run_of_op fun QP k => h QP w' k
theorem qN_eqC {C : World → Prop} [hne : ClassNe C] {s : Sem Next} {v : Value} {k : Value → Prop} (h : ∀ w', C w' → s.run P w' = .ok (.value v) w') : qN P C s k = k v := by
  apply propext
  obtain ⟨w0, hw0⟩ := hne.ne
  constructor
  · rintro ⟨v', h1, h2⟩
    have a := h1 w0 hw0
    rw [h w0 hw0] at a
    injection a with a _
    injection a with a
    rw [a]; exact h2
  · exact fun hk => ⟨v, h, hk⟩
theorem qN_nil {C : World → Prop} [ClassNe C] {k : Value → Prop} (a : Addr) : qN P C (nilN (.pointer (some a))) k = k (.pointer (some a)) := qN_eqC fun w' _ => by simp [nilN, execOp]
def qVx (P : Program) (C : World → Prop) (s : Sem Value) (k : Value → Prop) : Prop := qV P C s k
theorem qV_loadC {T : TypeId} {n m : Nat} {z : Value} {k : Value → Prop} (h : TyInfo P T false n m z) (b o : Nat) : qV P (EC w) (Instr.loadAt T (.pointer (some ⟨b, o, none⟩))) k = onCell (w.cell? ⟨b, o, none⟩) k (qVx P (EC w) (Instr.loadAt T (.pointer (some ⟨b, o, none⟩))) k) := by
  cases hc : w.cell? ⟨b, o, none⟩ with
  | some v =>
    rw [onCell_some]
    refine qV_eq fun w' e => ?_
    have := run_of_op (P := P) (w := w') (s := Instr.loadAt T (.pointer (some ⟨b, o, none⟩))) (v := v) (fun QP k => op_load1 h (e.cell hc))
    exact this
  | none => rfl
theorem qV_loadKB {T : TypeId} {n m : Nat} {z : Value} {k : Value → Prop} (h : TyInfo P T false n m z) (b1 b2 b o : Nat) (h1 : b ≠ b1) (h2 : b ≠ b2) : qV P (KB w b1 b2) (Instr.loadAt T (.pointer (some ⟨b, o, none⟩))) k = onCell (w.cell? ⟨b, o, none⟩) k (qVx P (KB w b1 b2) (Instr.loadAt T (.pointer (some ⟨b, o, none⟩))) k) := by
  cases hc : w.cell? ⟨b, o, none⟩ with
  | some v =>
    rw [onCell_some]
    exact qV_eqC fun w' e => run_of_op (P := P) (w := w') (s := Instr.loadAt T (.pointer (some ⟨b, o, none⟩))) (v := v) (fun QP k => op_load1 h (e.cell h1 h2 hc))
  | none => rfl
theorem qV_load {T : TypeId} {a : Addr} {v : Value} {k : Value → Prop} (h : ∀ w', Ext w w' → Loads P w' T a v) : qV P (EC w) (Instr.loadAt T (.pointer (some a))) k = k v :=
  qV_eq fun w' e => run_of_op fun QP k => op_load (h w' e)
def onCells : List (Option Value) → (List Value → Prop) → Prop → Prop
  | [], k, _ => k []
  | some v :: l, k, d => onCells l (fun vs => k (v :: vs)) d
  | none :: _, _, d => d
theorem onCells_nil (k : List Value → Prop) (d : Prop) : onCells [] k d = k [] := rfl
theorem onCells_some (v : Value) (l : List (Option Value)) (k : List Value → Prop) (d : Prop) : onCells (some v :: l) k d = onCells l (fun vs => k (v :: vs)) d := rfl
theorem onCells_all : ∀ (vs : List Value) (k : List Value → Prop) (d : Prop), onCells (vs.map some) k d = k vs
  | [], _, _ => rfl
  | v :: vs, k, d => onCells_all vs (fun l => k (v :: l)) d
theorem onCells_cases (l : List (Option Value)) : (∃ vs : List Value, l = vs.map some) ∨ ∀ k d, onCells l k d = d := by
  induction l with
  | nil => exact .inl ⟨[], rfl⟩
  | cons a l ih =>
    cases a with
    | none => exact .inr fun k d => rfl
    | some v =>
      rcases ih with ⟨vs, rfl⟩ | h
      · exact .inl ⟨v :: vs, rfl⟩
      · exact .inr fun k d => h _ d
@[congr] theorem onCells_congr {l l' : List (Option Value)} {k : List Value → Prop} {p : Prop} {d : Nat} (h : l = l') (hd : dirty = d) : onCells l k p = onCells l' k p := by rw [h]
theorem loads_cells {T : TypeId} {n m : Nat} {z : Value} (h : TyInfo P T true n m z) (b o : Nat) {vs : List Value} (hc : (List.range n).map (fun j => w.cell? ⟨b, o + j, none⟩) = vs.map some) : Loads P w T ⟨b, o, none⟩ (.agg vs.toArray) := by
  have hl : vs.length = n := by have := congrArg List.length hc; simpa using this.symm
  refine Loads.many h hl fun j v hv => ?_
  have hj : j < n := by have := (List.getElem?_eq_some_iff.1 hv).1; omega
  have := congrArg (fun l => l[j]?) hc
  simp only [List.getElem?_map, List.getElem?_range hj, hv, Option.map_some] at this
  rw [Addr.add_lit]
  exact Option.some.inj this
theorem op_loadA {T : TypeId} {n m : Nat} {z : Value} {k : Value → World → Prop} (h : TyInfo P T true n m z) (b o : Nat) (l : List (Option Value)) (hl : l = (List.range n).map (fun j => w.cell? ⟨b, o + j, none⟩)) :
    opV P (Instr.loadAt T (.pointer (some ⟨b, o, none⟩))) QP w k = onCells l (fun vs => k (.agg vs.toArray) w) (opVx P (Instr.loadAt T (.pointer (some ⟨b, o, none⟩))) QP w k) := by
  rcases onCells_cases l with ⟨vs, hv⟩ | hd
  · rw [hv, onCells_all]
    exact op_load (loads_cells h b o (by rw [← hl, hv]))
  · rw [hd]; rfl
theorem qV_loadA {T : TypeId} {n m : Nat} {z : Value} {k : Value → Prop} (h : TyInfo P T true n m z) (b o : Nat) (l : List (Option Value)) (hl : l = (List.range n).map (fun j => w.cell? ⟨b, o + j, none⟩)) :
    qV P (EC w) (Instr.loadAt T (.pointer (some ⟨b, o, none⟩))) k = onCells l (fun vs => k (.agg vs.toArray)) (qVx P (EC w) (Instr.loadAt T (.pointer (some ⟨b, o, none⟩))) k) := by
  rcases onCells_cases l with ⟨vs, hv⟩ | hd
  · rw [hv, onCells_all]
    refine qV_load fun w' e => loads_cells h b o ?_
    rw [← hv, hl]
    have hm : ∀ j, j ∈ List.range n → ∃ v, w.cell? ⟨b, o + j, none⟩ = some v := by
      intro j hj
      have : w.cell? ⟨b, o + j, none⟩ ∈ l := by rw [hl]; exact List.mem_map_of_mem hj
      rw [hv] at this
      obtain ⟨v, _, hv⟩ := List.mem_map.1 this
      exact ⟨v, hv.symm⟩
    apply List.map_congr_left
    intro j hj
    obtain ⟨v, hv⟩ := hm j hj
    rw [hv]; exact e.cell hv
  · rw [hd]; rfl
def qWx (P : Program) (t : TypeId) (a : Value) (w : World) (k : Value → Prop) : Prop := qW P t a w k
theorem qW_load {T : TypeId} {a : Addr} {v : Value} {k : Value → Prop} (h : Loads P w T a v) : qW P T (.pointer (some a)) w k = k v := by
  have hr : (do loadVar T (← asAddr (.pointer (some a))) : Sem Value).run P w = .ok v w := h
  unfold qW
  rw [hr]
  apply propext
  constructor
  · rintro ⟨v', h1, h2⟩; injection h1 with h1 _; rw [h1]; exact h2
  · exact fun hk => ⟨v, rfl, hk⟩
theorem qW_loadC {T : TypeId} {n m : Nat} {z : Value} {k : Value → Prop} (h : TyInfo P T false n m z) (b o : Nat) : qW P T (.pointer (some ⟨b, o, none⟩)) w k = onCell (w.cell? ⟨b, o, none⟩) k (qWx P T (.pointer (some ⟨b, o, none⟩)) w k) := by
  cases hc : w.cell? ⟨b, o, none⟩ with
  | some v => exact qW_load (Loads.one h hc)
  | none => rfl
theorem qW_loadA {T : TypeId} {n m : Nat} {z : Value} {k : Value → Prop} (h : TyInfo P T true n m z) (b o : Nat) (l : List (Option Value)) (hl : l = (List.range n).map (fun j => w.cell? ⟨b, o + j, none⟩)) :
    qW P T (.pointer (some ⟨b, o, none⟩)) w k = onCells l (fun vs => k (.agg vs.toArray)) (qWx P T (.pointer (some ⟨b, o, none⟩)) w k) := by
  rcases onCells_cases l with ⟨vs, hv⟩ | hd
  · rw [hv, onCells_all]
    exact qW_load (loads_cells h b o (by rw [← hl, hv]))
  · rw [hd]; rfl
@[congr] theorem qW_congr {T : TypeId} {a a' : Value} {w' : World} {k : Value → Prop} {d : Nat} (h : a = a') (hw : w = w') (hd : dirty = d) : qW P T a w k = qW P T a' w' k := by rw [h, hw]
def onFree : List Bool → Prop → Prop → Prop
  | [], p, _ => p
  | false :: l, p, d => onFree l p d
  | true :: _, _, d => d
theorem onFree_nil (p d : Prop) : onFree [] p d = p := rfl
theorem onFree_false (l : List Bool) (p d : Prop) : onFree (false :: l) p d = onFree l p d := rfl
theorem onFree_cases (l : List Bool) : (∀ b ∈ l, b = false) ∧ (∀ p d, onFree l p d = p) ∨ ∀ p d, onFree l p d = d := by
  induction l with
  | nil => exact .inl ⟨by simp, fun _ _ => rfl⟩
  | cons a l ih =>
    cases a with
    | true => exact .inr fun _ _ => rfl
    | false =>
      rcases ih with ⟨h1, h2⟩ | h
      · exact .inl ⟨by simpa using h1, h2⟩
      · exact .inr h
@[congr] theorem onFree_congr {l l' : List Bool} {p q : Prop} {d : Nat} (h : l = l') (hd : dirty = d) : onFree l p q = onFree l' p q := by rw [h]
@[congr] theorem qVx_congr {s : Sem Value} {C : World → Prop} {k : Value → Prop} {d : Nat} (hd : dirty = d) : qVx P C s k = qVx P C s k := rfl
@[congr] theorem qWx_congr {T : TypeId} {a : Value} {k : Value → Prop} {d : Nat} (hd : dirty = d) : qWx P T a w k = qWx P T a w k := rfl
def setCells (w : World) (b o : Nat) : List Value → World
  | [] => w
  | v :: vs => setCells (w.setCell ⟨b, o, none⟩ v) b (o + 1) vs
theorem run_storeCellsA (b o : Nat) : ∀ (vs : List Value) (i : Nat) (w : World), (∀ j, j < vs.length → ∃ u, w.cell? ⟨b, o + (i + j), none⟩ = some u) → (∀ j, j < vs.length → w.frozen? ⟨b, o + (i + j), none⟩ = false) → (∀ v ∈ vs, v.oneCell' = true) →
    (storeCells ⟨b, o, none⟩ vs i).run P w = .ok () (setCells w b (o + i) vs)
  | [], _, _, _, _, _ => rfl
  | v :: vs, i, w, hc, hf, hv => by
    obtain ⟨u, hu⟩ := hc 0 (by simp)
    have hf' : w.frozen? ⟨b, o + i, none⟩ = false := hf 0 (by simp)
    simp only [Nat.add_zero] at hu
    simp only [storeCells, Sem.run_bind, Addr.add_lit, run_store P _ _ v .plain (hv v (List.mem_cons_self ..)), hu, hf', Nat.add_zero, Bool.false_eq_true, if_false, Result.andThen_ok]
    have hs : ∀ j, j < vs.length → ∃ u, (w.setCell ⟨b, o + i, none⟩ v).cell? ⟨b, o + (i + 1 + j), none⟩ = some u := by
      intro j hj
      obtain ⟨u, hu⟩ := hc (j + 1) (by simp; omega)
      refine ⟨u, ?_⟩
      rw [cell_set_other (by omega)]
      rw [← hu]; congr 2; omega
    have := run_storeCellsA b o vs (i + 1) (w.setCell ⟨b, o + i, none⟩ v) hs (fun j hj => by rw [frozen_set]; have := hf (j + 1) (by simp; omega); rw [← this]; congr 2; omega) (fun u hu => hv u (List.mem_cons_of_mem _ hu))
    simpa [hf', hu, setCells, Nat.add_assoc] using this
theorem op_storeA {T : TypeId} {n m : Nat} {z : Value} {ku : World → Prop} (h : TyInfo P T true n m z) (b o : Nat) (vs : List Value) (hn : vs.length = n) (hv : ∀ v ∈ vs, v.oneCell' = true) (l : List (Option Value)) (hl : l = (List.range n).map (fun j => w.cell? ⟨b, o + j, none⟩))
    (lf : List Bool) (hlf : lf = (List.range n).map (fun j => w.frozen? ⟨b, o + j, none⟩)) :
    opU P (Instr.storeAt T (.pointer (some ⟨b, o, none⟩)) (.agg vs.toArray)) QP w ku = onCells l (fun _ => onFree lf (ku (setCells w b o vs)) (opUx P (Instr.storeAt T (.pointer (some ⟨b, o, none⟩)) (.agg vs.toArray)) QP w ku)) (opUx P (Instr.storeAt T (.pointer (some ⟨b, o, none⟩)) (.agg vs.toArray)) QP w ku) := by
  rcases onCells_cases l with ⟨us, hu⟩ | hd
  · rw [hu, onCells_all]
    rcases onFree_cases lf with ⟨h1, h2⟩ | h2
    · rw [h2]
      refine opU_ok (u := ()) ?_
      have hc : ∀ j, j < vs.length → ∃ u, w.cell? ⟨b, o + (0 + j), none⟩ = some u := by
        intro j hj
        have : w.cell? ⟨b, o + j, none⟩ ∈ l := by rw [hl]; exact List.mem_map_of_mem (List.mem_range.2 (by omega))
        rw [hu] at this
        obtain ⟨v, _, hv⟩ := List.mem_map.1 this
        exact ⟨v, by rw [Nat.zero_add, hv]⟩
      have hf : ∀ j, j < vs.length → w.frozen? ⟨b, o + (0 + j), none⟩ = false := by
        intro j hj
        refine h1 _ ?_
        rw [hlf, Nat.zero_add]
        exact List.mem_map_of_mem (f := fun j => w.frozen? ⟨b, o + j, none⟩) (List.mem_range.2 (by omega))
      have := run_storeCellsA (P := P) b o vs 0 w hc hf hv
      simp [Instr.storeAt, Instr.sureAddr, storeVar, run_sizeOf h, cells_agg, hn, this]
    · rw [h2]; rfl
  · rw [hd]; rfl
theorem op_storeN {T : TypeId} {n m : Nat} {z : Value} {ku : World → Prop} (h : TyInfo P T true n m z) (b : Nat) (hb : b = w.heap.size) (o : Array Value) (T' : TypeId) (vs : List Value) (ho : o.size = n) (hn : vs.length = n) (hv : ∀ v ∈ vs, v.oneCell' = true) :
    opU P (Instr.storeAt T (.pointer (some ⟨b, 0, none⟩)) (.agg vs.toArray)) QP (w.alloc (.cells o T')) ku = ku (w.alloc (.cells vs.toArray T')) := by
  subst hb
  refine opU_ok (u := ()) ?_
  obtain ⟨o', h1, h2, h3⟩ := storeCells_new (P := P) (w := w) T' vs 0 o (by simp; omega) hv
  have he : o' = vs.toArray := by
    apply Array.ext_getElem?
    intro j
    rw [h3 j]
    by_cases hj : j < vs.length
    · rw [if_pos (by omega)]; simp
    · rw [if_neg (by omega)]
      rw [Array.getElem?_eq_none (by omega), Array.getElem?_eq_none (by simp; omega)]
  subst he
  simp [Instr.storeAt, Instr.sureAddr, storeVar, run_sizeOf h, cells_agg, hn, h1]
theorem GENQ {C : World → Prop} [ClassNe C] {k : Value → Prop} : (∀ t c kd a b, qV P C (binS .add t c (.int kd a) (.int kd b)) k = k (.int kd (kd.wrap (a + b)))) ∧
    (∀ t c kd a b, qV P C (binS .sub t c (.int kd a) (.int kd b)) k = k (.int kd (kd.wrap (a - b)))) ∧
    (∀ t c kd a b, qV P C (binS .mul t c (.int kd a) (.int kd b)) k = k (.int kd (kd.wrap (a * b)))) ∧
    (∀ t c kd a b, qV P C (binS .eql t c (.int kd a) (.int kd b)) k = k (.bool (a == b))) ∧
    (∀ t c kd a b, qV P C (binS .neq t c (.int kd a) (.int kd b)) k = k (.bool (a != b))) ∧
    (∀ t c kd a b, qV P C (binS .lss t c (.int kd a) (.int kd b)) k = k (.bool (decide (a < b)))) ∧
    (∀ t c kd a b, qV P C (binS .leq t c (.int kd a) (.int kd b)) k = k (.bool (decide (a ≤ b)))) ∧
    (∀ t c kd a b, qV P C (binS .gtr t c (.int kd a) (.int kd b)) k = k (.bool (decide (b < a)))) ∧
    (∀ t c kd a b, qV P C (binS .geq t c (.int kd a) (.int kd b)) k = k (.bool (decide (b ≤ a)))) ∧
    (∀ t c a b, qV P C (binS .eql t c (.string a) (.string b)) k = k (.bool (decide (a = b)))) ∧
    (∀ t c a b, qV P C (binS .neq t c (.string a) (.string b)) k = k (.bool (!decide (a = b)))) ∧
    (∀ b, qV P C (Op.unary .not (.bool b)) k = k (.bool !b)) ∧
    (∀ ts t kd a b, qV P C (Builtin.max_ ts t #[.int kd a, .int kd b]) k = k (.int kd (if b > a then b else a))) ∧
    (∀ ts t kd a b, qV P C (Builtin.min_ ts t #[.int kd a, .int kd b]) k = k (.int kd (if b < a then b else a))) ∧
    (∀ a b, qV P C (Instr.extract (.tuple #[a, b]) 0) k = k a) ∧ (∀ a b, qV P C (Instr.extract (.tuple #[a, b]) 1) k = k b) ∧
    (∀ a b c, qV P C (Instr.extract (.tuple #[a, b, c]) 0) k = k a) ∧ (∀ a b c, qV P C (Instr.extract (.tuple #[a, b, c]) 1) k = k b) ∧ (∀ a b c, qV P C (Instr.extract (.tuple #[a, b, c]) 2) k = k c) ∧
    (∀ fn a b, qV P C (Instr.makeFunc fn a b) k = k (.func fn a b)) ∧
    (∀ a, qN P C (nilN (.pointer (some a))) k = k (.pointer (some a))) :=
  ⟨fun t c kd a b => qV_of fun _ _ _ => op_add t c kd a b, fun t c kd a b => qV_of fun _ _ _ => op_sub t c kd a b, fun t c kd a b => qV_of fun _ _ _ => op_mul t c kd a b, fun t c kd a b => qV_of fun _ _ _ => op_eql t c kd a b, fun t c kd a b => qV_of fun _ _ _ => op_neq t c kd a b,
    fun t c kd a b => qV_of fun _ _ _ => op_lss t c kd a b, fun t c kd a b => qV_of fun _ _ _ => op_leq t c kd a b, fun t c kd a b => qV_of fun _ _ _ => op_gtr t c kd a b, fun t c kd a b => qV_of fun _ _ _ => op_geq t c kd a b,
    fun t c a b => qV_of fun _ _ _ => op_seql t c a b, fun t c a b => qV_of fun _ _ _ => op_sneq t c a b, fun b => qV_of fun _ _ _ => op_not b, fun ts t kd a b => qV_of fun _ _ _ => op_max ts t kd a b, fun ts t kd a b => qV_of fun _ _ _ => op_min ts t kd a b,
    fun a b => qV_of fun _ _ _ => op_extract20 a b, fun a b => qV_of fun _ _ _ => op_extract21 a b, fun a b c => qV_of fun _ _ _ => op_extract30 a b c, fun a b c => qV_of fun _ _ _ => op_extract31 a b c, fun a b c => qV_of fun _ _ _ => op_extract32 a b c, fun fn a b => qV_of fun _ _ _ => op_makeFunc fn a b, qN_nil⟩
def KL (w : World) (r : Nat) (ps : List (ByteArray × Value)) : World → Prop := fun x => Ext w x ∧ MapOf x r ps
theorem qV_lookupKL {mt kt et r : TypeId} {agg : Bool} {n m : Nat} {z : Value} {ps : List (ByteArray × Value)} {k : Value → Prop} (hm : P.underlying mt = some (.map kt et)) (hk : P.underlying kt = some .string) (hz : TyInfo P et agg n m z) (hne : ∃ x, KL w r ps x) (s : ByteArray) :
    qV P (KL w r ps) (Instr.lookup mt (.map (some r)) (.string s) true) k = k (.tuple #[(lastOf ps s).getD z, .bool (lastOf ps s).isSome]) := by
  haveI : ClassNe (KL w r ps) := ⟨hne⟩
  exact qV_eqC fun w' e => run_of_op fun QP k => op_lookupO hm hk hz e.2 s
theorem qV_lookup1E {mt kt et r : TypeId} {agg : Bool} {n m : Nat} {z : Value} {ps : List (ByteArray × Value)} {k : Value → Prop} (hm : P.underlying mt = some (.map kt et)) (hk : P.underlying kt = some .string) (hz : TyInfo P et agg n m z) (h : MapOf w r ps) (s : ByteArray) :
    qV P (EC w) (Instr.lookup mt (.map (some r)) (.string s) false) k = k ((lastOf ps s).getD z) := qV_eqC fun w' e => run_of_op fun QP k => op_lookup1O hm hk hz (h.ext e) s
theorem qV_lookupE {mt kt et r : TypeId} {agg : Bool} {n m : Nat} {z : Value} {ps : List (ByteArray × Value)} {k : Value → Prop} (hm : P.underlying mt = some (.map kt et)) (hk : P.underlying kt = some .string) (hz : TyInfo P et agg n m z) (h : MapOf w r ps) (s : ByteArray) :
    qV P (EC w) (Instr.lookup mt (.map (some r)) (.string s) true) k = k (.tuple #[(lastOf ps s).getD z, .bool (lastOf ps s).isSome]) := qV_eqC fun w' e => run_of_op fun QP k => op_lookupO hm hk hz (h.ext e) s
theorem narrowK_same {C : World → Prop} {f : (World → Prop) → World → Prop} (hC : C w) (h : f C w) : narrowK C w f := ⟨C, fun _ h => h, hC, h⟩
theorem narrowK_KL {w1 : World} {r : Nat} {ps : List (ByteArray × Value)} {f : (World → Prop) → World → Prop} (e : Ext w1 w) (hm : MapOf w r ps) (h : f (KL w1 r ps) w) : narrowK (EC w1) w f := ⟨KL w1 r ps, fun _ h => h.1, ⟨e, hm⟩, h⟩
theorem narrowK_EC {w1 : World} {f : (World → Prop) → World → Prop} (e : Ext w1 w) (h : f (EC w) w) : narrowK (EC w1) w f := ⟨EC w, fun _ h => e.trans h, Ext.refl _, h⟩
theorem qV_shl {C : World → Prop} [ClassNe C] {k : Value → Prop} (t : TypeId) (c : Bool) (x : Int) (yk : IntKind) (y : Int) (h0 : 0 ≤ y) (h1 : y ≤ 64) : qV P C (binS .shl t c (.int .i64 x) (.int yk y)) k = k (.int .i64 (IntKind.i64.wrap (x * 2 ^ y.toNat))) := qV_of fun _ _ _ => op_shl t c x yk y h0 h1
theorem qV_rem {C : World → Prop} [ClassNe C] {k : Value → Prop} (t : TypeId) (c : Bool) (kd : IntKind) (a b : Int) (hb : b ≠ 0) : qV P C (binS .rem t c (.int kd a) (.int kd b)) k = k (.int kd (a.tmod b)) := qV_of fun _ _ _ => op_rem t c kd a b hb
def KM {α : Type} [DecidableEq α] (w : World) (r : Nat) (enc : α → Value) (L : List (α × Value × Nat)) (c : Nat) : World → Prop := fun x => Ext w x ∧ MapB x r enc L c
theorem qV_lookupKM {α : Type} [DecidableEq α] {mt kt et r c : TypeId} {agg : Bool} {n m : Nat} {z : Value} {enc : α → Value} {L : List (α × Value × Nat)} {k : Value → Prop} (hm : P.underlying mt = some (.map kt et)) (K : KeyOK P kt enc) (hz : TyInfo P et agg n m z) (hne : ∃ x, KM w r enc L c x) (s : α) :
    qV P (KM w r enc L c) (Instr.lookup mt (.map (some r)) (enc s) true) k = k (.tuple #[(look L s).getD z, .bool (look L s).isSome]) := by
  haveI : ClassNe (KM w r enc L c) := ⟨hne⟩
  exact qV_eqC fun w' e => run_of_op fun QP k => op_lookup hm K hz e.2 s
theorem narrowK_KM {α : Type} [DecidableEq α] {w1 : World} {r c : Nat} {enc : α → Value} {L : List (α × Value × Nat)} {f : (World → Prop) → World → Prop} (e : Ext w1 w) (hm : MapB w r enc L c) (h : f (KM w1 r enc L c) w) : narrowK (EC w1) w f := ⟨KM w1 r enc L c, fun _ h => h.1, ⟨e, hm⟩, h⟩
theorem drawK_intro {f : (World → Prop) → World → Prop} (h : f (EC (drew w)) (drew w)) : drawK w f := ⟨EC (drew w), Ext.refl _, h⟩
theorem drawK_introE {w1 : World} {f : (World → Prop) → World → Prop} (e : Ext w1 w) (h : f (EC w1) (drew w)) : drawK w f := ⟨EC w1, e.drew, h⟩
theorem drawK_introB {w1 : World} (b1 b2 : Nat) {f : (World → Prop) → World → Prop} (e : KB w1 b1 b2 w) (h : f (KB w1 b1 b2) (drew w)) : drawK w f := ⟨KB w1 b1 b2, e, h⟩
theorem turnK_intro {f : (World → Prop) → World → Prop} (h : f (EC w) w) : turnK w f := ⟨EC w, Ext.refl _, h⟩
@[congr] theorem turnK_congr {w' : World} {f : (World → Prop) → World → Prop} {d : Nat} (hw : w = w') (hd : dirty = d) : turnK w f = turnK w' f := by rw [hw]
end
end Go.Sw
namespace Go.Sw
open Go.RowKit (Below)
def OwnE {α : Type} (w : World) (base : Nat) (T : TypeId) (n : Nat) (enc : α → List Value) (v : Value) (l : List α) : Prop :=
  w.ownsRow base T n v l.length (l.flatMap enc)
theorem ownsRow_ext {w w' : World} {base n m : Nat} {T : TypeId} {v : Value} {xs : List Value} (h : w.ownsRow base T n v m xs) (e : Ext w w') : w'.ownsRow base T n v m xs :=
  h.kept (row := none) ⟨e.os, e.tape, e.output, e.size, fun k hk _ => e.block k hk⟩ (by cases hv : v.ownBlock <;> simp)
theorem ownsRow_base {w : World} {base base' n m : Nat} {T : TypeId} {v : Value} {xs : List Value} (h : w.ownsRow base T n v m xs) (hb : base' ≤ base) : w.ownsRow base' T n v m xs := by
  refine ⟨h.1, ?_⟩
  rcases h.2 with h2 | ⟨g, cap, cur, h1, h2, h3⟩
  · exact .inl h2
  · exact .inr ⟨g, cap, cur, h1, Nat.le_trans hb h2, h3⟩
theorem OwnE.ext {α : Type} {w w' : World} {base n : Nat} {T : TypeId} {enc : α → List Value} {v : Value} {l : List α} (h : OwnE w base T n enc v l) (e : Ext w w') : OwnE w' base T n enc v l := ownsRow_ext h e
theorem OwnE.base {α : Type} {w : World} {base base' n : Nat} {T : TypeId} {enc : α → List Value} {v : Value} {l : List α} (h : OwnE w base T n enc v l) (hb : base' ≤ base) : OwnE w base' T n enc v l := ownsRow_base h hb
theorem OwnE.nil {α : Type} (w : World) (base n : Nat) (T : TypeId) (enc : α → List Value) : OwnE w base T n enc (.slice none 0 0) [] := w.ownsRow_nil base T n
theorem flatMap_get {α : Type} {enc : α → List Value} {n : Nat} (hn : ∀ x, (enc x).length = n) : ∀ (l : List α) (k : Nat) (x : α) (j : Nat) (v : Value), l[k]? = some x → (enc x)[j]? = some v → (l.flatMap enc)[k * n + j]? = some v
  | [], k, x, j, v, h, _ => by simp at h
  | y :: l, 0, x, j, v, h, hv => by
    simp only [List.getElem?_cons_zero, Option.some.injEq] at h
    subst h
    have hj : j < (enc y).length := (List.getElem?_eq_some_iff.1 hv).1
    rw [List.flatMap_cons, Nat.zero_mul, Nat.zero_add, List.getElem?_append_left hj]; exact hv
  | y :: l, k + 1, x, j, v, h, hv => by
    rw [List.flatMap_cons, List.getElem?_append_right (by rw [hn, Nat.add_mul]; omega)]
    have := flatMap_get hn l k x j v (by simpa using h) hv
    rw [hn, Nat.add_mul]
    rw [show k * n + 1 * n + j - n = k * n + j by omega]
    exact this
theorem OwnE.slice {α : Type} {w : World} {base n : Nat} {T : TypeId} {enc : α → List Value} {v : Value} {l : List α} {E : World → List Value → α → Prop} (h : OwnE w base T n enc v l) (hn : ∀ x, (enc x).length = n) (hE : ∀ x, x ∈ l → E w (enc x) x) : SliceOf w n E v l := by
  obtain ⟨h1, h2⟩ := h
  rcases h2 with ⟨rfl, h0⟩ | ⟨g, cap, cur, rfl, hb, hg, hc, hm, hs, ht⟩
  · have : l = [] := List.eq_nil_of_length_eq_zero h0
    subst this; exact SliceOf.nil w n E
  · refine ⟨_, cap, rfl, hc, by simp only [maxLen] at hm; omega, fun _ => ⟨g, 0, rfl, fun k x hx => ⟨enc x, hn x, fun j v hv => ?_, hE x (List.mem_of_getElem? hx)⟩⟩⟩
    have hk : k < l.length := (List.getElem?_eq_some_iff.1 hx).1
    have hj : j < n := by have := (List.getElem?_eq_some_iff.1 hv).1; rwa [hn] at this
    have := flatMap_get hn l k x j v hx hv
    rw [← ht, List.getElem?_take] at this
    split at this
    · rw [cell_of_row w g _ cur T (0, 0) hg, Nat.zero_add]
      simpa using this
    · cases this
theorem OwnE.new {α : Type} (w : World) (T : TypeId) (n : Nat) (enc : α → List Value) (l : List α) (hn : ∀ x, (enc x).length = n) (hl : l.length ≤ 9223372036854775807) : OwnE (w.alloc (.cells (l.flatMap enc).toArray T)) w.heap.size T n enc (.slice (some ⟨w.heap.size, 0, none⟩) l.length l.length) l := by
  have hlen : (l.flatMap enc).length = l.length * n := by
    clear hl
    induction l with
    | nil => simp
    | cons a l ih => rw [List.flatMap_cons, List.length_append, hn, ih, List.length_cons, Nat.add_mul]; omega
  exact ⟨hlen, .inr ⟨_, _, _, rfl, Nat.le_refl _, World.alloc_heap_new w _, Nat.le_refl _, by simp only [maxLen]; omega, by simpa using hlen, by rw [← hlen]; exact List.take_length⟩⟩
abbrev Cs (n : Nat) : Type := {cs : List Value // cs.length = n}
def Mates {α : Type} (n : Nat) (E : List Value → α → Prop) (css : List (Cs n)) (l : List α) : Prop := css.length = l.length ∧ ∀ (k : Nat) (x : α) (cs : Cs n), l[k]? = some x → css[k]? = some cs → E cs.1 x
theorem Mates.imp {α : Type} {n : Nat} {E E' : List Value → α → Prop} {css : List (Cs n)} {l : List α} (h : Mates n E css l) (hE : ∀ cs x, E cs x → E' cs x) : Mates n E' css l := ⟨h.1, fun k x cs hx hc => hE _ _ (h.2 k x cs hx hc)⟩
theorem Mates.mem {α : Type} {n : Nat} {E : List Value → α → Prop} {css : List (Cs n)} {l : List α} (h : Mates n E css l) {cs : Cs n} (hc : cs ∈ css) : ∃ x ∈ l, E cs.1 x := by
  obtain ⟨k, hk⟩ := List.getElem?_of_mem hc
  obtain ⟨x, hx⟩ := getElem?_lt (l := l) (k := k) (by rw [← h.1]; exact (List.getElem?_eq_some_iff.1 hk).1)
  exact ⟨x, List.mem_of_getElem? hx, h.2 k x cs hx hk⟩
theorem keptRaw {n : Nat} : Kept (fun (_ : World) (cs : List Value) (x : Cs n) => cs = x.1) := fun _ _ _ _ _ h => h
theorem SliceOf.raw {α : Type} {w : World} {n : Nat} {E : World → List Value → α → Prop} {v : Value} {l : List α} (h : SliceOf w n E v l) :
    ∃ css : List (Cs n), SliceOf w n (fun _ cs x => cs = x.1) v css ∧ Mates n (E w) css l := by
  obtain ⟨A, c, rfl, hlc, hcm, hlm, hel⟩ := SliceOf.open h
  have hex : ∀ k, ∃ cs : Cs n, ∀ x, l[k]? = some x → ∃ b o, A = some ⟨b, o, none⟩ ∧ ElemAt w b (o + k * n) cs.1 ∧ E w cs.1 x := by
    intro k
    cases hx : l[k]? with
    | none => exact ⟨⟨List.replicate n .nilIface, by simp⟩, fun x h => by cases h⟩
    | some x =>
      obtain ⟨b, o, cs, h1, h2, h3, h4⟩ := hel k x hx
      exact ⟨⟨cs, h2⟩, fun y hy => by injection hy with hy; subst hy; exact ⟨b, o, h1, h3, h4⟩⟩
  let f := fun k => Classical.choose (hex k)
  have hf : ∀ k x, l[k]? = some x → ∃ b o, A = some ⟨b, o, none⟩ ∧ ElemAt w b (o + k * n) (f k).1 ∧ E w (f k).1 x := fun k => Classical.choose_spec (hex k)
  refine ⟨(List.range l.length).map f, ⟨A, c, by simp, by simpa using hlc, hcm, fun hne => ?_⟩, by simp, fun k x cs hx hcs => ?_⟩
  · have hl0 : 0 < l.length := by
      cases hl : l with
      | nil => rw [hl] at hne; simp at hne
      | cons => simp
    obtain ⟨x, hx⟩ := getElem?_lt hl0
    obtain ⟨b, o, hA, _⟩ := hf 0 x hx
    refine ⟨b, o, hA, fun k cs hcs => ?_⟩
    simp only [List.getElem?_map, Option.map_eq_some_iff] at hcs
    obtain ⟨i, hi, rfl⟩ := hcs
    obtain ⟨hk, he⟩ := List.getElem?_eq_some_iff.1 hi
    simp only [List.length_range] at hk
    rw [List.getElem_range] at he
    subst he
    obtain ⟨y, hy⟩ := getElem?_lt hk
    obtain ⟨b', o', hA', h3, h4⟩ := hf k y hy
    rw [hA] at hA'
    injection hA' with hA'
    injection hA' with h5 h6
    subst h5 h6
    exact ⟨(f k).1, (f k).2, h3, rfl⟩
  · obtain ⟨_, _, _, _, h4⟩ := hf k x hx
    have hk : k < l.length := (List.getElem?_eq_some_iff.1 hx).1
    simp only [List.getElem?_map, List.getElem?_range hk, Option.map_some, Option.some.injEq] at hcs
    rw [← hcs]; exact h4
theorem OwnE.reads {α : Type} {w : World} {base n : Nat} {T : TypeId} {v : Value} {css : List (Cs n)} {l : List α} {E : World → List Value → α → Prop} (h : OwnE w base T n Subtype.val v css) (hm : Mates n (E w) css l) : SliceOf w n E v l := by
  have hs : SliceOf w n (fun _ cs (x : Cs n) => cs = x.1) v css := h.slice (fun x => x.2) (fun _ _ => rfl)
  obtain ⟨A, c, h1, h2, h3, h4⟩ := hs
  rw [hm.1] at h1 h2
  refine ⟨A, c, h1, h2, h3, fun hne => ?_⟩
  have hne' : css ≠ [] := by
    rintro rfl
    have := hm.1
    exact hne (List.eq_nil_of_length_eq_zero (by simpa using this.symm))
  obtain ⟨b, o, hA, h5⟩ := h4 hne'
  refine ⟨b, o, hA, fun k x hx => ?_⟩
  obtain ⟨cs, hcs⟩ := getElem?_lt (l := css) (k := k) (by rw [hm.1]; exact (List.getElem?_eq_some_iff.1 hx).1)
  obtain ⟨cs', h6, h7, rfl⟩ := h5 k cs hcs
  exact ⟨cs.1, cs.2, h7, hm.2 k x cs hx hcs⟩
theorem cells_of_heap {w : World} {b : Nat} {cs : Array Value} {T : TypeId} (h : w.heap[b]? = some (.cells cs T (0, 0))) : (∀ o, w.cell? ⟨b, o, none⟩ = cs[o]?) ∧ ∀ o, w.frozen? ⟨b, o, none⟩ = false :=
  ⟨fun o => cell_of_row w b o cs T (0, 0) h, fun o => by unfold World.frozen?; rw [h]; simp⟩
theorem heap_set {w : World} {b o : Nat} {cs : Array Value} {T : TypeId} {fr : Nat × Nat} (h : w.heap[b]? = some (.cells cs T fr)) (v : Value) : (w.setCell ⟨b, o, none⟩ v).heap[b]? = some (.cells (cs.setIfInBounds o v) T fr) := by
  simp only [World.setCell, Array.getElem?_modify, h]
  simp
def setObj (o : Nat) (v : Value) : Obj → Obj
  | .cells cs T fr => .cells (cs.setIfInBounds o v) T fr
  | x => x
theorem setObj_cells (o : Nat) (v : Value) (cs : Array Value) (T : TypeId) (fr : Nat × Nat) : setObj o v (.cells cs T fr) = .cells (cs.setIfInBounds o v) T fr := rfl
theorem heap_set_map {w : World} {b o : Nat} {v : Value} : (w.setCell ⟨b, o, none⟩ v).heap[b]? = (w.heap[b]?).map (setObj o v) := by
  simp only [World.setCell, Array.getElem?_modify]
  cases w.heap[b]? with
  | none => simp
  | some x => simp; cases x <;> rfl
theorem heap_new (w : World) (cs : Array Value) (T : TypeId) : (w.alloc (.cells cs T)).heap[w.heap.size]? = some (.cells cs T (0, 0)) := World.alloc_heap_new w _
def TypeAt (w : World) (b : Nat) (T : TypeId) : Prop := ∃ cur fr, w.heap[b]? = some (.cells cur T fr)
def Only (b : Nat) (w w' : World) : Prop := ∀ g, g ≠ b → w'.heap[g]? = w.heap[g]?
theorem Only.setCell (w : World) (b o : Nat) (v : Value) : Only b w (w.setCell ⟨b, o, none⟩ v) := fun g hg => Below.heap_setCell w ⟨b, o, none⟩ v g hg
def OwnR {α : Type} (w : World) (lo hi : Nat) (T : TypeId) (n : Nat) (enc : α → List Value) (v : Value) (l : List α) : Prop := OwnE w lo T n enc v l ∧ ∀ b, v.ownBlock = some b → b < hi
theorem OwnE.range {α : Type} {w : World} {lo n : Nat} {T : TypeId} {enc : α → List Value} {v : Value} {l : List α} (h : OwnE w lo T n enc v l) : OwnR w lo w.heap.size T n enc v l := ⟨h, fun b hb => (h.lt b hb).2⟩
theorem OwnR.ext {α : Type} {w w' : World} {lo hi n : Nat} {T : TypeId} {enc : α → List Value} {v : Value} {l : List α} (h : OwnR w lo hi T n enc v l) (e : Ext w w') : OwnR w' lo hi T n enc v l := ⟨h.1.ext e, h.2⟩
theorem OwnR.mono {α : Type} {w : World} {lo lo' hi hi' n : Nat} {T : TypeId} {enc : α → List Value} {v : Value} {l : List α} (h : OwnR w lo hi T n enc v l) (h1 : lo' ≤ lo) (h2 : hi ≤ hi') : OwnR w lo' hi' T n enc v l := ⟨h.1.base h1, fun b hb => Nat.lt_of_lt_of_le (h.2 b hb) h2⟩
theorem OwnR.only {α : Type} {w w' : World} {lo hi n b : Nat} {T : TypeId} {enc : α → List Value} {v : Value} {l : List α} (h : OwnR w lo hi T n enc v l) (ho : Only b w w') (hb : hi ≤ b ∨ b < lo ∨ ∃ T', TypeAt w b T' ∧ T' ≠ T) : OwnR w' lo hi T n enc v l := by
  refine ⟨⟨h.1.1, ?_⟩, h.2⟩
  rcases h.1.2 with h2 | ⟨g, cap, cur, h1, h2, h3, h4⟩
  · exact .inl h2
  · refine .inr ⟨g, cap, cur, h1, h2, ?_, h4⟩
    rw [ho g ?_]; exact h3
    rintro rfl
    rcases hb with hb | hb | ⟨T', ⟨cur', fr, hc⟩, hT⟩
    · have := h.2 g (by rw [h1]; rfl)
      omega
    · omega
    · rw [h3] at hc; injection hc with hc; injection hc with _ hc _; exact hT hc.symm
theorem OwnE.row {α : Type} {w : World} {lo n : Nat} {T : TypeId} {enc : α → List Value} {v : Value} {l : List α} (h : OwnE w lo T n enc v l) (hn : ∀ x, (enc x).length = n) (hl : 0 < l.length) :
    ∃ g cap, v = .slice (some ⟨g, 0, none⟩) l.length cap ∧ lo ≤ g ∧ g < w.heap.size ∧ TypeAt w g T ∧ (∀ o, w.frozen? ⟨g, o, none⟩ = false) ∧ ∀ k x, l[k]? = some x → ElemAt w g (k * n) (enc x) := by
  rcases h.2 with ⟨rfl, h0⟩ | ⟨g, cap, cur, rfl, hb, hg, hc, hm, hs, ht⟩
  · omega
  · refine ⟨g, cap, rfl, hb, (Array.getElem?_eq_some_iff.1 hg).1, ⟨_, _, hg⟩, fun o => by unfold World.frozen?; rw [hg]; simp, fun k x hx j v hv => ?_⟩
    have := flatMap_get hn l k x j v hx hv
    rw [← ht, List.getElem?_take] at this
    split at this
    · rw [cell_of_row w g _ cur T (0, 0) hg]
      simpa using this
    · cases this
theorem flatMap_set {n : Nat} : ∀ (css : List (Cs n)) (k : Nat) (cs : Cs n) (j : Nat) (u : Value), css[k]? = some cs → j < n → (css.flatMap Subtype.val).set (k * n + j) u = (css.set k ⟨cs.1.set j u, by simp [cs.2]⟩).flatMap Subtype.val
  | [], k, cs, j, u, h, _ => by simp at h
  | y :: l, 0, cs, j, u, h, hj => by
    simp only [List.getElem?_cons_zero, Option.some.injEq] at h
    subst h
    rw [List.set_cons_zero, List.flatMap_cons, List.flatMap_cons, Nat.zero_mul, Nat.zero_add, List.set_append_left _ _ (by rw [y.2]; exact hj)]
  | y :: l, k + 1, cs, j, u, h, hj => by
    have hk : (k + 1) * n = k * n + n := by rw [Nat.add_mul, Nat.one_mul]
    rw [List.set_cons_succ, List.flatMap_cons, List.flatMap_cons, List.set_append_right _ _ (by rw [y.2, hk]; omega), y.2, hk, show k * n + n + j - n = k * n + j by omega]
    rw [flatMap_set l k cs j u (by simpa using h) hj]
theorem OwnE.set {w : World} {lo n g cap len : Nat} {T : TypeId} {css : List (Cs n)} (h : OwnE w lo T n Subtype.val (.slice (some ⟨g, 0, none⟩) len cap) css) {k : Nat} {cs : Cs n} (hk : css[k]? = some cs) {j : Nat} (hj : j < n) (u : Value) :
    OwnE (w.setCell ⟨g, k * n + j, none⟩ u) lo T n Subtype.val (.slice (some ⟨g, 0, none⟩) len cap) (css.set k ⟨cs.1.set j u, by simp [cs.2]⟩) := by
  have hkl : k < css.length := (List.getElem?_eq_some_iff.1 hk).1
  refine ⟨?_, ?_⟩
  · rw [← flatMap_set css k cs j u hk hj, List.length_set, List.length_set]; exact h.1
  rcases h.2 with ⟨h0, _⟩ | ⟨g', cap', cur, h1, hb, hg, hc, hm, hs, ht⟩
  · cases h0
  · injection h1 with h1 h1' h1''
    injection h1 with h1
    injection h1 with h1
    subst h1 h1''
    refine .inr ⟨g, cap, cur.setIfInBounds (k * n + j) u, by rw [List.length_set, ← h1'], hb, ?_, by rw [List.length_set]; exact hc, hm, by simpa using hs, ?_⟩
    · simp only [World.setCell, Array.getElem?_modify, hg]
      simp
    · rw [List.length_set, ← flatMap_set css k cs j u hk hj, ← ht, Array.toList_setIfInBounds, List.take_set]
theorem TypeAt.only {w w' : World} {b b' : Nat} {T : TypeId} (h : TypeAt w b T) (ho : Only b' w w') (hb : b ≠ b') : TypeAt w' b T := by
  obtain ⟨cur, fr, h⟩ := h
  exact ⟨cur, fr, by rw [ho b hb]; exact h⟩
theorem TypeAt.ext {w w' : World} {b : Nat} {T : TypeId} (h : TypeAt w b T) (e : Ext w w') : TypeAt w' b T := by
  obtain ⟨cur, fr, h⟩ := h
  exact ⟨cur, fr, e.obj h⟩
theorem OwnE.mates {α : Type} {w : World} {lo n : Nat} {T : TypeId} {enc : α → List Value} {v : Value} {css : List (Cs n)} {l : List α} (h : OwnE w lo T n Subtype.val v css) (hm : Mates n (fun cs x => cs = enc x) css l) : OwnE w lo T n enc v l := by
  have he : css.flatMap Subtype.val = l.flatMap enc := by
    have : css.map Subtype.val = l.map enc := by
      apply List.ext_getElem?
      intro i
      rw [List.getElem?_map, List.getElem?_map]
      cases hc : css[i]? with
      | none =>
        have : l[i]? = none := by rw [List.getElem?_eq_none_iff] at hc ⊢; rw [← hm.1]; exact hc
        rw [this]; rfl
      | some cs =>
        obtain ⟨x, hx⟩ := getElem?_lt (l := l) (k := i) (by rw [← hm.1]; exact (List.getElem?_eq_some_iff.1 hc).1)
        rw [hx]
        simp only [Option.map_some, Option.some.injEq]
        exact hm.2 i x cs hx hc
    rw [List.flatMap_def, List.flatMap_def, this]
  unfold OwnE at *
  rw [← he, ← hm.1]; exact h
section
variable {P : Program} {QP : List PanicEntry → World → Prop} {w : World}
theorem op_append0 {t ty T n m : Nat} {z : Value} {agg : Bool} {k : Value → World → Prop} (ht : P.underlying t = some (.slice T)) (hT : TyInfo P T agg n m z) (B A : Option Addr) (len cap c : Nat) (hc : len ≤ cap) :
    opV P (Builtin.append_ #[t, t] ty #[.slice B len cap, .slice A 0 c]) QP w k = k (.slice B len cap) w := by
  obtain ⟨⟨i, hi, hs, hby, hzz⟩, _⟩ := hT
  refine opV_ok ?_
  cases A with
  | none => cases B <;> simp [Builtin.append_, run_underlying ht, sizeOf, typeInfo, hi, Builtin.lenOf, Builtin.firstCells, hc, storeCells]
  | some a => cases B <;> simp [Builtin.append_, run_underlying ht, sizeOf, typeInfo, hi, Builtin.lenOf, Builtin.firstCells, hc, storeCells, loadCells, loadCellsFrom]
theorem op_appendE {α : Type} {t ty T n m : Nat} {z : Value} {agg : Bool} {enc : α → List Value} {v : Value} {l l' : List α} {base : Nat} {k : Value → World → Prop}
    (ht : P.underlying t = some (.slice T)) (hT : TyInfo P T agg n m z) (hz : z.cells.size = n) (h0 : 0 < n) (hn : ∀ x, (enc x).length = n) (h1 : ∀ x, x ∈ l' → ∀ u ∈ enc x, u.oneCell' = true)
    (hown : OwnE w base T n enc v l) {b o c : Nat} (hc : ∀ j x, l'[j]? = some x → ElemAt w b (o + j * n) (enc x)) (hbase : base ≤ w.heap.size) (hm : (l.length + l'.length) * m ≤ 140737488355328) (hb : l.length + l'.length ≤ 140737488355328)
    (hk : ∀ v' w', OwnE w' base T n enc v' (l ++ l') → w.grownBy w' v.ownBlock → k v' w') :
    opV P (Builtin.append_ #[t, t] ty #[v, .slice (some ⟨b, o, none⟩) l'.length c]) QP w k := by
  obtain ⟨⟨i, hi, hs, hby, hzz⟩, _⟩ := hT
  have hfl : (l'.flatMap enc).length = l'.length * n := by
    clear hm hb hc h1 hk
    induction l' with
    | nil => simp
    | cons a l ih => rw [List.flatMap_cons, List.length_append, hn, ih, List.length_cons, Nat.add_mul]; omega
  have hcells : ∀ j u, (l'.flatMap enc)[j]? = some u → w.cell? ((⟨b, o, none⟩ : Addr).add j) = some u := by
    intro j u hu
    have hj : j < l'.length * n := by have := (List.getElem?_eq_some_iff.1 hu).1; rwa [hfl] at this
    have hq : j / n < l'.length := Nat.div_lt_of_lt_mul (by rw [Nat.mul_comm]; exact hj)
    obtain ⟨x, hx⟩ := getElem?_lt hq
    have hjn : j % n < (enc x).length := by rw [hn]; exact Nat.mod_lt _ h0
    have hdm : j / n * n + j % n = j := by rw [Nat.mul_comm]; exact Nat.div_add_mod j n
    have hg := flatMap_get hn l' (j / n) x (j % n) _ hx (List.getElem?_eq_getElem hjn)
    rw [hdm, hu] at hg
    injection hg with hg
    rw [Addr.add_lit]
    have := hc _ _ hx (j % n) _ (List.getElem?_eq_getElem hjn)
    rw [hg, ← this]
    congr 2; omega
  obtain ⟨v', w', hr, ho, hg, _⟩ := run_append_own (P := P) w base t ty T i z n m ht hi hzz hs hby hz h0 v l.length (l.flatMap enc) hown ⟨b, o, none⟩ l'.length c (l'.flatMap enc) hfl hcells
    (by intro u hu; obtain ⟨x, hx, hux⟩ := List.mem_flatMap.1 hu; exact h1 x hx u hux) (by simp only [maxLen]; omega) hm hbase
  rw [opV_ok hr]
  refine hk v' w' ?_ hg
  unfold OwnE
  rw [List.flatMap_append, List.length_append]; exact ho
end
end Go.Sw
