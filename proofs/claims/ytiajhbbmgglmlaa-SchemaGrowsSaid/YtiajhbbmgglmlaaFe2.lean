/-
  Lemmas for the claim.
-/
import Derived.Test.YtiajhbbmgglmlaaFe1
set_option linter.all false
namespace Go.Sw
section
variable {α : Type}
def mkE (enc : α → Value) (x : α × Value × Nat) : MapEntry := { key := enc x.1, val := x.2.1, born := x.2.2 }
structure MapB (w : World) (r : Nat) (enc : α → Value) (L : List (α × Value × Nat)) (c : Nat) : Prop where
  obj : w.heap[r]? = some (.map (L.map (mkE enc)).toArray c)
  lt : ∀ x ∈ L, x.2.2 < c
  births : L.Pairwise (fun x y => x.2.2 ≠ y.2.2)
  keys : L.Pairwise (fun x y => x.1 ≠ y.1)
section dec
variable [DecidableEq α]
def look (L : List (α × Value × Nat)) (k : α) : Option Value := (L.find? (fun x => decide (x.1 = k))).map (·.2.1)
def bornOf (L : List (α × Value × Nat)) (k : α) : Nat := ((L.find? (fun x => decide (x.1 = k))).map (·.2.2)).getD 0
def hasK (L : List (α × Value × Nat)) (k : α) : Bool := L.any (fun x => decide (x.1 = k))
def updL (L : List (α × Value × Nat)) (k : α) (v : Value) : List (α × Value × Nat) := L.map fun x => if x.1 = k then (x.1, v, x.2.2) else x
def putL (L : List (α × Value × Nat)) (c : Nat) (k : α) (v : Value) : List (α × Value × Nat) := if hasK L k then updL L k v else L ++ [(k, v, c)]
def putC (L : List (α × Value × Nat)) (c : Nat) (k : α) : Nat := if hasK L k then c else c + 1
def entL (L : List (α × Value × Nat)) (c : Nat) (k : α) (z : Value) : List (α × Value × Nat) := if hasK L k then L else L ++ [(k, z, c)]
end dec
theorem MapB.ext {w w' : World} {r : Nat} {enc : α → Value} {L : List (α × Value × Nat)} {c : Nat} (h : MapB w r enc L c) (e : Ext w w') : MapB w' r enc L c := ⟨e.obj h.obj, h.lt, h.births, h.keys⟩
theorem MapB.setCell {w : World} {r : Nat} {enc : α → Value} {L : List (α × Value × Nat)} {c : Nat} (h : MapB w r enc L c) (a : Addr) (v : Value) : MapB (w.setCell a v) r enc L c := ⟨(KeepsOthers.setCell w a v).same _ _ h.obj rfl, h.lt, h.births, h.keys⟩
theorem MapB.keeps {w w' : World} {r : Nat} {enc : α → Value} {L : List (α × Value × Nat)} {c : Nat} (h : MapB w r enc L c) (e : KeepsOthers w w') : MapB w' r enc L c := ⟨e.same _ _ h.obj rfl, h.lt, h.births, h.keys⟩
theorem MapB.new (w : World) (enc : α → Value) : MapB (w.alloc (.map #[] 0)) w.heap.size enc [] 0 := ⟨World.alloc_heap_new w _, by simp, by simp, by simp⟩
theorem MapB.putOther {w : World} {r r' : Nat} {enc : α → Value} {L : List (α × Value × Nat)} {c : Nat} (h : MapB w r enc L c) (hne : r ≠ r') (o : Obj) : MapB (w.putObj r' o) r enc L c := ⟨(World.putObj_heap_other hne).trans h.obj, h.lt, h.births, h.keys⟩
variable [DecidableEq α]
theorem look_cons (x : α × Value × Nat) (L : List (α × Value × Nat)) (k : α) : look (x :: L) k = if x.1 = k then some x.2.1 else look L k := by
  unfold look
  by_cases h : x.1 = k <;> simp [h]
theorem hasK_look (L : List (α × Value × Nat)) (k : α) : hasK L k = (look L k).isSome := by
  induction L with
  | nil => rfl
  | cons x L ih =>
    rw [look_cons]
    unfold hasK at *
    simp only [List.any_cons, ih]
    by_cases h : x.1 = k <;> simp [h]
theorem look_append (L : List (α × Value × Nat)) (k k' : α) (v : Value) (c : Nat) : look (L ++ [(k, v, c)]) k' = (look L k').or (if k = k' then some v else none) := by
  induction L with
  | nil => rw [List.nil_append, look_cons]; by_cases h : k = k' <;> simp [h, look]
  | cons x L ih =>
    rw [List.cons_append, look_cons, look_cons, ih]
    by_cases h : x.1 = k' <;> simp [h]
theorem look_upd (L : List (α × Value × Nat)) (k k' : α) (v : Value) : look (updL L k v) k' = if k' = k then (if hasK L k then some v else none) else look L k' := by
  induction L with
  | nil => by_cases h : k' = k <;> simp [h, look, updL, hasK]
  | cons x L ih =>
    have e : updL (x :: L) k v = (if x.1 = k then (x.1, v, x.2.2) else x) :: updL L k v := rfl
    rw [e, look_cons, ih, look_cons]
    by_cases h : x.1 = k
    · by_cases h' : k' = k
      · subst h; subst h'; simp [hasK]
      · simp only [h, if_true, h', if_false]
        by_cases h2 : k = k'
        · exact absurd h2.symm h'
        · simp [h2]
    · by_cases h' : k' = k
      · subst h'; simp only [h, if_false, if_true, hasK, List.any_cons, decide_false, Bool.false_or]; congr
      · simp [h, h']
theorem look_put (L : List (α × Value × Nat)) (c : Nat) (k k' : α) (v : Value) : look (putL L c k v) k' = if k' = k then some v else look L k' := by
  unfold putL
  by_cases h : hasK L k = true
  · rw [if_pos h, look_upd, if_pos h]
  · rw [if_neg h, look_append]
    have hn : look L k = none := by rw [hasK_look] at h; simpa using h
    by_cases h' : k' = k
    · subst h'; simp [hn]
    · have : ¬ k = k' := fun e => h' e.symm
      simp [h', this]
structure KeyOK (P : Program) (kt : TypeId) (enc : α → Value) : Prop where
  find : ∃ d, P.underlying kt = some d ∧ ∀ a b, Instr.sameNow d (enc a) (enc b) = some (decide (a = b))
  check : ∀ e a w, (Instr.checkKey e 10000 kt (enc a)).run P w = .ok () w
  bits : ∀ a, Instr.sameBits 10000 (enc a) (enc a) = true
theorem bytes_beq' (a b : ByteArray) : (a == b) = decide (a = b) := by
  rw [Bool.eq_iff_iff, decide_eq_true_iff]
  cases a with
  | mk x => cases b with
    | mk y =>
      show (x == y) = true ↔ _
      rw [beq_iff_eq]
      simp
theorem KeyOK.string {P : Program} {kt : TypeId} (h : P.underlying kt = some .string) : KeyOK P kt (fun s : ByteArray => Value.string s) := by
  refine ⟨⟨_, h, fun a b => ?_⟩, fun e a w => ?_, fun a => by simp [Instr.sameBits, bytes_beq']⟩
  · simp [Instr.sameNow, bytes_beq']
  · unfold Instr.checkKey
    simp only [Sem.run_bind, run_underlying h, Result.andThen_ok]
    rfl
theorem KeyOK.int {P : Program} {kt : TypeId} {kd : IntKind} (h : P.underlying kt = some (.int kd)) : KeyOK P kt (fun s : Int => Value.int kd s) := by
  refine ⟨⟨_, h, fun a b => ?_⟩, fun e a w => ?_, fun a => by simp [Instr.sameBits]⟩
  · simp only [Instr.sameNow, if_true]; congr 1
  · unfold Instr.checkKey
    simp only [Sem.run_bind, run_underlying h, Result.andThen_ok]
    rfl
theorem findNow_enc {d : TypeDesc} {enc : α → Value} (hs : ∀ a b, Instr.sameNow d (enc a) (enc b) = some (decide (a = b))) (k : α) : ∀ (L : List (α × Value × Nat)) (i : Nat),
    (∃ j x, L[j]? = some x ∧ x.1 = k ∧ look L k = some x.2.1 ∧ bornOf L k = x.2.2 ∧ hasK L k = true ∧ Instr.findNow d (enc k) (L.map (mkE enc)) i = some (some (i + j, x.2.1))) ∨
    (hasK L k = false ∧ look L k = none ∧ Instr.findNow d (enc k) (L.map (mkE enc)) i = some none)
  | [], i => .inr ⟨rfl, rfl, rfl⟩
  | x :: L, i => by
    by_cases h : x.1 = k
    · refine .inl ⟨0, x, rfl, h, by rw [look_cons, if_pos h], by simp [bornOf, h], by simp [hasK, h], ?_⟩
      simp only [List.map_cons, Instr.findNow, mkE, hs, h, decide_true, Nat.add_zero]
    · have hne : ¬ k = x.1 := fun e => h e.symm
      rcases findNow_enc hs k L (i + 1) with ⟨j, y, h1, h2, h3, h4, h5, h6⟩ | ⟨h1, h2, h3⟩
      · refine .inl ⟨j + 1, y, by simpa using h1, h2, by rw [look_cons, if_neg h]; exact h3, by rw [← h4]; simp [bornOf, h], by unfold hasK at *; simp only [List.any_cons, h5, Bool.or_true], ?_⟩
        simp only [List.map_cons, Instr.findNow, mkE, hs, hne, decide_false]
        rw [show i + (j + 1) = i + 1 + j by omega]
        exact h6
      · refine .inr ⟨by unfold hasK at *; simp only [List.any_cons, h1, h, decide_false, Bool.or_self], by rw [look_cons, if_neg h]; exact h2, ?_⟩
        simp only [List.map_cons, Instr.findNow, mkE, hs, hne, decide_false]
        exact h3
variable {P : Program} {QP : List PanicEntry → World → Prop} {w : World} {k' : Value → World → Prop} {ku : World → Prop} {enc : α → Value} {r : Nat} {L : List (α × Value × Nat)} {c : Nat}
theorem run_findKey {kt : TypeId} (K : KeyOK P kt enc) (k : α) (L : List (α × Value × Nat)) :
    (∃ j x, L[j]? = some x ∧ x.1 = k ∧ look L k = some x.2.1 ∧ bornOf L k = x.2.2 ∧ hasK L k = true ∧ (Instr.findKey kt (enc k) (L.map (mkE enc))).run P w = .ok (some (j, x.2.1)) w) ∨
    (hasK L k = false ∧ look L k = none ∧ (Instr.findKey kt (enc k) (L.map (mkE enc))).run P w = .ok none w) := by
  obtain ⟨d, hd, hs⟩ := K.find
  rcases findNow_enc hs k L 0 with ⟨j, x, h1, h2, h3, h4, h5, h6⟩ | ⟨h1, h2, h3⟩
  · refine .inl ⟨j, x, h1, h2, h3, h4, h5, ?_⟩
    unfold Instr.findKey
    simp only [Sem.run_bind, run_underlying hd, Result.andThen_ok, h6, Nat.zero_add, Sem.run_pure]
  · refine .inr ⟨h1, h2, ?_⟩
    unfold Instr.findKey
    simp only [Sem.run_bind, run_underlying hd, Result.andThen_ok, h3, Sem.run_pure]
theorem run_getMap (h : MapB w r enc L c) : (getObj r).run P w = .ok (.map (L.map (mkE enc)).toArray c) w := by simp [getObj, Sem.run, h.obj]
theorem op_lookup {mt kt et : TypeId} {agg : Bool} {n m : Nat} {z : Value} (hm : P.underlying mt = some (.map kt et)) (K : KeyOK P kt enc) (hz : TyInfo P et agg n m z) (h : MapB w r enc L c) (k : α) :
    opV P (Instr.lookup mt (.map (some r)) (enc k) true) QP w k' = k' (.tuple #[(look L k).getD z, .bool (look L k).isSome]) w := by
  obtain ⟨⟨i, hi, _, _, hzz⟩, _⟩ := hz
  refine opV_ok ?_
  unfold Instr.lookup
  simp only [Sem.run_bind, run_underlying hm, Result.andThen_ok, run_getMap h, Sem.run_pure, K.check]
  rcases run_findKey (P := P) (w := w) K k L with ⟨j, x, h1, h2, h3, h4, h5, h6⟩ | ⟨h1, h2, h3⟩
  · simp only [h6, Result.andThen_ok, h3, Sem.run_pure]; rfl
  · simp only [h3, Result.andThen_ok, h2, Sem.run_pure, Sem.run_bind, zeroValue, typeInfo]
    simp [hi, hzz]
theorem op_lookup1 {mt kt et : TypeId} {agg : Bool} {n m : Nat} {z : Value} (hm : P.underlying mt = some (.map kt et)) (K : KeyOK P kt enc) (hz : TyInfo P et agg n m z) (h : MapB w r enc L c) (k : α) :
    opV P (Instr.lookup mt (.map (some r)) (enc k) false) QP w k' = k' ((look L k).getD z) w := by
  obtain ⟨⟨i, hi, _, _, hzz⟩, _⟩ := hz
  refine opV_ok ?_
  unfold Instr.lookup
  simp only [Sem.run_bind, run_underlying hm, Result.andThen_ok, run_getMap h, Sem.run_pure, K.check]
  rcases run_findKey (P := P) (w := w) K k L with ⟨j, x, h1, h2, h3, h4, h5, h6⟩ | ⟨h1, h2, h3⟩
  · simp only [h6, Result.andThen_ok, h3, Sem.run_pure]; rfl
  · simp only [h3, Result.andThen_ok, h2, Sem.run_pure, Sem.run_bind, zeroValue, typeInfo]
    simp [hi, hzz]
theorem op_makeMap (t : TypeId) : opV P (Instr.makeMap t none) QP w k' = k' (.map (some w.heap.size)) (w.alloc (.map #[] 0)) := opV_ok rfl
def mapObj (enc : α → Value) (L : List (α × Value × Nat)) (c : Nat) : Obj := .map (L.map (mkE enc)).toArray c
theorem MapB.put (h : MapB w r enc L c) (k : α) (v : Value) : MapB (w.putObj r (mapObj enc (putL L c k v) (putC L c k))) r enc (putL L c k v) (putC L c k) := by
  refine ⟨World.putObj_heap_same (Array.getElem?_eq_some_iff.1 h.obj).1, ?_, ?_, ?_⟩
  · intro x hx
    unfold putL at hx
    unfold putC
    by_cases hh : hasK L k = true
    · rw [if_pos hh] at hx ⊢
      unfold updL at hx
      obtain ⟨y, hy, rfl⟩ := List.mem_map.1 hx
      have := h.lt y hy
      split <;> exact this
    · rw [if_neg hh] at hx ⊢
      rcases List.mem_append.1 hx with hx | hx
      · have := h.lt x hx; omega
      · simp at hx; subst hx; simp
  · unfold putL
    by_cases hh : hasK L k = true
    · rw [if_pos hh]
      unfold updL
      rw [List.pairwise_map]
      refine h.births.imp fun {a b} hab => ?_
      split <;> split <;> exact hab
    · rw [if_neg hh]
      refine List.pairwise_append.2 ⟨h.births, by simp, fun x hx y hy => ?_⟩
      simp at hy; subst hy
      have := h.lt x hx
      simp; omega
  · unfold putL
    by_cases hh : hasK L k = true
    · rw [if_pos hh]
      unfold updL
      rw [List.pairwise_map]
      refine h.keys.imp fun {a b} hab => ?_
      split <;> split <;> exact hab
    · rw [if_neg hh]
      refine List.pairwise_append.2 ⟨h.keys, by simp, fun x hx y hy => ?_⟩
      simp at hy; subst hy
      intro e
      apply hh
      unfold hasK
      rw [List.any_eq_true]
      exact ⟨x, hx, by simpa using e⟩
theorem pos_of_keys (hk : L.Pairwise (fun x y => x.1 ≠ y.1)) {k : α} {j : Nat} {x : α × Value × Nat} (hj : L[j]? = some x) (hx : x.1 = k) {i : Nat} {y : α × Value × Nat} (hi : L[i]? = some y) (hy : y.1 = k) : i = j := by
  rw [List.pairwise_iff_getElem] at hk
  obtain ⟨hj', rfl⟩ := List.getElem?_eq_some_iff.1 hj
  obtain ⟨hi', rfl⟩ := List.getElem?_eq_some_iff.1 hi
  rcases Nat.lt_trichotomy i j with h | h | h
  · exact absurd (hy.trans hx.symm) (hk i j hi' hj' h)
  · exact h
  · exact absurd (hx.trans hy.symm) (hk j i hj' hi' h)
theorem modify_upd (h : MapB w r enc L c) {k : α} {j : Nat} {x : α × Value × Nat} (hj : L[j]? = some x) (hx : x.1 = k) (v : Value) :
    ((L.map (mkE enc)).toArray.modify j fun e => { e with key := enc k, val := v }) = ((updL L k v).map (mkE enc)).toArray := by
  apply Array.ext_getElem?
  intro i
  simp only [Array.getElem?_modify, List.getElem?_toArray, List.getElem?_map, updL]
  by_cases hij : j = i
  · subst hij
    simp only [if_true, hj, Option.map_some, hx, mkE]
  · simp only [hij, if_false]
    cases hi : L[i]? with
    | none => rfl
    | some y =>
      have : y.1 ≠ k := fun e => hij (pos_of_keys h.keys hi e hj hx)
      simp only [Option.map_some, this, if_false]
theorem run_stays {kt : TypeId} (K : KeyOK P kt enc) (k : α) : (Instr.keyThatStays (enc k) (enc k)).run P w = .ok (enc k) w := by
  unfold Instr.keyThatStays
  rw [K.bits]; rfl
theorem op_mapUpdate {mt kt et : TypeId} (hm : P.underlying mt = some (.map kt et)) (K : KeyOK P kt enc) (h : MapB w r enc L c) (k : α) (v : Value) :
    opU P (Instr.mapUpdate mt (.map (some r)) (enc k) v) QP w ku = ku (w.putObj r (mapObj enc (putL L c k v) (putC L c k))) := by
  refine opU_ok (u := ()) ?_
  unfold Instr.mapUpdate
  simp only [Sem.run_bind, run_underlying hm, Result.andThen_ok, run_getMap h, K.check]
  have hset : ∀ o, (setObj r o).run P w = .ok () (w.putObj r o) := fun o => by simp [setObj, Sem.run, h.obj, World.putObj]
  rcases run_findKey (P := P) (w := w) K k L with ⟨j, x, h1, h2, h3, h4, h5, h6⟩ | ⟨h1, h2, h3⟩
  · have hke : (((L.map (mkE enc)).toArray[j]?.map (·.key)).getD (enc k)) = enc k := by simp [h1, mkE, h2]
    simp only [h6, Result.andThen_ok, Sem.run_bind, hke, run_stays K, hset]
    rw [modify_upd h h1 h2]
    simp only [mapObj, putL, putC, h5, if_true]
  · simp only [h3, Result.andThen_ok, hset]
    have : (L.map (mkE enc)).toArray.push { key := enc k, val := v, born := c } = ((L ++ [(k, v, c)]).map (mkE enc)).toArray := by simp [mkE]
    rw [this]
    simp only [mapObj, putL, putC, h1, Bool.false_eq_true, if_false]
theorem op_mapEntry {mt kt et : TypeId} {agg : Bool} {n m : Nat} {z : Value} (hm : P.underlying mt = some (.map kt et)) (K : KeyOK P kt enc) (hz : TyInfo P et agg n m z) (h : MapB w r enc L c) (k : α) :
    opV P (Instr.mapEntry mt (.map (some r)) (enc k)) QP w k' = k' (.tuple #[(look L k).getD z, goInt (bornOf (entL L c k z) k)]) (w.putObj r (mapObj enc (entL L c k z) (putC L c k))) := by
  obtain ⟨⟨i, hi, _, _, hzz⟩, _⟩ := hz
  refine opV_ok ?_
  unfold Instr.mapEntry
  simp only [Sem.run_bind, run_underlying hm, Result.andThen_ok, run_getMap h, K.check]
  have hset : ∀ o, (setObj r o).run P w = .ok () (w.putObj r o) := fun o => by simp [setObj, Sem.run, h.obj, World.putObj]
  rcases run_findKey (P := P) (w := w) K k L with ⟨j, x, h1, h2, h3, h4, h5, h6⟩ | ⟨h1, h2, h3⟩
  · have hke : (((L.map (mkE enc)).toArray[j]?.map (·.key)).getD (enc k)) = enc k := by simp [h1, mkE, h2]
    have hbo : ((Option.map (fun x : MapEntry => (x.born : Int)) (L.map (mkE enc)).toArray[j]?).getD 0) = (x.2.2 : Int) := by simp [h1, mkE]
    have hmo : ((L.map (mkE enc)).toArray.modify j fun e => { e with key := enc k }) = (L.map (mkE enc)).toArray := by
      apply Array.ext_getElem?
      intro i
      simp only [Array.getElem?_modify, List.getElem?_toArray, List.getElem?_map]
      by_cases hij : j = i
      · subst hij; simp [h1, mkE, h2]
      · simp [hij]
    simp only [h6, Result.andThen_ok, Sem.run_bind, hke, run_stays K, hset, hbo, hmo, Sem.run_pure]
    simp only [mapObj, entL, putC, h5, if_true, h3, Option.getD_some, h4]
  · have hzr : (zeroValue et).run P w = .ok z w := by simp [zeroValue, typeInfo, hi, hzz]
    have hn : (L.map (mkE enc)).toArray.push { key := enc k, val := z, born := c } = ((L ++ [(k, z, c)]).map (mkE enc)).toArray := by simp [mkE]
    simp only [h3, Result.andThen_ok, hset, Sem.run_bind, hzr, Sem.run_pure, hn]
    have hb : bornOf (L ++ [(k, z, c)]) k = c := by
      unfold bornOf
      have : L.find? (fun x => decide (x.1 = k)) = none := by
        rw [List.find?_eq_none]
        intro x hx e
        unfold hasK at h1
        rw [List.any_eq_false] at h1
        exact h1 x hx e
      simp [List.find?_append, this]
    simp only [mapObj, entL, putC, h1, Bool.false_eq_true, if_false, h2, Option.getD_none, hb]
theorem MapB.ent (h : MapB w r enc L c) (k : α) (z : Value) : MapB (w.putObj r (mapObj enc (entL L c k z) (putC L c k))) r enc (entL L c k z) (putC L c k) := by
  by_cases hh : hasK L k = true
  · have e1 : entL L c k z = L := if_pos hh
    have e2 : putC L c k = c := if_pos hh
    rw [e1, e2]
    exact ⟨World.putObj_heap_same (Array.getElem?_eq_some_iff.1 h.obj).1, h.lt, h.births, h.keys⟩
  · have := h.put k z
    have e1 : entL L c k z = putL L c k z := by unfold entL putL; rw [if_neg hh, if_neg hh]
    rw [e1]; exact this
theorem ent_put (k : α) (v z : Value) : updL (entL L c k z) k v = putL L c k v := by
  unfold entL putL
  by_cases hh : hasK L k = true
  · rw [if_pos hh, if_pos hh]
  · rw [if_neg hh, if_neg hh]
    unfold updL
    rw [List.map_append]
    congr 1
    · conv => rhs; rw [← List.map_id L]
      apply List.map_congr_left
      intro x hx
      have : x.1 ≠ k := by
        intro e; apply hh; unfold hasK; rw [List.any_eq_true]; exact ⟨x, hx, by simpa using e⟩
      simp [this]
    · simp
theorem hasK_ent (k : α) (z : Value) : hasK (entL L c k z) k = true := by
  unfold entL
  by_cases hh : hasK L k = true
  · rw [if_pos hh]; exact hh
  · rw [if_neg hh]; simp [hasK]
theorem op_entryStore {mt : TypeId} (h : MapB w r enc L c) {k : α} (hk : hasK L k = true) (v : Value) :
    opU P (Instr.entryStore mt (.map (some r)) (goInt (bornOf L k)) v) QP w ku = ku (w.putObj r (mapObj enc (updL L k v) c)) := by
  refine opU_ok (u := ()) ?_
  unfold Instr.entryStore
  have hset : ∀ o, (setObj r o).run P w = .ok () (w.putObj r o) := fun o => by simp [setObj, Sem.run, h.obj, World.putObj]
  have hai : (asInt (goInt (bornOf L k))).run P w = .ok ((bornOf L k : Nat) : Int) w := rfl
  simp only [Sem.run_bind, run_getMap h, Result.andThen_ok, hai]
  obtain ⟨x, hx⟩ : ∃ x, L.find? (fun x => decide (x.1 = k)) = some x := by
    unfold hasK at hk
    rw [List.any_eq_true] at hk
    obtain ⟨x, h1, h2⟩ := hk
    cases hf : L.find? (fun x => decide (x.1 = k)) with
    | some y => exact ⟨y, rfl⟩
    | none => rw [List.find?_eq_none] at hf; exact absurd h2 (hf x h1)
  have hxk : x.1 = k := by simpa using List.find?_some hx
  have hxm := List.mem_of_find?_eq_some hx
  obtain ⟨j, hj⟩ := List.getElem?_of_mem hxm
  have hb : bornOf L k = x.2.2 := by simp [bornOf, hx]
  have hidx : (L.map (mkE enc)).toArray.findIdx? (fun e => (e.born : Int) == ((bornOf L k : Nat) : Int)) = some j := by
    rw [Array.findIdx?_eq_some_iff_getElem]
    obtain ⟨hjl, hje⟩ := List.getElem?_eq_some_iff.1 hj
    refine ⟨by simpa using hjl, ?_, ?_⟩
    · simp [mkE, hje, hb]
    · intro i hi
      have hbi := List.pairwise_iff_getElem.1 h.births i j (by omega) hjl hi
      simp only [List.getElem_toArray, List.getElem_map, mkE, hb, Bool.not_eq_true]
      rw [hje] at hbi
      rw [beq_eq_false_iff_ne]; intro e; exact hbi (Int.ofNat.inj e)
  simp only [hidx, hset]
  have hm2 : ((L.map (mkE enc)).toArray.modify j fun e => { e with val := v }) = ((updL L k v).map (mkE enc)).toArray := by
    rw [← modify_upd h hj hxk v]
    apply Array.ext_getElem?
    intro i
    simp only [Array.getElem?_modify, List.getElem?_toArray, List.getElem?_map]
    by_cases hij : j = i
    · subst hij; simp [hj, mkE, hxk]
    · simp [hij]
  rw [hm2]; rfl
theorem putObj_putObj (o o' : Obj) : (w.putObj r o).putObj r o' = w.putObj r o' := by
  simp only [World.putObj, Array.setIfInBounds_setIfInBounds]
theorem op_lenMap {mt kt et t : TypeId} (hm : P.underlying mt = some (.map kt et)) (h : MapB w r enc L c) : opV P (Builtin.len_ #[mt] t #[.map (some r)]) QP w k' = k' (.int .i64 L.length) w := by
  refine opV_ok ?_
  unfold Builtin.len_
  simp only [Sem.run_bind, run_underlying hm, Result.andThen_ok, run_getMap h, Sem.run_pure, List.getElem?_toArray, List.getElem?_cons_zero]
  simp [goInt]
theorem Ext.putObj {a w : World} (h : Ext a w) {l : Nat} (hl : a.heap.size ≤ l) (o : Obj) : Ext a (w.putObj l o) :=
  ⟨h.os, h.tape, h.output, by simpa using h.size, fun k hk => (World.putObj_heap_other (by omega)).trans (h.block k hk)⟩
theorem cell_putMap (h : MapB w r enc L c) {L' : List (α × Value × Nat)} {c' : Nat} (a : Addr) : (w.putObj r (mapObj enc L' c')).cell? a = w.cell? a := by
  unfold World.cell?
  by_cases e : a.block = r
  · rw [e, World.putObj_heap_same (Array.getElem?_eq_some_iff.1 h.obj).1, h.obj]; rfl
  · rw [World.putObj_heap_other e]
end
section
variable {P : Program} {QP : List PanicEntry → World → Prop} {w : World} {k' : Value → World → Prop} {ku : World → Prop} {r : Nat} {c : Nat}
abbrev MapS (w : World) (r : Nat) (L : List (ByteArray × Value × Nat)) (c : Nat) : Prop := MapB w r (fun s : ByteArray => Value.string s) L c
abbrev mapObjS (L : List (ByteArray × Value × Nat)) (c : Nat) : Obj := mapObj (fun s : ByteArray => Value.string s) L c
variable {L : List (ByteArray × Value × Nat)} {mt kt et : TypeId} {agg : Bool} {n m : Nat} {z : Value}
theorem op_lookupS (hm : P.underlying mt = some (.map kt et)) (hk : P.underlying kt = some .string) (hz : TyInfo P et agg n m z) (h : MapS w r L c) (k : ByteArray) :
    opV P (Instr.lookup mt (.map (some r)) (.string k) true) QP w k' = k' (.tuple #[(look L k).getD z, .bool (look L k).isSome]) w := op_lookup hm (KeyOK.string hk) hz h k
theorem op_lookup1S (hm : P.underlying mt = some (.map kt et)) (hk : P.underlying kt = some .string) (hz : TyInfo P et agg n m z) (h : MapS w r L c) (k : ByteArray) :
    opV P (Instr.lookup mt (.map (some r)) (.string k) false) QP w k' = k' ((look L k).getD z) w := op_lookup1 hm (KeyOK.string hk) hz h k
theorem op_mapUpdateS (hm : P.underlying mt = some (.map kt et)) (hk : P.underlying kt = some .string) (h : MapS w r L c) (k : ByteArray) (v : Value) :
    opU P (Instr.mapUpdate mt (.map (some r)) (.string k) v) QP w ku = ku (w.putObj r (mapObjS (putL L c k v) (putC L c k))) := op_mapUpdate hm (KeyOK.string hk) h k v
theorem op_mapEntryS (hm : P.underlying mt = some (.map kt et)) (hk : P.underlying kt = some .string) (hz : TyInfo P et agg n m z) (h : MapS w r L c) (k : ByteArray) :
    opV P (Instr.mapEntry mt (.map (some r)) (.string k)) QP w k' = k' (.tuple #[(look L k).getD z, goInt (bornOf (entL L c k z) k)]) (w.putObj r (mapObjS (entL L c k z) (putC L c k))) := op_mapEntry hm (KeyOK.string hk) hz h k
theorem MapS.new (w : World) : MapS (w.alloc (.map #[] 0)) w.heap.size [] 0 := MapB.new w _
def memB (names : List ByteArray) (s : ByteArray) : Bool := names.any (fun u => decide (u = s))
theorem memB_append (a : List ByteArray) (k s : ByteArray) : memB (a ++ [k]) s = (memB a s || decide (k = s)) := by simp [memB]
def SetOf (w : World) (r : Nat) (names : List ByteArray) : Prop := ∃ L c, MapS w r L c ∧ ∀ s, look L s = if memB names s = true then some (Value.bool true) else none
theorem SetOf.ext {w w' : World} {names : List ByteArray} (h : SetOf w r names) (e : Ext w w') : SetOf w' r names := let ⟨L, c, h1, h2⟩ := h; ⟨L, c, h1.ext e, h2⟩
theorem SetOf.put {names : List ByteArray} (h : MapS w r L c) (hl : ∀ s, look L s = if memB names s = true then some (Value.bool true) else none) (k : ByteArray) :
    SetOf (w.putObj r (mapObjS (putL L c k (.bool true)) (putC L c k))) r (names ++ [k]) := by
  refine ⟨_, _, h.put k _, fun s => ?_⟩
  rw [look_put, hl]
  rw [memB_append]
  by_cases hs : s = k
  · subst hs; simp
  · have hs' : ¬ k = s := fun e => hs e.symm
    simp [hs, hs']
def bld (ps : List (ByteArray × Value)) : List (ByteArray × Value × Nat) × Nat := ps.foldl (fun s p => (putL s.1 s.2 p.1 p.2, putC s.1 s.2 p.1)) ([], 0)
theorem bld_snoc (ps : List (ByteArray × Value)) (p : ByteArray × Value) : bld (ps ++ [p]) = (putL (bld ps).1 (bld ps).2 p.1 p.2, putC (bld ps).1 (bld ps).2 p.1) := by simp [bld, List.foldl_append]
def lastOf (ps : List (ByteArray × Value)) (s : ByteArray) : Option Value := (ps.reverse.find? (fun p => decide (p.1 = s))).map (·.2)
theorem lastOf_snoc (ps : List (ByteArray × Value)) (p : ByteArray × Value) (s : ByteArray) : lastOf (ps ++ [p]) s = if p.1 = s then some p.2 else lastOf ps s := by
  unfold lastOf
  rw [List.reverse_append, List.reverse_singleton, List.singleton_append, List.find?_cons]
  by_cases h : p.1 = s <;> simp [h]
theorem snoc_induct {α : Type} {motive : List α → Prop} (h0 : motive []) (h1 : ∀ l a, motive l → motive (l ++ [a])) (l : List α) : motive l := by
  have : ∀ l : List α, motive l.reverse := by
    intro l
    induction l with
    | nil => exact h0
    | cons a l ih => rw [List.reverse_cons]; exact h1 _ _ ih
  have h := this l.reverse
  rwa [List.reverse_reverse] at h
theorem look_bld (ps : List (ByteArray × Value)) (s : ByteArray) : look (bld ps).1 s = lastOf ps s := by
  revert s
  refine snoc_induct (motive := fun ps => ∀ s, look (bld ps).1 s = lastOf ps s) ?_ ?_ ps
  · intro s; rfl
  · intro l a ih s
    rw [bld_snoc, lastOf_snoc, look_put, ih]
    by_cases h : a.1 = s
    · subst h; simp
    · have h' : ¬ s = a.1 := fun e => h e.symm
      simp [h, h']
def MapOf (w : World) (r : Nat) (ps : List (ByteArray × Value)) : Prop := MapS w r (bld ps).1 (bld ps).2
theorem MapOf.ext {w w' : World} {r : Nat} {ps : List (ByteArray × Value)} (h : MapOf w r ps) (e : Ext w w') : MapOf w' r ps := MapB.ext h e
theorem MapOf.new (w : World) : MapOf (w.alloc (.map #[] 0)) w.heap.size [] := MapS.new w
theorem MapOf.setCell {w : World} {r : Nat} {ps : List (ByteArray × Value)} (h : MapOf w r ps) (a : Addr) (v : Value) : MapOf (w.setCell a v) r ps := MapB.setCell h a v
theorem MapOf.lt {w : World} {r : Nat} {ps : List (ByteArray × Value)} (h : MapOf w r ps) : r < w.heap.size := (Array.getElem?_eq_some_iff.1 h.obj).1
def putW (w : World) (r : Nat) (ps : List (ByteArray × Value)) (k : ByteArray) (v : Value) : World := w.putObj r (mapObjS (bld (ps ++ [(k, v)])).1 (bld (ps ++ [(k, v)])).2)
theorem MapOf.put {w : World} {r : Nat} {ps : List (ByteArray × Value)} (h : MapOf w r ps) (k : ByteArray) (v : Value) : MapOf (putW w r ps k v) r (ps ++ [(k, v)]) := by
  unfold MapOf putW
  rw [bld_snoc]
  exact MapB.put h k v
theorem op_updateO {w : World} {ps : List (ByteArray × Value)} (hm : P.underlying mt = some (.map kt et)) (hk : P.underlying kt = some .string) (h : MapOf w r ps) (k : ByteArray) (v : Value) :
    opU P (Instr.mapUpdate mt (.map (some r)) (.string k) v) QP w ku = ku (putW w r ps k v) := by
  unfold putW
  rw [bld_snoc]
  exact op_mapUpdateS hm hk h k v
theorem op_lookupO {w : World} {ps : List (ByteArray × Value)} (hm : P.underlying mt = some (.map kt et)) (hk : P.underlying kt = some .string) (hz : TyInfo P et agg n m z) (h : MapOf w r ps) (k : ByteArray) :
    opV P (Instr.lookup mt (.map (some r)) (.string k) true) QP w k' = k' (.tuple #[(lastOf ps k).getD z, .bool (lastOf ps k).isSome]) w := by
  rw [op_lookupS hm hk hz h, look_bld]
theorem op_lookup1O {w : World} {ps : List (ByteArray × Value)} (hm : P.underlying mt = some (.map kt et)) (hk : P.underlying kt = some .string) (hz : TyInfo P et agg n m z) (h : MapOf w r ps) (k : ByteArray) :
    opV P (Instr.lookup mt (.map (some r)) (.string k) false) QP w k' = k' ((lastOf ps k).getD z) w := by
  rw [op_lookup1S hm hk hz h, look_bld]
theorem op_lenO {w : World} {t : TypeId} {ps : List (ByteArray × Value)} (hm : P.underlying mt = some (.map kt et)) (h : MapOf w r ps) : opV P (Builtin.len_ #[mt] t #[.map (some r)]) QP w k' = k' (.int .i64 (bld ps).1.length) w := op_lenMap hm h
theorem Ext.putW {a w : World} {ps : List (ByteArray × Value)} (h : Ext a w) (hr : a.heap.size ≤ r) (k : ByteArray) (v : Value) : Ext a (putW w r ps k v) := h.putObj hr _
theorem putW_size {w : World} {ps : List (ByteArray × Value)} {k : ByteArray} {v : Value} : (putW w r ps k v).heap.size = w.heap.size := World.putObj_size
end
end Go.Sw
namespace Go.Sw
open Go.RowKit (Below)
set_option maxRecDepth 100000
section
variable {P : Program} {QP : List PanicEntry → World → Prop} {w : World} {k : Value → World → Prop} {ku : World → Prop}
theorem op_indexS {t : TypeId} (hu : P.underlying t = some .string) (s : ByteArray) (kd : IntKind) (i : Nat) {b : UInt8} (hb : s.data.toList[i]? = some b) :
    opV P (Instr.index t (.string s) (.int kd (i : Int))) QP w k = k (.int .u8 b.toNat) w := by
  refine opV_ok ?_
  have hs : s[i]? = some b := by
    obtain ⟨h1, h2⟩ := List.getElem?_eq_some_iff.1 hb
    have h3 : i < s.data.size := by simpa using h1
    rw [getElem?_pos s i h3]
    exact congrArg some h2
  unfold Instr.index
  have hai : (asIntOf (.int kd (i : Int))).run P w = .ok (kd, (i : Int)) w := rfl
  simp only [Sem.run_bind, hai, Result.andThen_ok, run_underlying hu]
  have : (if (0 : Int) ≤ (i : Int) then s[(i : Int).toNat]? else none) = some b := by rw [if_pos (by omega), Int.toNat_natCast]; exact hs
  rw [this]; rfl
theorem op_indexS0 {t : TypeId} (hu : P.underlying t = some .string) (s : ByteArray) (kd : IntKind) {b : UInt8} (hb : s.data.toList[0]? = some b) :
    opV P (Instr.index t (.string s) (.int kd 0)) QP w k = k (.int .u8 b.toNat) w := op_indexS hu s kd 0 hb
theorem op_shl (t : TypeId) (c : Bool) (x : Int) (yk : IntKind) (y : Int) (h0 : 0 ≤ y) (h1 : y ≤ 64) : opV P (binS .shl t c (.int .i64 x) (.int yk y)) QP w k = k (.int .i64 (IntKind.i64.wrap (x * 2 ^ y.toNat))) w := opV_ok (by
  simp [binS, go_sem, h0, h1])
theorem op_sliceTo {t e : TypeId} {agg : Bool} {n m : Nat} {z : Value} (hu : P.underlying t = some (.slice e)) (ht : TyInfo P e agg n m z) (b o len cap : Nat) (kd : IntKind) (h : Nat) (hh : h ≤ cap) :
    opV P (Instr.sliceAt t (.slice (some ⟨b, o, none⟩) len cap) none (some (.int kd (h : Int))) none) QP w k = k (.slice (some ⟨b, o, none⟩) h cap) w := by
  refine opV_ok ?_
  have h1 : (h : Int) ≤ (cap : Int) := by omega
  have h2 : (0 : Int) ≤ (h : Int) := by omega
  simp [Instr.sliceAt, run_underlying hu, Instr.slice, Instr.sliceBounds, run_sliceBound, h1, h2, run_sizeOf ht, Addr.add_lit]
theorem op_convInt {src dst : TypeId} {kd : IntKind} (hs : (P.underlying src).isSome = true) (hd : P.underlying dst = some (.int kd)) (q : IntKind) (n : Int) :
    opV P (Go.convert src dst (.int q n)) QP w k = k (.int kd (kd.wrap n)) w := opV_ok (by
  have hk : P.intKind dst = kd := by simp [Program.intKind, hd]
  have := run_convert_int (P := P) w src dst q n hs (by rw [hk]; exact hd)
  rw [hk] at this; exact this)
theorem op_rem (t : TypeId) (c : Bool) (kd : IntKind) (a b : Int) (hb : b ≠ 0) : opV P (binS .rem t c (.int kd a) (.int kd b)) QP w k = k (.int kd (a.tmod b)) w := opV_ok (by
  rw [run_bin_int _ _ _ _ _ _ rfl]
  show Sem.run P (Op.intDiv .rem kd a b) w = _
  unfold Op.intDiv
  rw [if_neg hb]; rfl)
theorem run_eqv {t : TypeId} {a b : Value} {r : Bool} (h : (Op.equalIn (9999 + 1) t a b).run P w = .ok r w) : (do pure (.bool (← Op.equal t a b)) : Sem Value).run P w = .ok (.bool r) w := by
  have h' : (Op.equal t a b).run P w = .ok r w := h
  rw [Sem.run_bind, h']; rfl
theorem run_nev {t : TypeId} {a b : Value} {r : Bool} (h : (Op.equalIn (9999 + 1) t a b).run P w = .ok r w) : (do pure (.bool (!(← Op.equal t a b))) : Sem Value).run P w = .ok (.bool (!r)) w := by
  have h' : (Op.equal t a b).run P w = .ok r w := h
  rw [Sem.run_bind, h']; rfl
theorem op_iface {t : TypeId} {d : TypeDesc} (hu : P.underlying t = some d) (hn : (match d with | .interface _ => false | _ => true) = true) (v : Value) : opV P (Instr.makeInterface t v) QP w k = k (.iface t v) w := by
  refine opV_ok ?_
  unfold Instr.makeInterface
  simp only [Sem.run_bind, run_underlying hu, Result.andThen_ok]
  cases d <;> simp at hn <;> rfl
theorem op_assert_ok {xt t : TypeId} {d : TypeDesc} (hu : P.underlying t = some d) (hn : (match d with | .interface _ => false | _ => true) = true) (v : Value) : opV P (Instr.typeAssert (.iface t v) xt t true) QP w k = k (.tuple #[v, .bool true]) w := by
  refine opV_ok ?_
  unfold Instr.typeAssert
  simp only [Sem.run_bind, run_underlying hu, Result.andThen_ok]
  cases d <;> simp at hn <;> simp
theorem op_panic (t : TypeId) (v : Value) : opV P (Instr.panic (.iface t v)) QP w k = QP [{ v := .iface t v, recovered := false }] w := opV_panic rfl
theorem eqNil_i (d0 : Nat) {t : TypeId} {m : Array (String × TypeId)} (hu : P.underlying t = some (.interface m)) (d : TypeId) (v : Value) : (Op.equalIn (d0 + 1) t (.iface d v) .nilIface).run P w = .ok false w := by simp [Op.equalIn, run_underlying hu]
theorem eqNil_n (d0 : Nat) {t : TypeId} {m : Array (String × TypeId)} (hu : P.underlying t = some (.interface m)) : (Op.equalIn (d0 + 1) t .nilIface .nilIface).run P w = .ok true w := by simp [Op.equalIn, run_underlying hu]
theorem eqNil_f (d0 : Nat) {t : TypeId} {a b : Array TypeId} {vr : Bool} (hu : P.underlying t = some (.func a b vr)) (f : Fn) (x y : Array Value) : (Op.equalIn (d0 + 1) t (.func f x y) .nilFunc).run P w = .ok false w := by simp [Op.equalIn, run_underlying hu]
theorem eqNil_s (d0 : Nat) {t e : TypeId} (hu : P.underlying t = some (.slice e)) (A : Option Addr) (n m : Nat) : (Op.equalIn (d0 + 1) t (.slice A n m) (.slice none 0 0)).run P w = .ok A.isNone w := by cases A <;> simp [Op.equalIn, run_underlying hu]
theorem op_neqNil_some {t : TypeId} {m : Array (String × TypeId)} (hu : P.underlying t = some (.interface m)) (d : TypeId) (v : Value) : opV P (binS .neq t true (.iface d v) .nilIface) QP w k = k (.bool true) w :=
  opV_ok (run_nev (r := false) (eqNil_i 9999 hu d v))
theorem op_neqNil_none {t : TypeId} {m : Array (String × TypeId)} (hu : P.underlying t = some (.interface m)) : opV P (binS .neq t true .nilIface .nilIface) QP w k = k (.bool false) w :=
  opV_ok (run_nev (r := true) (eqNil_n 9999 hu))
theorem op_neqNilF {t : TypeId} {a b : Array TypeId} {vr : Bool} (hu : P.underlying t = some (.func a b vr)) (c : Bool) (f : Fn) (x y : Array Value) : opV P (binS .neq t c (.func f x y) .nilFunc) QP w k = k (.bool true) w :=
  opV_ok (run_nev (r := false) (eqNil_f 9999 hu f x y))
theorem op_eqNilF {t : TypeId} {a b : Array TypeId} {vr : Bool} (hu : P.underlying t = some (.func a b vr)) (c : Bool) (f : Fn) (x y : Array Value) : opV P (binS .eql t c (.func f x y) .nilFunc) QP w k = k (.bool false) w :=
  opV_ok (run_eqv (eqNil_f 9999 hu f x y))
theorem op_eqNilS {t e : TypeId} (hu : P.underlying t = some (.slice e)) (c : Bool) (A : Option Addr) (n m : Nat) : opV P (binS .eql t c (.slice A n m) (.slice none 0 0)) QP w k = k (.bool A.isNone) w :=
  opV_ok (run_eqv (eqNil_s 9999 hu A n m))
theorem op_aggEq {t : TypeId} {xs ys : Array Value} {r : Bool} (hm : P.eqGuardType P.depth t = false) (h : ∀ w, (Op.equalIn (9999 + 1) t (.agg xs) (.agg ys)).run P w = .ok r w) (c : Bool) : opV P (binS .eql t c (.agg xs) (.agg ys)) QP w k = k (.bool r) w := by
  refine opV_ok ?_
  show Sem.run P (do (do if !(← program).eqGuardType (← program).depth t then pure () else if ← Op.eqGuardIn Op.maxDepth t (.agg xs) (.agg ys) then unsupported (.noEntry "binop/eql: two nil values of an interface type with methods, in a part of a struct or an array")); (do pure (.bool (← Op.equal t (.agg xs) (.agg ys)))) : Sem Value) w = _
  simp only [Sem.run_bind, run_program, Result.andThen_ok, hm, Bool.not_false, if_true, Sem.run_pure]
  have h' := run_eqv (h w)
  simp only [Sem.run_bind, Sem.run_pure] at h'
  exact h'
theorem op_aggNe {t : TypeId} {xs ys : Array Value} {r : Bool} (hm : P.eqGuardType P.depth t = false) (h : ∀ w, (Op.equalIn (9999 + 1) t (.agg xs) (.agg ys)).run P w = .ok r w) (c : Bool) : opV P (binS .neq t c (.agg xs) (.agg ys)) QP w k = k (.bool (!r)) w := by
  refine opV_ok ?_
  show Sem.run P (do (do if !(← program).eqGuardType (← program).depth t then pure () else if ← Op.eqGuardIn Op.maxDepth t (.agg xs) (.agg ys) then unsupported (.noEntry "binop/eql: two nil values of an interface type with methods, in a part of a struct or an array")); (do pure (.bool (!(← Op.equal t (.agg xs) (.agg ys))))) : Sem Value) w = _
  simp only [Sem.run_bind, run_program, Result.andThen_ok, hm, Bool.not_false, if_true, Sem.run_pure]
  have h' := run_nev (h w)
  simp only [Sem.run_bind, Sem.run_pure] at h'
  exact h'
theorem op_bytes {src dst e : TypeId} (hs : P.underlying src = some .string) (hd : P.underlying dst = some (.slice e)) (he : P.underlying e = some (.int .u8)) (s : ByteArray) (hlen : s.size ≤ 9223372036854775807)
    (h : ∀ v w', Ext w w' → (∃ A c, v = .slice A s.size c ∧ s.size ≤ c ∧ c ≤ 9223372036854775807 ∧ ∃ b, A = some ⟨b, 0, none⟩ ∧ ∀ j x, s.data.toList[j]? = some x → w'.cell? ⟨b, j, none⟩ = some (.int .u8 (x.toNat : Int))) → k v w') : opV P (Go.convert src dst (.string s)) QP w k := by
  have := run_bytes_of_string (P := P) w src dst e s hs hd he
  rw [opV_ok this]
  refine h _ _ ((Ext.refl w).wdrew.alloc _) ⟨_, _, rfl, grownCap_ge _ _ _ _, ?_, ?_⟩
  · have := grownCap_le_maxLen w s.size 0 e (by simp only [maxLen]; omega)
    simp only [maxLen] at this; omega
  · refine ⟨_, rfl, fun j x hx => ?_⟩
    obtain ⟨h1, h2⟩ := List.getElem?_eq_some_iff.1 hx
    have h3 : j < s.data.size := by simpa using h1
    have h4 := bytesRow_at s (grownCap w s.size 0 e) j h3
    show World.cell? _ ⟨w.drew.heap.size, j, none⟩ = _
    unfold World.cell?
    rw [World.alloc_heap_new]
    show (if (none : Option _).isSome then none else (bytesRow s (grownCap w s.size 0 e))[j]?) = _
    rw [h4, ← h2]
    rfl
theorem cells_agg (cs : Array Value) : (Value.agg cs).cells = cs := rfl
theorem equalIn_struct {d : Nat} {t : TypeId} {fs : Array Field} {xs ys : Array Value} {r : Bool} (hu : P.underlying t = some (.struct fs)) (hs : P.stoodInHeld t = false) (h : (Op.eqFields d xs ys fs.toList).run P w = .ok r w) :
    (Op.equalIn (d + 1) t (.agg xs) (.agg ys)).run P w = .ok r w := by
  have hf : P.fieldsOf t = fs := by simp [Program.fieldsOf, hu]
  rw [run_equalIn_agg w d t xs ys (by rw [hf]; exact hu) hs, hf]
  exact h
theorem eqFields_nil {d : Nat} {xs ys : Array Value} : (Op.eqFields d xs ys []).run P w = .ok true w := rfl
theorem eqFields_step {d : Nat} {xs ys : Array Value} {f : Field} {fs : List Field} {x y : Value} {b r : Bool} (hn : (f.name == "_") = false) (hx : (part f.type xs f.offset).run P w = .ok x w) (hy : (part f.type ys f.offset).run P w = .ok y w)
    (he : (Op.equalIn d f.type x y).run P w = .ok b w) (hr : (Op.eqFields d xs ys fs).run P w = .ok r w) : (Op.eqFields d xs ys (f :: fs)).run P w = .ok (b && r) w := by
  have hn' : f.name ≠ "_" := by simpa using hn
  simp only [Op.eqFields]
  rw [if_pos hn']
  simp only [Sem.run_bind, hx, hy, he, Result.andThen_ok]
  cases b with
  | true => simpa using hr
  | false => rfl
theorem part1 {T : TypeId} {n m : Nat} {z v : Value} {cs : Array Value} {off : Nat} (h : TyInfo P T false n m z) (hc : cs[off]? = some v) : (part T cs off).run P w = .ok v w := by
  unfold part
  rw [Sem.run_bind, run_isAgg h]
  simp [hc]
theorem op_fieldV1 {s : TypeId} {fs : Array Field} {i off ft : Nat} {n m : Nat} {z v : Value} {cs : Array Value} {k : Value → World → Prop} (hu : P.underlying s = some (.struct fs)) (hf : (fs[i]?).map (fun f => (f.type, f.offset)) = some (ft, off)) (ht : TyInfo P ft false n m z) (hc : cs[off]? = some v) :
    opV P (Instr.field s (.agg cs) i) QP w k = k v w := by
  obtain ⟨f, h1, h2⟩ := Option.map_eq_some_iff.1 hf
  simp only [Prod.mk.injEq] at h2
  obtain ⟨rfl, rfl⟩ := h2
  refine opV_ok ?_
  have ha : (asAgg (.agg cs)).run P w = .ok cs w := rfl
  simp [Instr.field, run_underlying hu, h1, ha, part1 (w := w) ht hc]
theorem eqInt {d : Nat} {t : TypeId} {q : IntKind} (hu : P.underlying t = some (.int q)) {kd : IntKind} {a b : Int} : (Op.equalIn (d + 1) t (.int kd a) (.int kd b)).run P w = .ok (decide (a = b)) w := by
  rw [run_equalIn_int w d t kd q a b hu]; congr 1
theorem eqBool {d : Nat} {t : TypeId} (hu : P.underlying t = some .bool) {a b : Bool} : (Op.equalIn (d + 1) t (.bool a) (.bool b)).run P w = .ok (decide (a = b)) w := by
  rw [run_equalIn_bool w d t a b hu]; congr 1
theorem eqString {d : Nat} {t : TypeId} (hu : P.underlying t = some .string) {a b : ByteArray} : (Op.equalIn (d + 1) t (.string a) (.string b)).run P w = .ok (decide (a = b)) w := by
  rw [run_equalIn_string w d t a b hu, bytes_eq]
theorem cells_one {v : Value} (h : v.oneCell' = true) : v.cells = #[v] := by cases v <;> first | rfl | simp [Value.oneCell'] at h
theorem op_build {T : TypeId} {fs : Array Field} {n m : Nat} {z cs : Array Value} {parts : Array (Nat × Value)} {places : Array (Nat × Nat)} (hu : P.underlying T = some (.struct fs)) (hz : TyInfo P T true n m (.agg z))
    (hp : ∀ w : World, (fs.mapM (m := Sem) (fun f => do pure (f.offset, ← sizeOf f.type))).run P w = .ok places w) (hf : Instr.fill (places[·]?) z parts.toList = some cs) : opV P (Instr.build T parts) QP w k = k (.agg cs) w := by
  obtain ⟨⟨i, hi, _, _, hzz⟩, _⟩ := hz
  refine opV_ok ?_
  unfold Instr.build
  have hz0 : (zeroValue T).run P w = .ok (.agg z) w := by simp [zeroValue, typeInfo, hi, hzz]
  simp only [Sem.run_bind, hz0, Result.andThen_ok, run_underlying hu, hp]
  have : (Value.agg z).cells = z := rfl
  rw [this, hf]
  rfl
theorem op_buildSlice {T e : TypeId} {agg : Bool} {n m : Nat} {z : Value} {len : Nat} {cs : Array Value} {parts : Array (Nat × Value)} (hu : P.underlying T = some (.slice e)) (hz : TyInfo P e agg n m z) (hl : len * n ≤ 16777216)
    {base : Array Value} (hb : (Array.range (len * n)).map ((if len * n = 0 then #[] else z.cells)[· % (if len * n = 0 then #[] else z.cells).size]!) = base) (hf : Instr.fill (fun i => some (i * n, n)) base parts.toList = some cs) :
    opV P (Instr.buildSlice T len parts) QP w k = k (.slice (some ⟨w.heap.size, 0, none⟩) len len) (w.alloc (.cells cs e)) := by
  subst hb
  have hsz := run_sizeOf (w := w) hz
  obtain ⟨⟨i, hi, _, _, hzz⟩, _⟩ := hz
  refine opV_ok ?_
  unfold Instr.buildSlice
  have hl' : ¬ (2 ^ 24 < len * n) := by omega
  simp only [Sem.run_bind, run_underlying hu, hsz, Result.andThen_ok, gt_iff_lt, hl', if_false]
  have hz0 : (zeroValue e).run P w = .ok z w := by simp [zeroValue, typeInfo, hi, hzz]
  by_cases h0 : len * n = 0
  · rw [if_pos h0] at hf
    rw [if_pos h0]
    simp only [Sem.run_bind, Sem.run_pure, Result.andThen_ok]
    rw [hf]
    simp [newRow]
  · rw [if_neg h0] at hf
    rw [if_neg h0]
    simp only [Sem.run_bind, hz0, Sem.run_pure, Result.andThen_ok]
    rw [hf]
    simp [newRow]
def EC (w : World) : World → Prop := fun w' => Ext w w'
class ClassNe (C : World → Prop) : Prop where
  ne : ∃ w, C w
instance (w : World) : ClassNe (EC w) := ⟨⟨w, Ext.refl w⟩⟩
def KB (w : World) (b1 b2 : Nat) : World → Prop := fun w' => ∀ b, b < w.heap.size → b ≠ b1 → b ≠ b2 → w'.heap[b]? = w.heap[b]?
instance (w : World) (b1 b2 : Nat) : ClassNe (KB w b1 b2) := ⟨⟨w, fun _ _ _ _ => rfl⟩⟩
theorem KB.cell {w w' : World} {b1 b2 b o : Nat} {v : Value} (h : KB w b1 b2 w') (h1 : b ≠ b1) (h2 : b ≠ b2) (hc : w.cell? ⟨b, o, none⟩ = some v) : w'.cell? ⟨b, o, none⟩ = some v :=
  (World.cell?_of_block (h b (World.block_lt_of_cell? w _ hc) h1 h2)).trans hc
theorem run_of_op {s : Sem Value} {v : Value} (h : ∀ (QP : List PanicEntry → World → Prop) (k : Value → World → Prop), opV P s QP w k = k v w) : s.run P w = .ok v w := by
  have h1 := h (fun _ _ => False) (fun u x => u = v ∧ x = w)
  simp only [and_self] at h1
  have h2 : opV P s (fun _ _ => False) w (fun u x => u = v ∧ x = w) := by rw [h1]; trivial
  unfold opV at h2
  split at h2
  · rename_i a b he; obtain ⟨rfl, rfl⟩ := h2; exact he
  · exact h2.elim
  · exact h2.elim
theorem qV_eq {s : Sem Value} {v : Value} {k : Value → Prop} (h : ∀ w', Ext w w' → s.run P w' = .ok v w') : qV P (EC w) s k = k v := by
  apply propext
  constructor
  · rintro ⟨v', h1, h2⟩
    have a := h1 w (Ext.refl w)
    rw [h w (Ext.refl w)] at a
    injection a with a _
    rw [a]; exact h2
  · exact fun hk => ⟨v, h, hk⟩
theorem qV_eqC {C : World → Prop} [hne : ClassNe C] {s : Sem Value} {v : Value} {k : Value → Prop} (h : ∀ w', C w' → s.run P w' = .ok v w') : qV P C s k = k v := by
  apply propext
  obtain ⟨w0, hw0⟩ := hne.ne
  constructor
  · rintro ⟨v', h1, h2⟩
    have a := h1 w0 hw0
    rw [h w0 hw0] at a
    injection a with a _
    rw [a]; exact h2
  · exact fun hk => ⟨v, h, hk⟩
theorem qV_of {C : World → Prop} [ClassNe C] {s : Sem Value} {v : Value} {k : Value → Prop} (h : ∀ (QP : List PanicEntry → World → Prop) (w' : World) (k : Value → World → Prop), opV P s QP w' k = k v w') : qV P C s k = k v := qV_eqC fun w' _ => run_of_op fun QP k => h QP w' k
theorem qN_eqC {C : World → Prop} [hne : ClassNe C] {s : Sem Next} {v : Value} {k : Value → Prop} (h : ∀ w', C w' → s.run P w' = .ok (.value v) w') : qN P C s k = k v := by
  apply propext
  obtain ⟨w0, hw0⟩ := hne.ne
  constructor
  · rintro ⟨v', h1, h2⟩
    have a := h1 w0 hw0
    rw [h w0 hw0] at a
    injection a with a _
    injection a with a
    rw [a]; exact h2
  · exact fun hk => ⟨v, h, hk⟩
theorem qN_nil {C : World → Prop} [ClassNe C] {k : Value → Prop} (a : Addr) : qN P C (nilN (.pointer (some a))) k = k (.pointer (some a)) := qN_eqC fun w' _ => by simp [nilN, execOp]
def qVx (P : Program) (C : World → Prop) (s : Sem Value) (k : Value → Prop) : Prop := qV P C s k
theorem qV_loadC {T : TypeId} {n m : Nat} {z : Value} {k : Value → Prop} (h : TyInfo P T false n m z) (b o : Nat) : qV P (EC w) (Instr.loadAt T (.pointer (some ⟨b, o, none⟩))) k = onCell (w.cell? ⟨b, o, none⟩) k (qVx P (EC w) (Instr.loadAt T (.pointer (some ⟨b, o, none⟩))) k) := by
  cases hc : w.cell? ⟨b, o, none⟩ with
  | some v =>
    rw [onCell_some]
    refine qV_eq fun w' e => ?_
    have := run_of_op (P := P) (w := w') (s := Instr.loadAt T (.pointer (some ⟨b, o, none⟩))) (v := v) (fun QP k => op_load1 h (e.cell hc))
    exact this
  | none => rfl
theorem qV_loadKB {T : TypeId} {n m : Nat} {z : Value} {k : Value → Prop} (h : TyInfo P T false n m z) (b1 b2 b o : Nat) (h1 : b ≠ b1) (h2 : b ≠ b2) : qV P (KB w b1 b2) (Instr.loadAt T (.pointer (some ⟨b, o, none⟩))) k = onCell (w.cell? ⟨b, o, none⟩) k (qVx P (KB w b1 b2) (Instr.loadAt T (.pointer (some ⟨b, o, none⟩))) k) := by
  cases hc : w.cell? ⟨b, o, none⟩ with
  | some v =>
    rw [onCell_some]
    exact qV_eqC fun w' e => run_of_op (P := P) (w := w') (s := Instr.loadAt T (.pointer (some ⟨b, o, none⟩))) (v := v) (fun QP k => op_load1 h (e.cell h1 h2 hc))
  | none => rfl
theorem qV_load {T : TypeId} {a : Addr} {v : Value} {k : Value → Prop} (h : ∀ w', Ext w w' → Loads P w' T a v) : qV P (EC w) (Instr.loadAt T (.pointer (some a))) k = k v :=
  qV_eq fun w' e => run_of_op fun QP k => op_load (h w' e)
def onCells : List (Option Value) → (List Value → Prop) → Prop → Prop
  | [], k, _ => k []
  | some v :: l, k, d => onCells l (fun vs => k (v :: vs)) d
  | none :: _, _, d => d
theorem onCells_nil (k : List Value → Prop) (d : Prop) : onCells [] k d = k [] := rfl
theorem onCells_some (v : Value) (l : List (Option Value)) (k : List Value → Prop) (d : Prop) : onCells (some v :: l) k d = onCells l (fun vs => k (v :: vs)) d := rfl
theorem onCells_all : ∀ (vs : List Value) (k : List Value → Prop) (d : Prop), onCells (vs.map some) k d = k vs
  | [], _, _ => rfl
  | v :: vs, k, d => onCells_all vs (fun l => k (v :: l)) d
theorem onCells_cases (l : List (Option Value)) : (∃ vs : List Value, l = vs.map some) ∨ ∀ k d, onCells l k d = d := by
  induction l with
  | nil => exact .inl ⟨[], rfl⟩
  | cons a l ih =>
    cases a with
    | none => exact .inr fun k d => rfl
    | some v =>
      rcases ih with ⟨vs, rfl⟩ | h
      · exact .inl ⟨v :: vs, rfl⟩
      · exact .inr fun k d => h _ d
@[congr] theorem onCells_congr {l l' : List (Option Value)} {k : List Value → Prop} {p : Prop} {d : Nat} (h : l = l') (hd : dirty = d) : onCells l k p = onCells l' k p := by rw [h]
theorem loads_cells {T : TypeId} {n m : Nat} {z : Value} (h : TyInfo P T true n m z) (b o : Nat) {vs : List Value} (hc : (List.range n).map (fun j => w.cell? ⟨b, o + j, none⟩) = vs.map some) : Loads P w T ⟨b, o, none⟩ (.agg vs.toArray) := by
  have hl : vs.length = n := by have := congrArg List.length hc; simpa using this.symm
  refine Loads.many h hl fun j v hv => ?_
  have hj : j < n := by have := (List.getElem?_eq_some_iff.1 hv).1; omega
  have := congrArg (fun l => l[j]?) hc
  simp only [List.getElem?_map, List.getElem?_range hj, hv, Option.map_some] at this
  rw [Addr.add_lit]
  exact Option.some.inj this
theorem op_loadA {T : TypeId} {n m : Nat} {z : Value} {k : Value → World → Prop} (h : TyInfo P T true n m z) (b o : Nat) (l : List (Option Value)) (hl : l = (List.range n).map (fun j => w.cell? ⟨b, o + j, none⟩)) :
    opV P (Instr.loadAt T (.pointer (some ⟨b, o, none⟩))) QP w k = onCells l (fun vs => k (.agg vs.toArray) w) (opVx P (Instr.loadAt T (.pointer (some ⟨b, o, none⟩))) QP w k) := by
  rcases onCells_cases l with ⟨vs, hv⟩ | hd
  · rw [hv, onCells_all]
    exact op_load (loads_cells h b o (by rw [← hl, hv]))
  · rw [hd]; rfl
theorem qV_loadA {T : TypeId} {n m : Nat} {z : Value} {k : Value → Prop} (h : TyInfo P T true n m z) (b o : Nat) (l : List (Option Value)) (hl : l = (List.range n).map (fun j => w.cell? ⟨b, o + j, none⟩)) :
    qV P (EC w) (Instr.loadAt T (.pointer (some ⟨b, o, none⟩))) k = onCells l (fun vs => k (.agg vs.toArray)) (qVx P (EC w) (Instr.loadAt T (.pointer (some ⟨b, o, none⟩))) k) := by
  rcases onCells_cases l with ⟨vs, hv⟩ | hd
  · rw [hv, onCells_all]
    refine qV_load fun w' e => loads_cells h b o ?_
    rw [← hv, hl]
    have hm : ∀ j, j ∈ List.range n → ∃ v, w.cell? ⟨b, o + j, none⟩ = some v := by
      intro j hj
      have : w.cell? ⟨b, o + j, none⟩ ∈ l := by rw [hl]; exact List.mem_map_of_mem hj
      rw [hv] at this
      obtain ⟨v, _, hv⟩ := List.mem_map.1 this
      exact ⟨v, hv.symm⟩
    apply List.map_congr_left
    intro j hj
    obtain ⟨v, hv⟩ := hm j hj
    rw [hv]; exact e.cell hv
  · rw [hd]; rfl
def qWx (P : Program) (t : TypeId) (a : Value) (w : World) (k : Value → Prop) : Prop := qW P t a w k
theorem qW_load {T : TypeId} {a : Addr} {v : Value} {k : Value → Prop} (h : Loads P w T a v) : qW P T (.pointer (some a)) w k = k v := by
  have hr : (do loadVar T (← asAddr (.pointer (some a))) : Sem Value).run P w = .ok v w := h
  unfold qW
  rw [hr]
  apply propext
  constructor
  · rintro ⟨v', h1, h2⟩; injection h1 with h1 _; rw [h1]; exact h2
  · exact fun hk => ⟨v, rfl, hk⟩
theorem qW_loadC {T : TypeId} {n m : Nat} {z : Value} {k : Value → Prop} (h : TyInfo P T false n m z) (b o : Nat) : qW P T (.pointer (some ⟨b, o, none⟩)) w k = onCell (w.cell? ⟨b, o, none⟩) k (qWx P T (.pointer (some ⟨b, o, none⟩)) w k) := by
  cases hc : w.cell? ⟨b, o, none⟩ with
  | some v => exact qW_load (Loads.one h hc)
  | none => rfl
theorem qW_loadA {T : TypeId} {n m : Nat} {z : Value} {k : Value → Prop} (h : TyInfo P T true n m z) (b o : Nat) (l : List (Option Value)) (hl : l = (List.range n).map (fun j => w.cell? ⟨b, o + j, none⟩)) :
    qW P T (.pointer (some ⟨b, o, none⟩)) w k = onCells l (fun vs => k (.agg vs.toArray)) (qWx P T (.pointer (some ⟨b, o, none⟩)) w k) := by
  rcases onCells_cases l with ⟨vs, hv⟩ | hd
  · rw [hv, onCells_all]
    exact qW_load (loads_cells h b o (by rw [← hl, hv]))
  · rw [hd]; rfl
@[congr] theorem qW_congr {T : TypeId} {a a' : Value} {w' : World} {k : Value → Prop} {d : Nat} (h : a = a') (hw : w = w') (hd : dirty = d) : qW P T a w k = qW P T a' w' k := by rw [h, hw]
def onFree : List Bool → Prop → Prop → Prop
  | [], p, _ => p
  | false :: l, p, d => onFree l p d
  | true :: _, _, d => d
theorem onFree_nil (p d : Prop) : onFree [] p d = p := rfl
theorem onFree_false (l : List Bool) (p d : Prop) : onFree (false :: l) p d = onFree l p d := rfl
theorem onFree_cases (l : List Bool) : (∀ b ∈ l, b = false) ∧ (∀ p d, onFree l p d = p) ∨ ∀ p d, onFree l p d = d := by
  induction l with
  | nil => exact .inl ⟨by simp, fun _ _ => rfl⟩
  | cons a l ih =>
    cases a with
    | true => exact .inr fun _ _ => rfl
    | false =>
      rcases ih with ⟨h1, h2⟩ | h
      · exact .inl ⟨by simpa using h1, h2⟩
      · exact .inr h
@[congr] theorem onFree_congr {l l' : List Bool} {p q : Prop} {d : Nat} (h : l = l') (hd : dirty = d) : onFree l p q = onFree l' p q := by rw [h]
@[congr] theorem qVx_congr {s : Sem Value} {C : World → Prop} {k : Value → Prop} {d : Nat} (hd : dirty = d) : qVx P C s k = qVx P C s k := rfl
@[congr] theorem qWx_congr {T : TypeId} {a : Value} {k : Value → Prop} {d : Nat} (hd : dirty = d) : qWx P T a w k = qWx P T a w k := rfl
def setCells (w : World) (b o : Nat) : List Value → World
  | [] => w
  | v :: vs => setCells (w.setCell ⟨b, o, none⟩ v) b (o + 1) vs
theorem run_storeCellsA (b o : Nat) : ∀ (vs : List Value) (i : Nat) (w : World), (∀ j, j < vs.length → ∃ u, w.cell? ⟨b, o + (i + j), none⟩ = some u) → (∀ j, j < vs.length → w.frozen? ⟨b, o + (i + j), none⟩ = false) → (∀ v ∈ vs, v.oneCell' = true) →
    (storeCells ⟨b, o, none⟩ vs i).run P w = .ok () (setCells w b (o + i) vs)
  | [], _, _, _, _, _ => rfl
  | v :: vs, i, w, hc, hf, hv => by
    obtain ⟨u, hu⟩ := hc 0 (by simp)
    have hf' : w.frozen? ⟨b, o + i, none⟩ = false := hf 0 (by simp)
    simp only [Nat.add_zero] at hu
    simp only [storeCells, Sem.run_bind, Addr.add_lit, run_store P _ _ v .plain (hv v (List.mem_cons_self ..)), hu, hf', Nat.add_zero, Bool.false_eq_true, if_false, Result.andThen_ok]
    have hs : ∀ j, j < vs.length → ∃ u, (w.setCell ⟨b, o + i, none⟩ v).cell? ⟨b, o + (i + 1 + j), none⟩ = some u := by
      intro j hj
      obtain ⟨u, hu⟩ := hc (j + 1) (by simp; omega)
      refine ⟨u, ?_⟩
      rw [cell_set_other (by omega)]
      rw [← hu]; congr 2; omega
    have := run_storeCellsA b o vs (i + 1) (w.setCell ⟨b, o + i, none⟩ v) hs (fun j hj => by rw [frozen_set]; have := hf (j + 1) (by simp; omega); rw [← this]; congr 2; omega) (fun u hu => hv u (List.mem_cons_of_mem _ hu))
    simpa [hf', hu, setCells, Nat.add_assoc] using this
theorem op_storeA {T : TypeId} {n m : Nat} {z : Value} {ku : World → Prop} (h : TyInfo P T true n m z) (b o : Nat) (vs : List Value) (hn : vs.length = n) (hv : ∀ v ∈ vs, v.oneCell' = true) (l : List (Option Value)) (hl : l = (List.range n).map (fun j => w.cell? ⟨b, o + j, none⟩))
    (lf : List Bool) (hlf : lf = (List.range n).map (fun j => w.frozen? ⟨b, o + j, none⟩)) :
    opU P (Instr.storeAt T (.pointer (some ⟨b, o, none⟩)) (.agg vs.toArray)) QP w ku = onCells l (fun _ => onFree lf (ku (setCells w b o vs)) (opUx P (Instr.storeAt T (.pointer (some ⟨b, o, none⟩)) (.agg vs.toArray)) QP w ku)) (opUx P (Instr.storeAt T (.pointer (some ⟨b, o, none⟩)) (.agg vs.toArray)) QP w ku) := by
  rcases onCells_cases l with ⟨us, hu⟩ | hd
  · rw [hu, onCells_all]
    rcases onFree_cases lf with ⟨h1, h2⟩ | h2
    · rw [h2]
      refine opU_ok (u := ()) ?_
      have hc : ∀ j, j < vs.length → ∃ u, w.cell? ⟨b, o + (0 + j), none⟩ = some u := by
        intro j hj
        have : w.cell? ⟨b, o + j, none⟩ ∈ l := by rw [hl]; exact List.mem_map_of_mem (List.mem_range.2 (by omega))
        rw [hu] at this
        obtain ⟨v, _, hv⟩ := List.mem_map.1 this
        exact ⟨v, by rw [Nat.zero_add, hv]⟩
      have hf : ∀ j, j < vs.length → w.frozen? ⟨b, o + (0 + j), none⟩ = false := by
        intro j hj
        refine h1 _ ?_
        rw [hlf, Nat.zero_add]
        exact List.mem_map_of_mem (f := fun j => w.frozen? ⟨b, o + j, none⟩) (List.mem_range.2 (by omega))
      have := run_storeCellsA (P := P) b o vs 0 w hc hf hv
      simp [Instr.storeAt, Instr.sureAddr, storeVar, run_sizeOf h, cells_agg, hn, this]
    · rw [h2]; rfl
  · rw [hd]; rfl
theorem op_storeN {T : TypeId} {n m : Nat} {z : Value} {ku : World → Prop} (h : TyInfo P T true n m z) (b : Nat) (hb : b = w.heap.size) (o : Array Value) (T' : TypeId) (vs : List Value) (ho : o.size = n) (hn : vs.length = n) (hv : ∀ v ∈ vs, v.oneCell' = true) :
    opU P (Instr.storeAt T (.pointer (some ⟨b, 0, none⟩)) (.agg vs.toArray)) QP (w.alloc (.cells o T')) ku = ku (w.alloc (.cells vs.toArray T')) := by
  subst hb
  refine opU_ok (u := ()) ?_
  obtain ⟨o', h1, h2, h3⟩ := storeCells_new (P := P) (w := w) T' vs 0 o (by simp; omega) hv
  have he : o' = vs.toArray := by
    apply Array.ext_getElem?
    intro j
    rw [h3 j]
    by_cases hj : j < vs.length
    · rw [if_pos (by omega)]; simp
    · rw [if_neg (by omega)]
      rw [Array.getElem?_eq_none (by omega), Array.getElem?_eq_none (by simp; omega)]
  subst he
  simp [Instr.storeAt, Instr.sureAddr, storeVar, run_sizeOf h, cells_agg, hn, h1]
theorem GENQ {C : World → Prop} [ClassNe C] {k : Value → Prop} : (∀ t c kd a b, qV P C (binS .add t c (.int kd a) (.int kd b)) k = k (.int kd (kd.wrap (a + b)))) ∧
    (∀ t c kd a b, qV P C (binS .sub t c (.int kd a) (.int kd b)) k = k (.int kd (kd.wrap (a - b)))) ∧
    (∀ t c kd a b, qV P C (binS .mul t c (.int kd a) (.int kd b)) k = k (.int kd (kd.wrap (a * b)))) ∧
    (∀ t c kd a b, qV P C (binS .eql t c (.int kd a) (.int kd b)) k = k (.bool (a == b))) ∧
    (∀ t c kd a b, qV P C (binS .neq t c (.int kd a) (.int kd b)) k = k (.bool (a != b))) ∧
    (∀ t c kd a b, qV P C (binS .lss t c (.int kd a) (.int kd b)) k = k (.bool (decide (a < b)))) ∧
    (∀ t c kd a b, qV P C (binS .leq t c (.int kd a) (.int kd b)) k = k (.bool (decide (a ≤ b)))) ∧
    (∀ t c kd a b, qV P C (binS .gtr t c (.int kd a) (.int kd b)) k = k (.bool (decide (b < a)))) ∧
    (∀ t c kd a b, qV P C (binS .geq t c (.int kd a) (.int kd b)) k = k (.bool (decide (b ≤ a)))) ∧
    (∀ t c a b, qV P C (binS .eql t c (.string a) (.string b)) k = k (.bool (decide (a = b)))) ∧
    (∀ t c a b, qV P C (binS .neq t c (.string a) (.string b)) k = k (.bool (!decide (a = b)))) ∧
    (∀ b, qV P C (Op.unary .not (.bool b)) k = k (.bool !b)) ∧
    (∀ ts t kd a b, qV P C (Builtin.max_ ts t #[.int kd a, .int kd b]) k = k (.int kd (if b > a then b else a))) ∧
    (∀ ts t kd a b, qV P C (Builtin.min_ ts t #[.int kd a, .int kd b]) k = k (.int kd (if b < a then b else a))) ∧
    (∀ a b, qV P C (Instr.extract (.tuple #[a, b]) 0) k = k a) ∧ (∀ a b, qV P C (Instr.extract (.tuple #[a, b]) 1) k = k b) ∧
    (∀ a b c, qV P C (Instr.extract (.tuple #[a, b, c]) 0) k = k a) ∧ (∀ a b c, qV P C (Instr.extract (.tuple #[a, b, c]) 1) k = k b) ∧ (∀ a b c, qV P C (Instr.extract (.tuple #[a, b, c]) 2) k = k c) ∧
    (∀ fn a b, qV P C (Instr.makeFunc fn a b) k = k (.func fn a b)) ∧
    (∀ a, qN P C (nilN (.pointer (some a))) k = k (.pointer (some a))) :=
  ⟨fun t c kd a b => qV_of fun _ _ _ => op_add t c kd a b, fun t c kd a b => qV_of fun _ _ _ => op_sub t c kd a b, fun t c kd a b => qV_of fun _ _ _ => op_mul t c kd a b, fun t c kd a b => qV_of fun _ _ _ => op_eql t c kd a b, fun t c kd a b => qV_of fun _ _ _ => op_neq t c kd a b,
    fun t c kd a b => qV_of fun _ _ _ => op_lss t c kd a b, fun t c kd a b => qV_of fun _ _ _ => op_leq t c kd a b, fun t c kd a b => qV_of fun _ _ _ => op_gtr t c kd a b, fun t c kd a b => qV_of fun _ _ _ => op_geq t c kd a b,
    fun t c a b => qV_of fun _ _ _ => op_seql t c a b, fun t c a b => qV_of fun _ _ _ => op_sneq t c a b, fun b => qV_of fun _ _ _ => op_not b, fun ts t kd a b => qV_of fun _ _ _ => op_max ts t kd a b, fun ts t kd a b => qV_of fun _ _ _ => op_min ts t kd a b,
    fun a b => qV_of fun _ _ _ => op_extract20 a b, fun a b => qV_of fun _ _ _ => op_extract21 a b, fun a b c => qV_of fun _ _ _ => op_extract30 a b c, fun a b c => qV_of fun _ _ _ => op_extract31 a b c, fun a b c => qV_of fun _ _ _ => op_extract32 a b c, fun fn a b => qV_of fun _ _ _ => op_makeFunc fn a b, qN_nil⟩
def KL (w : World) (r : Nat) (ps : List (ByteArray × Value)) : World → Prop := fun x => Ext w x ∧ MapOf x r ps
theorem qV_lookupKL {mt kt et r : TypeId} {agg : Bool} {n m : Nat} {z : Value} {ps : List (ByteArray × Value)} {k : Value → Prop} (hm : P.underlying mt = some (.map kt et)) (hk : P.underlying kt = some .string) (hz : TyInfo P et agg n m z) (hne : ∃ x, KL w r ps x) (s : ByteArray) :
    qV P (KL w r ps) (Instr.lookup mt (.map (some r)) (.string s) true) k = k (.tuple #[(lastOf ps s).getD z, .bool (lastOf ps s).isSome]) := by
  haveI : ClassNe (KL w r ps) := ⟨hne⟩
  exact qV_eqC fun w' e => run_of_op fun QP k => op_lookupO hm hk hz e.2 s
theorem qV_lookup1E {mt kt et r : TypeId} {agg : Bool} {n m : Nat} {z : Value} {ps : List (ByteArray × Value)} {k : Value → Prop} (hm : P.underlying mt = some (.map kt et)) (hk : P.underlying kt = some .string) (hz : TyInfo P et agg n m z) (h : MapOf w r ps) (s : ByteArray) :
    qV P (EC w) (Instr.lookup mt (.map (some r)) (.string s) false) k = k ((lastOf ps s).getD z) := qV_eqC fun w' e => run_of_op fun QP k => op_lookup1O hm hk hz (h.ext e) s
theorem qV_lookupE {mt kt et r : TypeId} {agg : Bool} {n m : Nat} {z : Value} {ps : List (ByteArray × Value)} {k : Value → Prop} (hm : P.underlying mt = some (.map kt et)) (hk : P.underlying kt = some .string) (hz : TyInfo P et agg n m z) (h : MapOf w r ps) (s : ByteArray) :
    qV P (EC w) (Instr.lookup mt (.map (some r)) (.string s) true) k = k (.tuple #[(lastOf ps s).getD z, .bool (lastOf ps s).isSome]) := qV_eqC fun w' e => run_of_op fun QP k => op_lookupO hm hk hz (h.ext e) s
theorem narrowK_same {C : World → Prop} {f : (World → Prop) → World → Prop} (hC : C w) (h : f C w) : narrowK C w f := ⟨C, fun _ h => h, hC, h⟩
theorem narrowK_KL {w1 : World} {r : Nat} {ps : List (ByteArray × Value)} {f : (World → Prop) → World → Prop} (e : Ext w1 w) (hm : MapOf w r ps) (h : f (KL w1 r ps) w) : narrowK (EC w1) w f := ⟨KL w1 r ps, fun _ h => h.1, ⟨e, hm⟩, h⟩
theorem narrowK_EC {w1 : World} {f : (World → Prop) → World → Prop} (e : Ext w1 w) (h : f (EC w) w) : narrowK (EC w1) w f := ⟨EC w, fun _ h => e.trans h, Ext.refl _, h⟩
theorem qV_shl {C : World → Prop} [ClassNe C] {k : Value → Prop} (t : TypeId) (c : Bool) (x : Int) (yk : IntKind) (y : Int) (h0 : 0 ≤ y) (h1 : y ≤ 64) : qV P C (binS .shl t c (.int .i64 x) (.int yk y)) k = k (.int .i64 (IntKind.i64.wrap (x * 2 ^ y.toNat))) := qV_of fun _ _ _ => op_shl t c x yk y h0 h1
theorem qV_rem {C : World → Prop} [ClassNe C] {k : Value → Prop} (t : TypeId) (c : Bool) (kd : IntKind) (a b : Int) (hb : b ≠ 0) : qV P C (binS .rem t c (.int kd a) (.int kd b)) k = k (.int kd (a.tmod b)) := qV_of fun _ _ _ => op_rem t c kd a b hb
def KM {α : Type} [DecidableEq α] (w : World) (r : Nat) (enc : α → Value) (L : List (α × Value × Nat)) (c : Nat) : World → Prop := fun x => Ext w x ∧ MapB x r enc L c
theorem qV_lookupKM {α : Type} [DecidableEq α] {mt kt et r c : TypeId} {agg : Bool} {n m : Nat} {z : Value} {enc : α → Value} {L : List (α × Value × Nat)} {k : Value → Prop} (hm : P.underlying mt = some (.map kt et)) (K : KeyOK P kt enc) (hz : TyInfo P et agg n m z) (hne : ∃ x, KM w r enc L c x) (s : α) :
    qV P (KM w r enc L c) (Instr.lookup mt (.map (some r)) (enc s) true) k = k (.tuple #[(look L s).getD z, .bool (look L s).isSome]) := by
  haveI : ClassNe (KM w r enc L c) := ⟨hne⟩
  exact qV_eqC fun w' e => run_of_op fun QP k => op_lookup hm K hz e.2 s
theorem narrowK_KM {α : Type} [DecidableEq α] {w1 : World} {r c : Nat} {enc : α → Value} {L : List (α × Value × Nat)} {f : (World → Prop) → World → Prop} (e : Ext w1 w) (hm : MapB w r enc L c) (h : f (KM w1 r enc L c) w) : narrowK (EC w1) w f := ⟨KM w1 r enc L c, fun _ h => h.1, ⟨e, hm⟩, h⟩
theorem drawK_intro {f : (World → Prop) → World → Prop} (h : f (EC (drew w)) (drew w)) : drawK w f := ⟨EC (drew w), Ext.refl _, h⟩
theorem drawK_introE {w1 : World} {f : (World → Prop) → World → Prop} (e : Ext w1 w) (h : f (EC w1) (drew w)) : drawK w f := ⟨EC w1, e.drew, h⟩
theorem drawK_introB {w1 : World} (b1 b2 : Nat) {f : (World → Prop) → World → Prop} (e : KB w1 b1 b2 w) (h : f (KB w1 b1 b2) (drew w)) : drawK w f := ⟨KB w1 b1 b2, e, h⟩
theorem turnK_intro {f : (World → Prop) → World → Prop} (h : f (EC w) w) : turnK w f := ⟨EC w, Ext.refl _, h⟩
@[congr] theorem turnK_congr {w' : World} {f : (World → Prop) → World → Prop} {d : Nat} (hw : w = w') (hd : dirty = d) : turnK w f = turnK w' f := by rw [hw]
end
end Go.Sw
namespace Go.Sw
open Go.RowKit (Below)
def OwnE {α : Type} (w : World) (base : Nat) (T : TypeId) (n : Nat) (enc : α → List Value) (v : Value) (l : List α) : Prop :=
  w.ownsRow base T n v l.length (l.flatMap enc)
theorem ownsRow_ext {w w' : World} {base n m : Nat} {T : TypeId} {v : Value} {xs : List Value} (h : w.ownsRow base T n v m xs) (e : Ext w w') : w'.ownsRow base T n v m xs :=
  h.kept (row := none) ⟨e.os, e.tape, e.output, e.size, fun k hk _ => e.block k hk⟩ (by cases hv : v.ownBlock <;> simp)
theorem ownsRow_base {w : World} {base base' n m : Nat} {T : TypeId} {v : Value} {xs : List Value} (h : w.ownsRow base T n v m xs) (hb : base' ≤ base) : w.ownsRow base' T n v m xs := by
  refine ⟨h.1, ?_⟩
  rcases h.2 with h2 | ⟨g, cap, cur, h1, h2, h3⟩
  · exact .inl h2
  · exact .inr ⟨g, cap, cur, h1, Nat.le_trans hb h2, h3⟩
theorem OwnE.ext {α : Type} {w w' : World} {base n : Nat} {T : TypeId} {enc : α → List Value} {v : Value} {l : List α} (h : OwnE w base T n enc v l) (e : Ext w w') : OwnE w' base T n enc v l := ownsRow_ext h e
theorem OwnE.base {α : Type} {w : World} {base base' n : Nat} {T : TypeId} {enc : α → List Value} {v : Value} {l : List α} (h : OwnE w base T n enc v l) (hb : base' ≤ base) : OwnE w base' T n enc v l := ownsRow_base h hb
theorem OwnE.nil {α : Type} (w : World) (base n : Nat) (T : TypeId) (enc : α → List Value) : OwnE w base T n enc (.slice none 0 0) [] := w.ownsRow_nil base T n
theorem flatMap_get {α : Type} {enc : α → List Value} {n : Nat} (hn : ∀ x, (enc x).length = n) : ∀ (l : List α) (k : Nat) (x : α) (j : Nat) (v : Value), l[k]? = some x → (enc x)[j]? = some v → (l.flatMap enc)[k * n + j]? = some v
  | [], k, x, j, v, h, _ => by simp at h
  | y :: l, 0, x, j, v, h, hv => by
    simp only [List.getElem?_cons_zero, Option.some.injEq] at h
    subst h
    have hj : j < (enc y).length := (List.getElem?_eq_some_iff.1 hv).1
    rw [List.flatMap_cons, Nat.zero_mul, Nat.zero_add, List.getElem?_append_left hj]; exact hv
  | y :: l, k + 1, x, j, v, h, hv => by
    rw [List.flatMap_cons, List.getElem?_append_right (by rw [hn, Nat.add_mul]; omega)]
    have := flatMap_get hn l k x j v (by simpa using h) hv
    rw [hn, Nat.add_mul]
    rw [show k * n + 1 * n + j - n = k * n + j by omega]
    exact this
theorem OwnE.slice {α : Type} {w : World} {base n : Nat} {T : TypeId} {enc : α → List Value} {v : Value} {l : List α} {E : World → List Value → α → Prop} (h : OwnE w base T n enc v l) (hn : ∀ x, (enc x).length = n) (hE : ∀ x, x ∈ l → E w (enc x) x) : SliceOf w n E v l := by
  obtain ⟨h1, h2⟩ := h
  rcases h2 with ⟨rfl, h0⟩ | ⟨g, cap, cur, rfl, hb, hg, hc, hm, hs, ht⟩
  · have : l = [] := List.eq_nil_of_length_eq_zero h0
    subst this; exact SliceOf.nil w n E
  · refine ⟨_, cap, rfl, hc, by simp only [maxLen] at hm; omega, fun _ => ⟨g, 0, rfl, fun k x hx => ⟨enc x, hn x, fun j v hv => ?_, hE x (List.mem_of_getElem? hx)⟩⟩⟩
    have hk : k < l.length := (List.getElem?_eq_some_iff.1 hx).1
    have hj : j < n := by have := (List.getElem?_eq_some_iff.1 hv).1; rwa [hn] at this
    have := flatMap_get hn l k x j v hx hv
    rw [← ht, List.getElem?_take] at this
    split at this
    · rw [cell_of_row w g _ cur T (0, 0) hg, Nat.zero_add]
      simpa using this
    · cases this
theorem OwnE.new {α : Type} (w : World) (T : TypeId) (n : Nat) (enc : α → List Value) (l : List α) (hn : ∀ x, (enc x).length = n) (hl : l.length ≤ 9223372036854775807) : OwnE (w.alloc (.cells (l.flatMap enc).toArray T)) w.heap.size T n enc (.slice (some ⟨w.heap.size, 0, none⟩) l.length l.length) l := by
  have hlen : (l.flatMap enc).length = l.length * n := by
    clear hl
    induction l with
    | nil => simp
    | cons a l ih => rw [List.flatMap_cons, List.length_append, hn, ih, List.length_cons, Nat.add_mul]; omega
  exact ⟨hlen, .inr ⟨_, _, _, rfl, Nat.le_refl _, World.alloc_heap_new w _, Nat.le_refl _, by simp only [maxLen]; omega, by simpa using hlen, by rw [← hlen]; exact List.take_length⟩⟩
abbrev Cs (n : Nat) : Type := {cs : List Value // cs.length = n}
def Mates {α : Type} (n : Nat) (E : List Value → α → Prop) (css : List (Cs n)) (l : List α) : Prop := css.length = l.length ∧ ∀ (k : Nat) (x : α) (cs : Cs n), l[k]? = some x → css[k]? = some cs → E cs.1 x
theorem Mates.imp {α : Type} {n : Nat} {E E' : List Value → α → Prop} {css : List (Cs n)} {l : List α} (h : Mates n E css l) (hE : ∀ cs x, E cs x → E' cs x) : Mates n E' css l := ⟨h.1, fun k x cs hx hc => hE _ _ (h.2 k x cs hx hc)⟩
theorem Mates.mem {α : Type} {n : Nat} {E : List Value → α → Prop} {css : List (Cs n)} {l : List α} (h : Mates n E css l) {cs : Cs n} (hc : cs ∈ css) : ∃ x ∈ l, E cs.1 x := by
  obtain ⟨k, hk⟩ := List.getElem?_of_mem hc
  obtain ⟨x, hx⟩ := getElem?_lt (l := l) (k := k) (by rw [← h.1]; exact (List.getElem?_eq_some_iff.1 hk).1)
  exact ⟨x, List.mem_of_getElem? hx, h.2 k x cs hx hk⟩
theorem keptRaw {n : Nat} : Kept (fun (_ : World) (cs : List Value) (x : Cs n) => cs = x.1) := fun _ _ _ _ _ h => h
theorem SliceOf.raw {α : Type} {w : World} {n : Nat} {E : World → List Value → α → Prop} {v : Value} {l : List α} (h : SliceOf w n E v l) :
    ∃ css : List (Cs n), SliceOf w n (fun _ cs x => cs = x.1) v css ∧ Mates n (E w) css l := by
  obtain ⟨A, c, rfl, hlc, hcm, hlm, hel⟩ := SliceOf.open h
  have hex : ∀ k, ∃ cs : Cs n, ∀ x, l[k]? = some x → ∃ b o, A = some ⟨b, o, none⟩ ∧ ElemAt w b (o + k * n) cs.1 ∧ E w cs.1 x := by
    intro k
    cases hx : l[k]? with
    | none => exact ⟨⟨List.replicate n .nilIface, by simp⟩, fun x h => by cases h⟩
    | some x =>
      obtain ⟨b, o, cs, h1, h2, h3, h4⟩ := hel k x hx
      exact ⟨⟨cs, h2⟩, fun y hy => by injection hy with hy; subst hy; exact ⟨b, o, h1, h3, h4⟩⟩
  let f := fun k => Classical.choose (hex k)
  have hf : ∀ k x, l[k]? = some x → ∃ b o, A = some ⟨b, o, none⟩ ∧ ElemAt w b (o + k * n) (f k).1 ∧ E w (f k).1 x := fun k => Classical.choose_spec (hex k)
  refine ⟨(List.range l.length).map f, ⟨A, c, by simp, by simpa using hlc, hcm, fun hne => ?_⟩, by simp, fun k x cs hx hcs => ?_⟩
  · have hl0 : 0 < l.length := by
      cases hl : l with
      | nil => rw [hl] at hne; simp at hne
      | cons => simp
    obtain ⟨x, hx⟩ := getElem?_lt hl0
    obtain ⟨b, o, hA, _⟩ := hf 0 x hx
    refine ⟨b, o, hA, fun k cs hcs => ?_⟩
    simp only [List.getElem?_map, Option.map_eq_some_iff] at hcs
    obtain ⟨i, hi, rfl⟩ := hcs
    obtain ⟨hk, he⟩ := List.getElem?_eq_some_iff.1 hi
    simp only [List.length_range] at hk
    rw [List.getElem_range] at he
    subst he
    obtain ⟨y, hy⟩ := getElem?_lt hk
    obtain ⟨b', o', hA', h3, h4⟩ := hf k y hy
    rw [hA] at hA'
    injection hA' with hA'
    injection hA' with h5 h6
    subst h5 h6
    exact ⟨(f k).1, (f k).2, h3, rfl⟩
  · obtain ⟨_, _, _, _, h4⟩ := hf k x hx
    have hk : k < l.length := (List.getElem?_eq_some_iff.1 hx).1
    simp only [List.getElem?_map, List.getElem?_range hk, Option.map_some, Option.some.injEq] at hcs
    rw [← hcs]; exact h4
theorem OwnE.reads {α : Type} {w : World} {base n : Nat} {T : TypeId} {v : Value} {css : List (Cs n)} {l : List α} {E : World → List Value → α → Prop} (h : OwnE w base T n Subtype.val v css) (hm : Mates n (E w) css l) : SliceOf w n E v l := by
  have hs : SliceOf w n (fun _ cs (x : Cs n) => cs = x.1) v css := h.slice (fun x => x.2) (fun _ _ => rfl)
  obtain ⟨A, c, h1, h2, h3, h4⟩ := hs
  rw [hm.1] at h1 h2
  refine ⟨A, c, h1, h2, h3, fun hne => ?_⟩
  have hne' : css ≠ [] := by
    rintro rfl
    have := hm.1
    exact hne (List.eq_nil_of_length_eq_zero (by simpa using this.symm))
  obtain ⟨b, o, hA, h5⟩ := h4 hne'
  refine ⟨b, o, hA, fun k x hx => ?_⟩
  obtain ⟨cs, hcs⟩ := getElem?_lt (l := css) (k := k) (by rw [hm.1]; exact (List.getElem?_eq_some_iff.1 hx).1)
  obtain ⟨cs', h6, h7, rfl⟩ := h5 k cs hcs
  exact ⟨cs.1, cs.2, h7, hm.2 k x cs hx hcs⟩
theorem cells_of_heap {w : World} {b : Nat} {cs : Array Value} {T : TypeId} (h : w.heap[b]? = some (.cells cs T (0, 0))) : (∀ o, w.cell? ⟨b, o, none⟩ = cs[o]?) ∧ ∀ o, w.frozen? ⟨b, o, none⟩ = false :=
  ⟨fun o => cell_of_row w b o cs T (0, 0) h, fun o => by unfold World.frozen?; rw [h]; simp⟩
theorem heap_set {w : World} {b o : Nat} {cs : Array Value} {T : TypeId} {fr : Nat × Nat} (h : w.heap[b]? = some (.cells cs T fr)) (v : Value) : (w.setCell ⟨b, o, none⟩ v).heap[b]? = some (.cells (cs.setIfInBounds o v) T fr) := by
  simp only [World.setCell, Array.getElem?_modify, h]
  simp
def setObj (o : Nat) (v : Value) : Obj → Obj
  | .cells cs T fr => .cells (cs.setIfInBounds o v) T fr
  | x => x
theorem setObj_cells (o : Nat) (v : Value) (cs : Array Value) (T : TypeId) (fr : Nat × Nat) : setObj o v (.cells cs T fr) = .cells (cs.setIfInBounds o v) T fr := rfl
theorem heap_set_map {w : World} {b o : Nat} {v : Value} : (w.setCell ⟨b, o, none⟩ v).heap[b]? = (w.heap[b]?).map (setObj o v) := by
  simp only [World.setCell, Array.getElem?_modify]
  cases w.heap[b]? with
  | none => simp
  | some x => simp; cases x <;> rfl
theorem heap_new (w : World) (cs : Array Value) (T : TypeId) : (w.alloc (.cells cs T)).heap[w.heap.size]? = some (.cells cs T (0, 0)) := World.alloc_heap_new w _
def TypeAt (w : World) (b : Nat) (T : TypeId) : Prop := ∃ cur fr, w.heap[b]? = some (.cells cur T fr)
def Only (b : Nat) (w w' : World) : Prop := ∀ g, g ≠ b → w'.heap[g]? = w.heap[g]?
theorem Only.setCell (w : World) (b o : Nat) (v : Value) : Only b w (w.setCell ⟨b, o, none⟩ v) := fun g hg => Below.heap_setCell w ⟨b, o, none⟩ v g hg
def OwnR {α : Type} (w : World) (lo hi : Nat) (T : TypeId) (n : Nat) (enc : α → List Value) (v : Value) (l : List α) : Prop := OwnE w lo T n enc v l ∧ ∀ b, v.ownBlock = some b → b < hi
theorem OwnE.range {α : Type} {w : World} {lo n : Nat} {T : TypeId} {enc : α → List Value} {v : Value} {l : List α} (h : OwnE w lo T n enc v l) : OwnR w lo w.heap.size T n enc v l := ⟨h, fun b hb => (h.lt b hb).2⟩
theorem OwnR.ext {α : Type} {w w' : World} {lo hi n : Nat} {T : TypeId} {enc : α → List Value} {v : Value} {l : List α} (h : OwnR w lo hi T n enc v l) (e : Ext w w') : OwnR w' lo hi T n enc v l := ⟨h.1.ext e, h.2⟩
theorem OwnR.mono {α : Type} {w : World} {lo lo' hi hi' n : Nat} {T : TypeId} {enc : α → List Value} {v : Value} {l : List α} (h : OwnR w lo hi T n enc v l) (h1 : lo' ≤ lo) (h2 : hi ≤ hi') : OwnR w lo' hi' T n enc v l := ⟨h.1.base h1, fun b hb => Nat.lt_of_lt_of_le (h.2 b hb) h2⟩
theorem OwnR.only {α : Type} {w w' : World} {lo hi n b : Nat} {T : TypeId} {enc : α → List Value} {v : Value} {l : List α} (h : OwnR w lo hi T n enc v l) (ho : Only b w w') (hb : hi ≤ b ∨ b < lo ∨ ∃ T', TypeAt w b T' ∧ T' ≠ T) : OwnR w' lo hi T n enc v l := by
  refine ⟨⟨h.1.1, ?_⟩, h.2⟩
  rcases h.1.2 with h2 | ⟨g, cap, cur, h1, h2, h3, h4⟩
  · exact .inl h2
  · refine .inr ⟨g, cap, cur, h1, h2, ?_, h4⟩
    rw [ho g ?_]; exact h3
    rintro rfl
    rcases hb with hb | hb | ⟨T', ⟨cur', fr, hc⟩, hT⟩
    · have := h.2 g (by rw [h1]; rfl)
      omega
    · omega
    · rw [h3] at hc; injection hc with hc; injection hc with _ hc _; exact hT hc.symm
theorem OwnE.row {α : Type} {w : World} {lo n : Nat} {T : TypeId} {enc : α → List Value} {v : Value} {l : List α} (h : OwnE w lo T n enc v l) (hn : ∀ x, (enc x).length = n) (hl : 0 < l.length) :
    ∃ g cap, v = .slice (some ⟨g, 0, none⟩) l.length cap ∧ lo ≤ g ∧ g < w.heap.size ∧ TypeAt w g T ∧ (∀ o, w.frozen? ⟨g, o, none⟩ = false) ∧ ∀ k x, l[k]? = some x → ElemAt w g (k * n) (enc x) := by
  rcases h.2 with ⟨rfl, h0⟩ | ⟨g, cap, cur, rfl, hb, hg, hc, hm, hs, ht⟩
  · omega
  · refine ⟨g, cap, rfl, hb, (Array.getElem?_eq_some_iff.1 hg).1, ⟨_, _, hg⟩, fun o => by unfold World.frozen?; rw [hg]; simp, fun k x hx j v hv => ?_⟩
    have := flatMap_get hn l k x j v hx hv
    rw [← ht, List.getElem?_take] at this
    split at this
    · rw [cell_of_row w g _ cur T (0, 0) hg]
      simpa using this
    · cases this
theorem flatMap_set {n : Nat} : ∀ (css : List (Cs n)) (k : Nat) (cs : Cs n) (j : Nat) (u : Value), css[k]? = some cs → j < n → (css.flatMap Subtype.val).set (k * n + j) u = (css.set k ⟨cs.1.set j u, by simp [cs.2]⟩).flatMap Subtype.val
  | [], k, cs, j, u, h, _ => by simp at h
  | y :: l, 0, cs, j, u, h, hj => by
    simp only [List.getElem?_cons_zero, Option.some.injEq] at h
    subst h
    rw [List.set_cons_zero, List.flatMap_cons, List.flatMap_cons, Nat.zero_mul, Nat.zero_add, List.set_append_left _ _ (by rw [y.2]; exact hj)]
  | y :: l, k + 1, cs, j, u, h, hj => by
    have hk : (k + 1) * n = k * n + n := by rw [Nat.add_mul, Nat.one_mul]
    rw [List.set_cons_succ, List.flatMap_cons, List.flatMap_cons, List.set_append_right _ _ (by rw [y.2, hk]; omega), y.2, hk, show k * n + n + j - n = k * n + j by omega]
    rw [flatMap_set l k cs j u (by simpa using h) hj]
theorem OwnE.set {w : World} {lo n g cap len : Nat} {T : TypeId} {css : List (Cs n)} (h : OwnE w lo T n Subtype.val (.slice (some ⟨g, 0, none⟩) len cap) css) {k : Nat} {cs : Cs n} (hk : css[k]? = some cs) {j : Nat} (hj : j < n) (u : Value) :
    OwnE (w.setCell ⟨g, k * n + j, none⟩ u) lo T n Subtype.val (.slice (some ⟨g, 0, none⟩) len cap) (css.set k ⟨cs.1.set j u, by simp [cs.2]⟩) := by
  have hkl : k < css.length := (List.getElem?_eq_some_iff.1 hk).1
  refine ⟨?_, ?_⟩
  · rw [← flatMap_set css k cs j u hk hj, List.length_set, List.length_set]; exact h.1
  rcases h.2 with ⟨h0, _⟩ | ⟨g', cap', cur, h1, hb, hg, hc, hm, hs, ht⟩
  · cases h0
  · injection h1 with h1 h1' h1''
    injection h1 with h1
    injection h1 with h1
    subst h1 h1''
    refine .inr ⟨g, cap, cur.setIfInBounds (k * n + j) u, by rw [List.length_set, ← h1'], hb, ?_, by rw [List.length_set]; exact hc, hm, by simpa using hs, ?_⟩
    · simp only [World.setCell, Array.getElem?_modify, hg]
      simp
    · rw [List.length_set, ← flatMap_set css k cs j u hk hj, ← ht, Array.toList_setIfInBounds, List.take_set]
theorem TypeAt.only {w w' : World} {b b' : Nat} {T : TypeId} (h : TypeAt w b T) (ho : Only b' w w') (hb : b ≠ b') : TypeAt w' b T := by
  obtain ⟨cur, fr, h⟩ := h
  exact ⟨cur, fr, by rw [ho b hb]; exact h⟩
theorem TypeAt.ext {w w' : World} {b : Nat} {T : TypeId} (h : TypeAt w b T) (e : Ext w w') : TypeAt w' b T := by
  obtain ⟨cur, fr, h⟩ := h
  exact ⟨cur, fr, e.obj h⟩
theorem OwnE.mates {α : Type} {w : World} {lo n : Nat} {T : TypeId} {enc : α → List Value} {v : Value} {css : List (Cs n)} {l : List α} (h : OwnE w lo T n Subtype.val v css) (hm : Mates n (fun cs x => cs = enc x) css l) : OwnE w lo T n enc v l := by
  have he : css.flatMap Subtype.val = l.flatMap enc := by
    have : css.map Subtype.val = l.map enc := by
      apply List.ext_getElem?
      intro i
      rw [List.getElem?_map, List.getElem?_map]
      cases hc : css[i]? with
      | none =>
        have : l[i]? = none := by rw [List.getElem?_eq_none_iff] at hc ⊢; rw [← hm.1]; exact hc
        rw [this]; rfl
      | some cs =>
        obtain ⟨x, hx⟩ := getElem?_lt (l := l) (k := i) (by rw [← hm.1]; exact (List.getElem?_eq_some_iff.1 hc).1)
        rw [hx]
        simp only [Option.map_some, Option.some.injEq]
        exact hm.2 i x cs hx hc
    rw [List.flatMap_def, List.flatMap_def, this]
  unfold OwnE at *
  rw [← he, ← hm.1]; exact h
section
variable {P : Program} {QP : List PanicEntry → World → Prop} {w : World}
theorem op_append0 {t ty T n m : Nat} {z : Value} {agg : Bool} {k : Value → World → Prop} (ht : P.underlying t = some (.slice T)) (hT : TyInfo P T agg n m z) (B A : Option Addr) (len cap c : Nat) (hc : len ≤ cap) :
    opV P (Builtin.append_ #[t, t] ty #[.slice B len cap, .slice A 0 c]) QP w k = k (.slice B len cap) w := by
  obtain ⟨⟨i, hi, hs, hby, hzz⟩, _⟩ := hT
  refine opV_ok ?_
  cases A with
  | none => cases B <;> simp [Builtin.append_, run_underlying ht, sizeOf, typeInfo, hi, Builtin.lenOf, Builtin.firstCells, hc, storeCells]
  | some a => cases B <;> simp [Builtin.append_, run_underlying ht, sizeOf, typeInfo, hi, Builtin.lenOf, Builtin.firstCells, hc, storeCells, loadCells, loadCellsFrom]
theorem op_appendE {α : Type} {t ty T n m : Nat} {z : Value} {agg : Bool} {enc : α → List Value} {v : Value} {l l' : List α} {base : Nat} {k : Value → World → Prop}
    (ht : P.underlying t = some (.slice T)) (hT : TyInfo P T agg n m z) (hz : z.cells.size = n) (h0 : 0 < n) (hn : ∀ x, (enc x).length = n) (h1 : ∀ x, x ∈ l' → ∀ u ∈ enc x, u.oneCell' = true)
    (hown : OwnE w base T n enc v l) {b o c : Nat} (hc : ∀ j x, l'[j]? = some x → ElemAt w b (o + j * n) (enc x)) (hbase : base ≤ w.heap.size) (hm : (l.length + l'.length) * m ≤ 140737488355328) (hb : l.length + l'.length ≤ 140737488355328)
    (hk : ∀ v' w', OwnE w' base T n enc v' (l ++ l') → w.grownBy w' v.ownBlock → k v' w') :
    opV P (Builtin.append_ #[t, t] ty #[v, .slice (some ⟨b, o, none⟩) l'.length c]) QP w k := by
  obtain ⟨⟨i, hi, hs, hby, hzz⟩, _⟩ := hT
  have hfl : (l'.flatMap enc).length = l'.length * n := by
    clear hm hb hc h1 hk
    induction l' with
    | nil => simp
    | cons a l ih => rw [List.flatMap_cons, List.length_append, hn, ih, List.length_cons, Nat.add_mul]; omega
  have hcells : ∀ j u, (l'.flatMap enc)[j]? = some u → w.cell? ((⟨b, o, none⟩ : Addr).add j) = some u := by
    intro j u hu
    have hj : j < l'.length * n := by have := (List.getElem?_eq_some_iff.1 hu).1; rwa [hfl] at this
    have hq : j / n < l'.length := Nat.div_lt_of_lt_mul (by rw [Nat.mul_comm]; exact hj)
    obtain ⟨x, hx⟩ := getElem?_lt hq
    have hjn : j % n < (enc x).length := by rw [hn]; exact Nat.mod_lt _ h0
    have hdm : j / n * n + j % n = j := by rw [Nat.mul_comm]; exact Nat.div_add_mod j n
    have hg := flatMap_get hn l' (j / n) x (j % n) _ hx (List.getElem?_eq_getElem hjn)
    rw [hdm, hu] at hg
    injection hg with hg
    rw [Addr.add_lit]
    have := hc _ _ hx (j % n) _ (List.getElem?_eq_getElem hjn)
    rw [hg, ← this]
    congr 2; omega
  obtain ⟨v', w', hr, ho, hg, _⟩ := run_append_own (P := P) w base t ty T i z n m ht hi hzz hs hby hz h0 v l.length (l.flatMap enc) hown ⟨b, o, none⟩ l'.length c (l'.flatMap enc) hfl hcells
    (by intro u hu; obtain ⟨x, hx, hux⟩ := List.mem_flatMap.1 hu; exact h1 x hx u hux) (by simp only [maxLen]; omega) hm hbase
  rw [opV_ok hr]
  refine hk v' w' ?_ hg
  unfold OwnE
  rw [List.flatMap_append, List.length_append]; exact ho
end
end Go.Sw
namespace Go.Proofs.Ytiajhbbmgglmlaa
open Sw
def isAggD (d : TypeDesc) : Bool := match d with | .struct _ | .array _ _ => true | _ => false
theorem ty_mk {P : Program} {T : TypeId} {agg : Bool} {n : Nat} {z : Value} {d : TypeDesc} (h : (P.info? T).map (fun i => (i.size, i.zero)) = some (n, some z)) (hu : P.underlying T = some d) (ha : isAggD d = agg) : TyInfo P T agg n (P.bytesOf T) z := by
  obtain ⟨i, hi, he⟩ := Option.map_eq_some_iff.1 h
  simp only [Prod.mk.injEq] at he
  exact ⟨⟨i, hi, he.1, by simp [Program.bytesOf, hi], he.2⟩, d, hu, ha⟩
theorem ty3 : TyInfo Try.prog 3 false 1 (Try.prog.bytesOf 3) (.int .i64 0) := ty_mk (by kernel_rfl) Try.underlying3 rfl
theorem ty4 : TyInfo Try.prog 4 false 1 (Try.prog.bytesOf 4) (.bool false) := ty_mk (by kernel_rfl) Try.underlying4 rfl
theorem ty5 : TyInfo Try.prog 5 false 1 (Try.prog.bytesOf 5) (.int .u8 0) := ty_mk (by kernel_rfl) Try.underlying5 rfl
theorem ty9 : TyInfo Try.prog 9 false 1 (Try.prog.bytesOf 9) (.string ByteArray.empty) := ty_mk (by kernel_rfl) Try.underlying9 rfl
theorem by9 : Try.prog.bytesOf 9 ≤ 4096 := Nat.le_of_ble_eq_true (by kernel_rfl)
theorem ty22 : TyInfo Try.prog 22 false 1 (Try.prog.bytesOf 22) (.int .i64 0) := ty_mk (by kernel_rfl) Try.underlying22 rfl
theorem ty23 : TyInfo Try.prog 23 false 1 (Try.prog.bytesOf 23) (.slice none 0 0) := ty_mk (by kernel_rfl) Try.underlying23 rfl
theorem ty25 : TyInfo Try.prog 25 true 2 (Try.prog.bytesOf 25) (.agg #[.int .i64 0, .slice none 0 0]) := ty_mk (by kernel_rfl) Try.underlying25 rfl
theorem ty26 : TyInfo Try.prog 26 false 1 (Try.prog.bytesOf 26) (.slice none 0 0) := ty_mk (by kernel_rfl) Try.underlying26 rfl
theorem ty28 : TyInfo Try.prog 28 true 15 (Try.prog.bytesOf 28) (.agg #[.string ByteArray.empty, .int .i64 0, .int .i64 0, .bool false, .bool false, .int .i64 0, .int .i64 0, .int .i64 0, .slice none 0 0, .string ByteArray.empty, .string ByteArray.empty, .string ByteArray.empty, .slice none 0 0, .int .i64 0, .int .i64 0]) := ty_mk (by kernel_rfl) Try.underlying28 rfl
theorem by28 : Try.prog.bytesOf 28 ≤ 4096 := Nat.le_of_ble_eq_true (by kernel_rfl)
theorem ty31 : TyInfo Try.prog 31 true 2 (Try.prog.bytesOf 31) (.agg #[.int .i64 0, .int .i64 0]) := ty_mk (by kernel_rfl) Try.underlying31 rfl
theorem ty32 : TyInfo Try.prog 32 false 1 (Try.prog.bytesOf 32) (.int .i64 0) := ty_mk (by kernel_rfl) Try.underlying32 rfl
theorem ty42 : TyInfo Try.prog 42 false 1 (Try.prog.bytesOf 42) (.slice none 0 0) := ty_mk (by kernel_rfl) Try.underlying42 rfl
theorem ty44 : TyInfo Try.prog 44 true 3 (Try.prog.bytesOf 44) (.agg #[.string ByteArray.empty, .slice none 0 0, .string ByteArray.empty]) := ty_mk (by kernel_rfl) Try.underlying44 rfl
theorem ty48 : TyInfo Try.prog 48 false 1 (Try.prog.bytesOf 48) (.slice none 0 0) := ty_mk (by kernel_rfl) Try.underlying48 rfl
theorem ty50 : TyInfo Try.prog 50 true 2 (Try.prog.bytesOf 50) (.agg #[.string ByteArray.empty, .slice none 0 0]) := ty_mk (by kernel_rfl) Try.underlying50 rfl
theorem by50 : Try.prog.bytesOf 50 ≤ 4096 := Nat.le_of_ble_eq_true (by kernel_rfl)
theorem ty53 : TyInfo Try.prog 53 false 1 (Try.prog.bytesOf 53) (.map none) := ty_mk (by kernel_rfl) Try.underlying53 rfl
theorem ty62 : TyInfo Try.prog 62 true 3 (Try.prog.bytesOf 62) (.agg #[.int .i64 0, .int .i64 0, .string ByteArray.empty]) := ty_mk (by kernel_rfl) Try.underlying62 rfl
theorem by62 : Try.prog.bytesOf 62 ≤ 4096 := Nat.le_of_ble_eq_true (by kernel_rfl)
theorem ty63 : TyInfo Try.prog 63 false 1 (Try.prog.bytesOf 63) (.slice none 0 0) := ty_mk (by kernel_rfl) Try.underlying63 rfl
theorem ty66 : TyInfo Try.prog 66 false 1 (Try.prog.bytesOf 66) (.int .i64 0) := ty_mk (by kernel_rfl) Try.underlying66 rfl
theorem ty68 : TyInfo Try.prog 68 true 3 (Try.prog.bytesOf 68) (.agg #[.int .i64 0, .int .i64 0, .int .i64 0]) := ty_mk (by kernel_rfl) Try.underlying68 rfl
theorem ty77 : TyInfo Try.prog 77 true 2 (Try.prog.bytesOf 77) (.agg #[.string ByteArray.empty, .int .i64 0]) := ty_mk (by kernel_rfl) Try.underlying77 rfl
theorem by77 : Try.prog.bytesOf 77 ≤ 4096 := Nat.le_of_ble_eq_true (by kernel_rfl)
theorem ty93 : TyInfo Try.prog 93 false 1 (Try.prog.bytesOf 93) (.pointer none) := ty_mk (by kernel_rfl) Try.underlying93 rfl
theorem ty98 : TyInfo Try.prog 98 false 1 (Try.prog.bytesOf 98) (.map none) := ty_mk (by kernel_rfl) Try.underlying98 rfl
theorem ty99 : TyInfo Try.prog 99 false 1 (Try.prog.bytesOf 99) (.map none) := ty_mk (by kernel_rfl) Try.underlying99 rfl
theorem ty101 : TyInfo Try.prog 101 true 9 (Try.prog.bytesOf 101) (.agg #[.string ByteArray.empty, .slice none 0 0, .string ByteArray.empty, .map none, .map none, .int .i64 0, .int .i64 0, .string ByteArray.empty, .slice none 0 0]) := ty_mk (by kernel_rfl) Try.underlying101 rfl
theorem ty116 : TyInfo Try.prog 116 true 13 (Try.prog.bytesOf 116) (.agg #[.string ByteArray.empty, .string ByteArray.empty, .string ByteArray.empty, .string ByteArray.empty, .int .i64 0, .int .i64 0, .int .i64 0, .int .i64 0, .int .i64 0, .int .i64 0, .int .i64 0, .bool false, .bool false]) := ty_mk (by kernel_rfl) Try.underlying116 rfl
theorem ty127 : TyInfo Try.prog 127 false 1 (Try.prog.bytesOf 127) (.nilFunc) := ty_mk (by kernel_rfl) Try.underlying127 rfl
theorem ty128 : TyInfo Try.prog 128 false 1 (Try.prog.bytesOf 128) (.nilFunc) := ty_mk (by kernel_rfl) Try.underlying128 rfl
theorem ty130 : TyInfo Try.prog 130 true 2 (Try.prog.bytesOf 130) (.agg #[.nilFunc, .nilFunc]) := ty_mk (by kernel_rfl) Try.underlying130 rfl
theorem ty145 : TyInfo Try.prog 145 false 1 (Try.prog.bytesOf 145) (.nilFunc) := ty_mk (by kernel_rfl) Try.underlying145 rfl
theorem eq31 {w : World} (a0 b0 : Int) (a1 b1 : Int) : (Op.equalIn (9999 + 1) 31 (.agg #[.int .i64 a0, .int .i64 a1]) (.agg #[.int .i64 b0, .int .i64 b1])).run Try.prog w = .ok (decide (a0 = b0) && (decide (a1 = b1) && true)) w :=
  equalIn_struct Try.underlying31 (by kernel_rfl) (eqFields_step rfl (part1 ty3 rfl) (part1 ty3 rfl) (eqInt Try.underlying3) (eqFields_step rfl (part1 ty3 rfl) (part1 ty3 rfl) (eqInt Try.underlying3) eqFields_nil))
theorem eq62 {w : World} (a0 b0 : Int) (a1 b1 : Int) (a2 b2 : ByteArray) : (Op.equalIn (9999 + 1) 62 (.agg #[.int .i64 a0, .int .i64 a1, .string a2]) (.agg #[.int .i64 b0, .int .i64 b1, .string b2])).run Try.prog w = .ok (decide (a0 = b0) && (decide (a1 = b1) && (decide (a2 = b2) && true))) w :=
  equalIn_struct Try.underlying62 (by kernel_rfl) (eqFields_step rfl (part1 ty3 rfl) (part1 ty3 rfl) (eqInt Try.underlying3) (eqFields_step rfl (part1 ty3 rfl) (part1 ty3 rfl) (eqInt Try.underlying3) (eqFields_step rfl (part1 ty9 rfl) (part1 ty9 rfl) (eqString Try.underlying9) eqFields_nil)))
theorem eq68 {w : World} (a0 b0 : Int) (a1 b1 : Int) (a2 b2 : Int) : (Op.equalIn (9999 + 1) 68 (.agg #[.int .i64 a0, .int .i64 a1, .int .i64 a2]) (.agg #[.int .i64 b0, .int .i64 b1, .int .i64 b2])).run Try.prog w = .ok (decide (a0 = b0) && (decide (a1 = b1) && (decide (a2 = b2) && true))) w :=
  equalIn_struct Try.underlying68 (by kernel_rfl) (eqFields_step rfl (part1 ty3 rfl) (part1 ty3 rfl) (eqInt Try.underlying3) (eqFields_step rfl (part1 ty3 rfl) (part1 ty3 rfl) (eqInt Try.underlying3) (eqFields_step rfl (part1 ty66 rfl) (part1 ty66 rfl) (eqInt Try.underlying66) eqFields_nil)))
theorem eq77 {w : World} (a0 b0 : ByteArray) (a1 b1 : Int) : (Op.equalIn (9999 + 1) 77 (.agg #[.string a0, .int .i64 a1]) (.agg #[.string b0, .int .i64 b1])).run Try.prog w = .ok (decide (a0 = b0) && (decide (a1 = b1) && true)) w :=
  equalIn_struct Try.underlying77 (by kernel_rfl) (eqFields_step rfl (part1 ty9 rfl) (part1 ty9 rfl) (eqString Try.underlying9) (eqFields_step rfl (part1 ty3 rfl) (part1 ty3 rfl) (eqInt Try.underlying3) eqFields_nil))
theorem eq116 {w : World} (a0 b0 : ByteArray) (a1 b1 : ByteArray) (a2 b2 : ByteArray) (a3 b3 : ByteArray) (a4 b4 : Int) (a5 b5 : Int) (a6 b6 : Int) (a7 b7 : Int) (a8 b8 : Int) (a9 b9 : Int) (a10 b10 : Int) (a11 b11 : Bool) (a12 b12 : Bool) : (Op.equalIn (9999 + 1) 116 (.agg #[.string a0, .string a1, .string a2, .string a3, .int .i64 a4, .int .i64 a5, .int .i64 a6, .int .i64 a7, .int .i64 a8, .int .i64 a9, .int .i64 a10, .bool a11, .bool a12]) (.agg #[.string b0, .string b1, .string b2, .string b3, .int .i64 b4, .int .i64 b5, .int .i64 b6, .int .i64 b7, .int .i64 b8, .int .i64 b9, .int .i64 b10, .bool b11, .bool b12])).run Try.prog w = .ok (decide (a0 = b0) && (decide (a1 = b1) && (decide (a2 = b2) && (decide (a3 = b3) && (decide (a4 = b4) && (decide (a5 = b5) && (decide (a6 = b6) && (decide (a7 = b7) && (decide (a8 = b8) && (decide (a9 = b9) && (decide (a10 = b10) && (decide (a11 = b11) && (decide (a12 = b12) && true))))))))))))) w :=
  equalIn_struct Try.underlying116 (by kernel_rfl) (eqFields_step rfl (part1 ty9 rfl) (part1 ty9 rfl) (eqString Try.underlying9) (eqFields_step rfl (part1 ty9 rfl) (part1 ty9 rfl) (eqString Try.underlying9) (eqFields_step rfl (part1 ty9 rfl) (part1 ty9 rfl) (eqString Try.underlying9) (eqFields_step rfl (part1 ty9 rfl) (part1 ty9 rfl) (eqString Try.underlying9) (eqFields_step rfl (part1 ty22 rfl) (part1 ty22 rfl) (eqInt Try.underlying22) (eqFields_step rfl (part1 ty3 rfl) (part1 ty3 rfl) (eqInt Try.underlying3) (eqFields_step rfl (part1 ty3 rfl) (part1 ty3 rfl) (eqInt Try.underlying3) (eqFields_step rfl (part1 ty3 rfl) (part1 ty3 rfl) (eqInt Try.underlying3) (eqFields_step rfl (part1 ty3 rfl) (part1 ty3 rfl) (eqInt Try.underlying3) (eqFields_step rfl (part1 ty3 rfl) (part1 ty3 rfl) (eqInt Try.underlying3) (eqFields_step rfl (part1 ty3 rfl) (part1 ty3 rfl) (eqInt Try.underlying3) (eqFields_step rfl (part1 ty4 rfl) (part1 ty4 rfl) (eqBool Try.underlying4) (eqFields_step rfl (part1 ty4 rfl) (part1 ty4 rfl) (eqBool Try.underlying4) eqFields_nil)))))))))))))
section
variable {QP : List PanicEntry → World → Prop} {w : World} {k : Value → World → Prop}
theorem o0 : (∀ b o, opV Try.prog (Instr.loadAt 3 (.pointer (some ⟨b, o, none⟩))) QP w k = onCell (w.cell? ⟨b, o, none⟩) (fun v => k v w) (opVx Try.prog (Instr.loadAt 3 (.pointer (some ⟨b, o, none⟩))) QP w k)) := (op_loadC ty3)
theorem o1 : (∀ u, opV Try.prog (Instr.alloc 3 true u) QP w k = k (.pointer (some ⟨w.heap.size, 0, none⟩)) (w.alloc (.cells ((.int .i64 0) : Value).cells 3))) := (op_alloc ty3)
theorem o2 : (∀ b o, opV Try.prog (Instr.loadAt 4 (.pointer (some ⟨b, o, none⟩))) QP w k = onCell (w.cell? ⟨b, o, none⟩) (fun v => k v w) (opVx Try.prog (Instr.loadAt 4 (.pointer (some ⟨b, o, none⟩))) QP w k)) := (op_loadC ty4)
theorem o3 : (∀ c a b, opV Try.prog (binS .eql 4 c (.bool a) (.bool b)) QP w k = k (.bool (a == b)) w) := (op_beql Try.underlying4)
theorem o4 : (∀ c a b, opV Try.prog (binS .neq 4 c (.bool a) (.bool b)) QP w k = k (.bool (a != b)) w) := (op_bneq Try.underlying4)
theorem o5 : (∀ u, opV Try.prog (Instr.alloc 4 true u) QP w k = k (.pointer (some ⟨w.heap.size, 0, none⟩)) (w.alloc (.cells ((.bool false) : Value).cells 4))) := (op_alloc ty4)
theorem o6 : (∀ b o, opV Try.prog (Instr.loadAt 5 (.pointer (some ⟨b, o, none⟩))) QP w k = onCell (w.cell? ⟨b, o, none⟩) (fun v => k v w) (opVx Try.prog (Instr.loadAt 5 (.pointer (some ⟨b, o, none⟩))) QP w k)) := (op_loadC ty5)
theorem o7 : (∀ b o, opV Try.prog (Instr.loadAt 9 (.pointer (some ⟨b, o, none⟩))) QP w k = onCell (w.cell? ⟨b, o, none⟩) (fun v => k v w) (opVx Try.prog (Instr.loadAt 9 (.pointer (some ⟨b, o, none⟩))) QP w k)) := (op_loadC ty9)
theorem o8 : (∀ r s, opV Try.prog (Builtin.len_ #[9] r #[.string s]) QP w k = k (.int .i64 (s.size : Int)) w) := (fun r => op_len_string (r := r) Try.underlying9)
theorem o9 : (∀ b o, opV Try.prog (Instr.loadAt 22 (.pointer (some ⟨b, o, none⟩))) QP w k = onCell (w.cell? ⟨b, o, none⟩) (fun v => k v w) (opVx Try.prog (Instr.loadAt 22 (.pointer (some ⟨b, o, none⟩))) QP w k)) := (op_loadC ty22)
theorem o10 : (∀ b o, opV Try.prog (Instr.loadAt 23 (.pointer (some ⟨b, o, none⟩))) QP w k = onCell (w.cell? ⟨b, o, none⟩) (fun v => k v w) (opVx Try.prog (Instr.loadAt 23 (.pointer (some ⟨b, o, none⟩))) QP w k)) := (op_loadC ty23)
theorem o11 : (∀ r a n c, opV Try.prog (Builtin.len_ #[23] r #[.slice a n c]) QP w k = k (.int .i64 (n : Int)) w) := (fun r => op_len_slice (r := r) Try.underlying23)
theorem o12 : (∀ b o len cap ik (i : Nat), i < len → opV Try.prog (Instr.indexAt 23 (.slice (some ⟨b, o, none⟩) len cap) (.int ik (i : Int))) QP w k = k (.pointer (some ⟨b, o + i * 2, none⟩)) w) := (op_indexN Try.underlying23 ty77)
theorem o13 : (∀ u, opV Try.prog (Instr.alloc 23 true u) QP w k = k (.pointer (some ⟨w.heap.size, 0, none⟩)) (w.alloc (.cells ((.slice none 0 0) : Value).cells 23))) := (op_alloc ty23)
theorem o14 : (∀ b o, opV Try.prog (Instr.fieldAt 25 (.pointer (some ⟨b, o, none⟩)) 0) QP w k = k (.pointer (some ⟨b, o, none⟩)) w) := (by intro b o; exact op_field0 (ft := 3) (n := 1) Try.underlying25 rfl ty3 rfl b o)
theorem o15 : (∀ b o, opV Try.prog (Instr.fieldAt 25 (.pointer (some ⟨b, o, none⟩)) 1) QP w k = k (.pointer (some ⟨b, o + 1, none⟩)) w) := (by intro b o; exact op_fieldO (ft := 23) (n := 1) Try.underlying25 rfl ty23 rfl b o)
theorem o16 : (∀ b o, opV Try.prog (Instr.loadAt 25 (.pointer (some ⟨b, o, none⟩))) QP w k = onCells [w.cell? ⟨b, o, none⟩, w.cell? ⟨b, o + 1, none⟩] (fun vs => k (.agg vs.toArray) w) (opVx Try.prog (Instr.loadAt 25 (.pointer (some ⟨b, o, none⟩))) QP w k)) := (by intro b o; exact op_loadA ty25 b o _ rfl)
theorem o17 : (∀ b o, opV Try.prog (Instr.loadAt 26 (.pointer (some ⟨b, o, none⟩))) QP w k = onCell (w.cell? ⟨b, o, none⟩) (fun v => k v w) (opVx Try.prog (Instr.loadAt 26 (.pointer (some ⟨b, o, none⟩))) QP w k)) := (op_loadC ty26)
theorem o18 : (∀ r a n c, opV Try.prog (Builtin.len_ #[26] r #[.slice a n c]) QP w k = k (.int .i64 (n : Int)) w) := (fun r => op_len_slice (r := r) Try.underlying26)
theorem o19 : (∀ b o len cap ik (i : Nat), i < len → opV Try.prog (Instr.indexAt 26 (.slice (some ⟨b, o, none⟩) len cap) (.int ik (i : Int))) QP w k = k (.pointer (some ⟨b, o + i * 3, none⟩)) w) := (op_indexN Try.underlying26 ty62)
theorem o20 : (∀ b o, opV Try.prog (Instr.fieldAt 28 (.pointer (some ⟨b, o, none⟩)) 0) QP w k = k (.pointer (some ⟨b, o, none⟩)) w) := (by intro b o; exact op_field0 (ft := 9) (n := 1) Try.underlying28 rfl ty9 rfl b o)
theorem o21 : (∀ b o, opV Try.prog (Instr.fieldAt 28 (.pointer (some ⟨b, o, none⟩)) 1) QP w k = k (.pointer (some ⟨b, o + 1, none⟩)) w) := (by intro b o; exact op_fieldO (ft := 22) (n := 1) Try.underlying28 rfl ty22 rfl b o)
theorem o22 : (∀ b o, opV Try.prog (Instr.fieldAt 28 (.pointer (some ⟨b, o, none⟩)) 2) QP w k = k (.pointer (some ⟨b, o + 2, none⟩)) w) := (by intro b o; exact op_fieldO (ft := 3) (n := 1) Try.underlying28 rfl ty3 rfl b o)
theorem o23 : (∀ b o, opV Try.prog (Instr.fieldAt 28 (.pointer (some ⟨b, o, none⟩)) 3) QP w k = k (.pointer (some ⟨b, o + 3, none⟩)) w) := (by intro b o; exact op_fieldO (ft := 4) (n := 1) Try.underlying28 rfl ty4 rfl b o)
theorem o24 : (∀ b o, opV Try.prog (Instr.fieldAt 28 (.pointer (some ⟨b, o, none⟩)) 4) QP w k = k (.pointer (some ⟨b, o + 4, none⟩)) w) := (by intro b o; exact op_fieldO (ft := 4) (n := 1) Try.underlying28 rfl ty4 rfl b o)
theorem o25 : (∀ b o, opV Try.prog (Instr.fieldAt 28 (.pointer (some ⟨b, o, none⟩)) 5) QP w k = k (.pointer (some ⟨b, o + 5, none⟩)) w) := (by intro b o; exact op_fieldO (ft := 3) (n := 1) Try.underlying28 rfl ty3 rfl b o)
theorem o26 : (∀ b o, opV Try.prog (Instr.fieldAt 28 (.pointer (some ⟨b, o, none⟩)) 6) QP w k = k (.pointer (some ⟨b, o + 6, none⟩)) w) := (by intro b o; exact op_fieldO (ft := 3) (n := 1) Try.underlying28 rfl ty3 rfl b o)
theorem o27 : (∀ b o, opV Try.prog (Instr.fieldAt 28 (.pointer (some ⟨b, o, none⟩)) 7) QP w k = k (.pointer (some ⟨b, o + 7, none⟩)) w) := (by intro b o; exact op_fieldO (ft := 25) (n := 2) Try.underlying28 rfl ty25 rfl b o)
theorem o28 : (∀ b o, opV Try.prog (Instr.fieldAt 28 (.pointer (some ⟨b, o, none⟩)) 8) QP w k = k (.pointer (some ⟨b, o + 9, none⟩)) w) := (by intro b o; exact op_fieldO (ft := 9) (n := 1) Try.underlying28 rfl ty9 rfl b o)
theorem o29 : (∀ b o, opV Try.prog (Instr.fieldAt 28 (.pointer (some ⟨b, o, none⟩)) 9) QP w k = k (.pointer (some ⟨b, o + 10, none⟩)) w) := (by intro b o; exact op_fieldO (ft := 9) (n := 1) Try.underlying28 rfl ty9 rfl b o)
theorem o30 : (∀ b o, opV Try.prog (Instr.fieldAt 28 (.pointer (some ⟨b, o, none⟩)) 10) QP w k = k (.pointer (some ⟨b, o + 11, none⟩)) w) := (by intro b o; exact op_fieldO (ft := 9) (n := 1) Try.underlying28 rfl ty9 rfl b o)
theorem o31 : (∀ b o, opV Try.prog (Instr.fieldAt 28 (.pointer (some ⟨b, o, none⟩)) 11) QP w k = k (.pointer (some ⟨b, o + 12, none⟩)) w) := (by intro b o; exact op_fieldO (ft := 26) (n := 1) Try.underlying28 rfl ty26 rfl b o)
theorem o32 : (∀ b o, opV Try.prog (Instr.fieldAt 28 (.pointer (some ⟨b, o, none⟩)) 12) QP w k = k (.pointer (some ⟨b, o + 13, none⟩)) w) := (by intro b o; exact op_fieldO (ft := 3) (n := 1) Try.underlying28 rfl ty3 rfl b o)
theorem o33 : (∀ b o, opV Try.prog (Instr.fieldAt 28 (.pointer (some ⟨b, o, none⟩)) 13) QP w k = k (.pointer (some ⟨b, o + 14, none⟩)) w) := (by intro b o; exact op_fieldO (ft := 3) (n := 1) Try.underlying28 rfl ty3 rfl b o)
theorem o34 : (∀ b o, opV Try.prog (Instr.loadAt 28 (.pointer (some ⟨b, o, none⟩))) QP w k = onCells [w.cell? ⟨b, o, none⟩, w.cell? ⟨b, o + 1, none⟩, w.cell? ⟨b, o + 2, none⟩, w.cell? ⟨b, o + 3, none⟩, w.cell? ⟨b, o + 4, none⟩, w.cell? ⟨b, o + 5, none⟩, w.cell? ⟨b, o + 6, none⟩, w.cell? ⟨b, o + 7, none⟩, w.cell? ⟨b, o + 8, none⟩, w.cell? ⟨b, o + 9, none⟩, w.cell? ⟨b, o + 10, none⟩, w.cell? ⟨b, o + 11, none⟩, w.cell? ⟨b, o + 12, none⟩, w.cell? ⟨b, o + 13, none⟩, w.cell? ⟨b, o + 14, none⟩] (fun vs => k (.agg vs.toArray) w) (opVx Try.prog (Instr.loadAt 28 (.pointer (some ⟨b, o, none⟩))) QP w k)) := (by intro b o; exact op_loadA ty28 b o _ rfl)
theorem o35 : (∀ u, opV Try.prog (Instr.alloc 28 true u) QP w k = k (.pointer (some ⟨w.heap.size, 0, none⟩)) (w.alloc (.cells ((.agg #[.string ByteArray.empty, .int .i64 0, .int .i64 0, .bool false, .bool false, .int .i64 0, .int .i64 0, .int .i64 0, .slice none 0 0, .string ByteArray.empty, .string ByteArray.empty, .string ByteArray.empty, .slice none 0 0, .int .i64 0, .int .i64 0]) : Value).cells 28))) := (op_alloc ty28)
theorem o36 : (∀ b o, opV Try.prog (Instr.fieldAt 31 (.pointer (some ⟨b, o, none⟩)) 0) QP w k = k (.pointer (some ⟨b, o, none⟩)) w) := (by intro b o; exact op_field0 (ft := 3) (n := 1) Try.underlying31 rfl ty3 rfl b o)
theorem o37 : (∀ b o, opV Try.prog (Instr.fieldAt 31 (.pointer (some ⟨b, o, none⟩)) 1) QP w k = k (.pointer (some ⟨b, o + 1, none⟩)) w) := (by intro b o; exact op_fieldO (ft := 3) (n := 1) Try.underlying31 rfl ty3 rfl b o)
theorem o38 : (∀ v0 v1, opV Try.prog (Instr.field 31 (.agg #[v0, v1]) 1) QP w k = k v1 w) := (by intro v0 v1; exact op_fieldV1 Try.underlying31 rfl ty3 rfl)
theorem o39 : (∀ b o, opV Try.prog (Instr.loadAt 31 (.pointer (some ⟨b, o, none⟩))) QP w k = onCells [w.cell? ⟨b, o, none⟩, w.cell? ⟨b, o + 1, none⟩] (fun vs => k (.agg vs.toArray) w) (opVx Try.prog (Instr.loadAt 31 (.pointer (some ⟨b, o, none⟩))) QP w k)) := (by intro b o; exact op_loadA ty31 b o _ rfl)
theorem o40 : (∀ u, opV Try.prog (Instr.alloc 31 true u) QP w k = k (.pointer (some ⟨w.heap.size, 0, none⟩)) (w.alloc (.cells ((.agg #[.int .i64 0, .int .i64 0]) : Value).cells 31))) := (op_alloc ty31)
theorem o41 : (∀ u, opV Try.prog (Instr.alloc 32 true u) QP w k = k (.pointer (some ⟨w.heap.size, 0, none⟩)) (w.alloc (.cells ((.int .i64 0) : Value).cells 32))) := (op_alloc ty32)
theorem o42 : (∀ b o, opV Try.prog (Instr.loadAt 42 (.pointer (some ⟨b, o, none⟩))) QP w k = onCell (w.cell? ⟨b, o, none⟩) (fun v => k v w) (opVx Try.prog (Instr.loadAt 42 (.pointer (some ⟨b, o, none⟩))) QP w k)) := (op_loadC ty42)
theorem o43 : (∀ r a n c, opV Try.prog (Builtin.len_ #[42] r #[.slice a n c]) QP w k = k (.int .i64 (n : Int)) w) := (fun r => op_len_slice (r := r) Try.underlying42)
theorem o44 : (∀ b o len cap ik (i : Nat), i < len → opV Try.prog (Instr.indexAt 42 (.slice (some ⟨b, o, none⟩) len cap) (.int ik (i : Int))) QP w k = k (.pointer (some ⟨b, o + i * 2, none⟩)) w) := (op_indexN Try.underlying42 ty50)
theorem o45 : (∀ b o, opV Try.prog (Instr.fieldAt 44 (.pointer (some ⟨b, o, none⟩)) 0) QP w k = k (.pointer (some ⟨b, o, none⟩)) w) := (by intro b o; exact op_field0 (ft := 9) (n := 1) Try.underlying44 rfl ty9 rfl b o)
theorem o46 : (∀ b o, opV Try.prog (Instr.fieldAt 44 (.pointer (some ⟨b, o, none⟩)) 1) QP w k = k (.pointer (some ⟨b, o + 1, none⟩)) w) := (by intro b o; exact op_fieldO (ft := 42) (n := 1) Try.underlying44 rfl ty42 rfl b o)
theorem o47 : (∀ b o, opV Try.prog (Instr.fieldAt 44 (.pointer (some ⟨b, o, none⟩)) 2) QP w k = k (.pointer (some ⟨b, o + 2, none⟩)) w) := (by intro b o; exact op_fieldO (ft := 9) (n := 1) Try.underlying44 rfl ty9 rfl b o)
theorem o48 : (∀ v0 v1 v2, opV Try.prog (Instr.field 44 (.agg #[v0, v1, v2]) 1) QP w k = k v1 w) := (by intro v0 v1 v2; exact op_fieldV1 Try.underlying44 rfl ty42 rfl)
theorem o49 : (∀ b o, opV Try.prog (Instr.loadAt 44 (.pointer (some ⟨b, o, none⟩))) QP w k = onCells [w.cell? ⟨b, o, none⟩, w.cell? ⟨b, o + 1, none⟩, w.cell? ⟨b, o + 2, none⟩] (fun vs => k (.agg vs.toArray) w) (opVx Try.prog (Instr.loadAt 44 (.pointer (some ⟨b, o, none⟩))) QP w k)) := (by intro b o; exact op_loadA ty44 b o _ rfl)
theorem o50 : (∀ u, opV Try.prog (Instr.alloc 44 true u) QP w k = k (.pointer (some ⟨w.heap.size, 0, none⟩)) (w.alloc (.cells ((.agg #[.string ByteArray.empty, .slice none 0 0, .string ByteArray.empty]) : Value).cells 44))) := (op_alloc ty44)
theorem o51 : (∀ b o, opV Try.prog (Instr.loadAt 48 (.pointer (some ⟨b, o, none⟩))) QP w k = onCell (w.cell? ⟨b, o, none⟩) (fun v => k v w) (opVx Try.prog (Instr.loadAt 48 (.pointer (some ⟨b, o, none⟩))) QP w k)) := (op_loadC ty48)
theorem o52 : (∀ r a n c, opV Try.prog (Builtin.len_ #[48] r #[.slice a n c]) QP w k = k (.int .i64 (n : Int)) w) := (fun r => op_len_slice (r := r) Try.underlying48)
theorem o53 : (∀ b o len cap ik (i : Nat), i < len → opV Try.prog (Instr.indexAt 48 (.slice (some ⟨b, o, none⟩) len cap) (.int ik (i : Int))) QP w k = k (.pointer (some ⟨b, o + i * 15, none⟩)) w) := (op_indexN Try.underlying48 ty28)
theorem o54 : (∀ b o, opV Try.prog (Instr.fieldAt 50 (.pointer (some ⟨b, o, none⟩)) 0) QP w k = k (.pointer (some ⟨b, o, none⟩)) w) := (by intro b o; exact op_field0 (ft := 9) (n := 1) Try.underlying50 rfl ty9 rfl b o)
theorem o55 : (∀ b o, opV Try.prog (Instr.fieldAt 50 (.pointer (some ⟨b, o, none⟩)) 1) QP w k = k (.pointer (some ⟨b, o + 1, none⟩)) w) := (by intro b o; exact op_fieldO (ft := 48) (n := 1) Try.underlying50 rfl ty48 rfl b o)
theorem o56 : (∀ b o, opV Try.prog (Instr.loadAt 50 (.pointer (some ⟨b, o, none⟩))) QP w k = onCells [w.cell? ⟨b, o, none⟩, w.cell? ⟨b, o + 1, none⟩] (fun vs => k (.agg vs.toArray) w) (opVx Try.prog (Instr.loadAt 50 (.pointer (some ⟨b, o, none⟩))) QP w k)) := (by intro b o; exact op_loadA ty50 b o _ rfl)
theorem o57 : (∀ u, opV Try.prog (Instr.alloc 50 true u) QP w k = k (.pointer (some ⟨w.heap.size, 0, none⟩)) (w.alloc (.cells ((.agg #[.string ByteArray.empty, .slice none 0 0]) : Value).cells 50))) := (op_alloc ty50)
theorem o58 : (∀ b o, opV Try.prog (Instr.loadAt 53 (.pointer (some ⟨b, o, none⟩))) QP w k = onCell (w.cell? ⟨b, o, none⟩) (fun v => k v w) (opVx Try.prog (Instr.loadAt 53 (.pointer (some ⟨b, o, none⟩))) QP w k)) := (op_loadC ty53)
theorem o59 : (∀ u, opV Try.prog (Instr.alloc 53 true u) QP w k = k (.pointer (some ⟨w.heap.size, 0, none⟩)) (w.alloc (.cells ((.map none) : Value).cells 53))) := (op_alloc ty53)
theorem o60 : (∀ b o, opV Try.prog (Instr.fieldAt 62 (.pointer (some ⟨b, o, none⟩)) 0) QP w k = k (.pointer (some ⟨b, o, none⟩)) w) := (by intro b o; exact op_field0 (ft := 3) (n := 1) Try.underlying62 rfl ty3 rfl b o)
theorem o61 : (∀ b o, opV Try.prog (Instr.fieldAt 62 (.pointer (some ⟨b, o, none⟩)) 1) QP w k = k (.pointer (some ⟨b, o + 1, none⟩)) w) := (by intro b o; exact op_fieldO (ft := 3) (n := 1) Try.underlying62 rfl ty3 rfl b o)
theorem o62 : (∀ b o, opV Try.prog (Instr.fieldAt 62 (.pointer (some ⟨b, o, none⟩)) 2) QP w k = k (.pointer (some ⟨b, o + 2, none⟩)) w) := (by intro b o; exact op_fieldO (ft := 9) (n := 1) Try.underlying62 rfl ty9 rfl b o)
theorem o63 : (∀ b o, opV Try.prog (Instr.loadAt 62 (.pointer (some ⟨b, o, none⟩))) QP w k = onCells [w.cell? ⟨b, o, none⟩, w.cell? ⟨b, o + 1, none⟩, w.cell? ⟨b, o + 2, none⟩] (fun vs => k (.agg vs.toArray) w) (opVx Try.prog (Instr.loadAt 62 (.pointer (some ⟨b, o, none⟩))) QP w k)) := (by intro b o; exact op_loadA ty62 b o _ rfl)
theorem o64 : (∀ u, opV Try.prog (Instr.alloc 62 true u) QP w k = k (.pointer (some ⟨w.heap.size, 0, none⟩)) (w.alloc (.cells ((.agg #[.int .i64 0, .int .i64 0, .string ByteArray.empty]) : Value).cells 62))) := (op_alloc ty62)
theorem o65 : (∀ b o, opV Try.prog (Instr.loadAt 63 (.pointer (some ⟨b, o, none⟩))) QP w k = onCell (w.cell? ⟨b, o, none⟩) (fun v => k v w) (opVx Try.prog (Instr.loadAt 63 (.pointer (some ⟨b, o, none⟩))) QP w k)) := (op_loadC ty63)
theorem o66 : (∀ r a n c, opV Try.prog (Builtin.len_ #[63] r #[.slice a n c]) QP w k = k (.int .i64 (n : Int)) w) := (fun r => op_len_slice (r := r) Try.underlying63)
theorem o67 : (∀ b o len cap ik (i : Nat), i < len → opV Try.prog (Instr.indexAt 63 (.slice (some ⟨b, o, none⟩) len cap) (.int ik (i : Int))) QP w k = k (.pointer (some ⟨b, o + i * 1, none⟩)) w) := (op_indexN Try.underlying63 ty9)
theorem o68 : (∀ u, opV Try.prog (Instr.alloc 63 true u) QP w k = k (.pointer (some ⟨w.heap.size, 0, none⟩)) (w.alloc (.cells ((.slice none 0 0) : Value).cells 63))) := (op_alloc ty63)
theorem o69 : (∀ b o, opV Try.prog (Instr.fieldAt 68 (.pointer (some ⟨b, o, none⟩)) 0) QP w k = k (.pointer (some ⟨b, o, none⟩)) w) := (by intro b o; exact op_field0 (ft := 3) (n := 1) Try.underlying68 rfl ty3 rfl b o)
theorem o70 : (∀ b o, opV Try.prog (Instr.loadAt 68 (.pointer (some ⟨b, o, none⟩))) QP w k = onCells [w.cell? ⟨b, o, none⟩, w.cell? ⟨b, o + 1, none⟩, w.cell? ⟨b, o + 2, none⟩] (fun vs => k (.agg vs.toArray) w) (opVx Try.prog (Instr.loadAt 68 (.pointer (some ⟨b, o, none⟩))) QP w k)) := (by intro b o; exact op_loadA ty68 b o _ rfl)
theorem o71 : (∀ u, opV Try.prog (Instr.alloc 68 true u) QP w k = k (.pointer (some ⟨w.heap.size, 0, none⟩)) (w.alloc (.cells ((.agg #[.int .i64 0, .int .i64 0, .int .i64 0]) : Value).cells 68))) := (op_alloc ty68)
theorem o72 : (∀ b o, opV Try.prog (Instr.fieldAt 77 (.pointer (some ⟨b, o, none⟩)) 0) QP w k = k (.pointer (some ⟨b, o, none⟩)) w) := (by intro b o; exact op_field0 (ft := 9) (n := 1) Try.underlying77 rfl ty9 rfl b o)
theorem o73 : (∀ b o, opV Try.prog (Instr.fieldAt 77 (.pointer (some ⟨b, o, none⟩)) 1) QP w k = k (.pointer (some ⟨b, o + 1, none⟩)) w) := (by intro b o; exact op_fieldO (ft := 3) (n := 1) Try.underlying77 rfl ty3 rfl b o)
theorem o74 : (∀ b o, opV Try.prog (Instr.loadAt 77 (.pointer (some ⟨b, o, none⟩))) QP w k = onCells [w.cell? ⟨b, o, none⟩, w.cell? ⟨b, o + 1, none⟩] (fun vs => k (.agg vs.toArray) w) (opVx Try.prog (Instr.loadAt 77 (.pointer (some ⟨b, o, none⟩))) QP w k)) := (by intro b o; exact op_loadA ty77 b o _ rfl)
theorem o75 : (∀ u, opV Try.prog (Instr.alloc 77 true u) QP w k = k (.pointer (some ⟨w.heap.size, 0, none⟩)) (w.alloc (.cells ((.agg #[.string ByteArray.empty, .int .i64 0]) : Value).cells 77))) := (op_alloc ty77)
theorem o76 : (∀ b o, opV Try.prog (Instr.loadAt 93 (.pointer (some ⟨b, o, none⟩))) QP w k = onCell (w.cell? ⟨b, o, none⟩) (fun v => k v w) (opVx Try.prog (Instr.loadAt 93 (.pointer (some ⟨b, o, none⟩))) QP w k)) := (op_loadC ty93)
theorem o77 : (∀ b o, opV Try.prog (Instr.loadAt 98 (.pointer (some ⟨b, o, none⟩))) QP w k = onCell (w.cell? ⟨b, o, none⟩) (fun v => k v w) (opVx Try.prog (Instr.loadAt 98 (.pointer (some ⟨b, o, none⟩))) QP w k)) := (op_loadC ty98)
theorem o78 : (∀ b o, opV Try.prog (Instr.loadAt 99 (.pointer (some ⟨b, o, none⟩))) QP w k = onCell (w.cell? ⟨b, o, none⟩) (fun v => k v w) (opVx Try.prog (Instr.loadAt 99 (.pointer (some ⟨b, o, none⟩))) QP w k)) := (op_loadC ty99)
theorem o79 : (∀ u, opV Try.prog (Instr.alloc 99 true u) QP w k = k (.pointer (some ⟨w.heap.size, 0, none⟩)) (w.alloc (.cells ((.map none) : Value).cells 99))) := (op_alloc ty99)
theorem o80 : (∀ b o, opV Try.prog (Instr.fieldAt 101 (.pointer (some ⟨b, o, none⟩)) 1) QP w k = k (.pointer (some ⟨b, o + 3, none⟩)) w) := (by intro b o; exact op_fieldO (ft := 98) (n := 1) Try.underlying101 rfl ty98 rfl b o)
theorem o81 : (∀ b o, opV Try.prog (Instr.fieldAt 101 (.pointer (some ⟨b, o, none⟩)) 2) QP w k = k (.pointer (some ⟨b, o + 4, none⟩)) w) := (by intro b o; exact op_fieldO (ft := 99) (n := 1) Try.underlying101 rfl ty99 rfl b o)
theorem o82 : (∀ b o, opV Try.prog (Instr.fieldAt 101 (.pointer (some ⟨b, o, none⟩)) 3) QP w k = k (.pointer (some ⟨b, o + 5, none⟩)) w) := (by intro b o; exact op_fieldO (ft := 3) (n := 1) Try.underlying101 rfl ty3 rfl b o)
theorem o83 : (∀ b o, opV Try.prog (Instr.fieldAt 101 (.pointer (some ⟨b, o, none⟩)) 4) QP w k = k (.pointer (some ⟨b, o + 6, none⟩)) w) := (by intro b o; exact op_fieldO (ft := 3) (n := 1) Try.underlying101 rfl ty3 rfl b o)
theorem o84 : (∀ b o, opV Try.prog (Instr.fieldAt 101 (.pointer (some ⟨b, o, none⟩)) 5) QP w k = k (.pointer (some ⟨b, o + 7, none⟩)) w) := (by intro b o; exact op_fieldO (ft := 50) (n := 2) Try.underlying101 rfl ty50 rfl b o)
theorem o85 : (∀ u, opV Try.prog (Instr.alloc 116 true u) QP w k = k (.pointer (some ⟨w.heap.size, 0, none⟩)) (w.alloc (.cells ((.agg #[.string ByteArray.empty, .string ByteArray.empty, .string ByteArray.empty, .string ByteArray.empty, .int .i64 0, .int .i64 0, .int .i64 0, .int .i64 0, .int .i64 0, .int .i64 0, .int .i64 0, .bool false, .bool false]) : Value).cells 116))) := (op_alloc ty116)
theorem o86 : (∀ r a n c, opV Try.prog (Builtin.len_ #[121] r #[.slice a n c]) QP w k = k (.int .i64 (n : Int)) w) := (fun r => op_len_slice (r := r) Try.underlying121)
theorem o87 : (∀ b o len cap ik (i : Nat), i < len → opV Try.prog (Instr.indexAt 121 (.slice (some ⟨b, o, none⟩) len cap) (.int ik (i : Int))) QP w k = k (.pointer (some ⟨b, o + i * 1, none⟩)) w) := (op_indexN Try.underlying121 ty5)
theorem o88 : (∀ r a n c, opV Try.prog (Builtin.len_ #[123] r #[.slice a n c]) QP w k = k (.int .i64 (n : Int)) w) := (fun r => op_len_slice (r := r) Try.underlying123)
theorem o89 : (∀ b o len cap ik (i : Nat), i < len → opV Try.prog (Instr.indexAt 123 (.slice (some ⟨b, o, none⟩) len cap) (.int ik (i : Int))) QP w k = k (.pointer (some ⟨b, o + i * 1, none⟩)) w) := (op_indexN Try.underlying123 ty4)
theorem o90 : (∀ b o, opV Try.prog (Instr.loadAt 127 (.pointer (some ⟨b, o, none⟩))) QP w k = onCell (w.cell? ⟨b, o, none⟩) (fun v => k v w) (opVx Try.prog (Instr.loadAt 127 (.pointer (some ⟨b, o, none⟩))) QP w k)) := (op_loadC ty127)
theorem o91 : (∀ b o, opV Try.prog (Instr.loadAt 128 (.pointer (some ⟨b, o, none⟩))) QP w k = onCell (w.cell? ⟨b, o, none⟩) (fun v => k v w) (opVx Try.prog (Instr.loadAt 128 (.pointer (some ⟨b, o, none⟩))) QP w k)) := (op_loadC ty128)
theorem o92 : (∀ b o, opV Try.prog (Instr.fieldAt 130 (.pointer (some ⟨b, o, none⟩)) 0) QP w k = k (.pointer (some ⟨b, o, none⟩)) w) := (by intro b o; exact op_field0 (ft := 127) (n := 1) Try.underlying130 rfl ty127 rfl b o)
theorem o93 : (∀ b o, opV Try.prog (Instr.fieldAt 130 (.pointer (some ⟨b, o, none⟩)) 1) QP w k = k (.pointer (some ⟨b, o + 1, none⟩)) w) := (by intro b o; exact op_fieldO (ft := 128) (n := 1) Try.underlying130 rfl ty128 rfl b o)
theorem o94 : (∀ u, opV Try.prog (Instr.alloc 130 true u) QP w k = k (.pointer (some ⟨w.heap.size, 0, none⟩)) (w.alloc (.cells ((.agg #[.nilFunc, .nilFunc]) : Value).cells 130))) := (op_alloc ty130)
theorem o95 : (∀ r a n c, opV Try.prog (Builtin.len_ #[137] r #[.slice a n c]) QP w k = k (.int .i64 (n : Int)) w) := (fun r => op_len_slice (r := r) Try.underlying137)
theorem o96 : (∀ b o len cap ik (i : Nat), i < len → opV Try.prog (Instr.indexAt 137 (.slice (some ⟨b, o, none⟩) len cap) (.int ik (i : Int))) QP w k = k (.pointer (some ⟨b, o + i * 1, none⟩)) w) := (op_indexN Try.underlying137 ty3)
theorem o97 : (∀ b o, opV Try.prog (Instr.loadAt 145 (.pointer (some ⟨b, o, none⟩))) QP w k = onCell (w.cell? ⟨b, o, none⟩) (fun v => k v w) (opVx Try.prog (Instr.loadAt 145 (.pointer (some ⟨b, o, none⟩))) QP w k)) := (op_loadC ty145)
theorem o98 : (opV Try.prog (Instr.build 25 #[]) QP w k = k (.agg #[.int .i64 0, .slice none 0 0]) w) := (by exact op_build (places := #[(0, 1), (1, 1)]) Try.underlying25 ty25 (by intro w; simp [List.mapM_cons, Sem.run_bind, Sw.run_sizeOf ty23, Sw.run_sizeOf ty3]) (by simp [Instr.fill, cells_agg]))
theorem o99 : (∀ v1 : Value, v1.oneCell' = true → opV Try.prog (Instr.build 25 #[(1, v1)]) QP w k = k (.agg #[.int .i64 0, v1]) w) := (by intro v1 hv1; exact op_build (places := #[(0, 1), (1, 1)]) Try.underlying25 ty25 (by intro w; simp [List.mapM_cons, Sem.run_bind, Sw.run_sizeOf ty23, Sw.run_sizeOf ty3]) (by simp [Instr.fill, cells_agg, cells_one hv1]))
theorem o100 : (∀ v0 v1 : Value, v0.oneCell' = true → v1.oneCell' = true → opV Try.prog (Instr.build 28 #[(0, v0), (1, v1)]) QP w k = k (.agg #[v0, v1, .int .i64 0, .bool false, .bool false, .int .i64 0, .int .i64 0, .int .i64 0, .slice none 0 0, .string ByteArray.empty, .string ByteArray.empty, .string ByteArray.empty, .slice none 0 0, .int .i64 0, .int .i64 0]) w) := (by intro v0 v1 hv0 hv1; exact op_build (places := #[(0, 1), (1, 1), (2, 1), (3, 1), (4, 1), (5, 1), (6, 1), (7, 2), (9, 1), (10, 1), (11, 1), (12, 1), (13, 1), (14, 1)]) Try.underlying28 ty28 (by intro w; simp [List.mapM_cons, Sem.run_bind, Sw.run_sizeOf ty22, Sw.run_sizeOf ty25, Sw.run_sizeOf ty26, Sw.run_sizeOf ty3, Sw.run_sizeOf ty4, Sw.run_sizeOf ty9]) (by simp [Instr.fill, cells_agg, cells_one hv0, cells_one hv1]))
theorem o101 : (∀ v0 v1 v2 v6 : Value, v0.oneCell' = true → v1.oneCell' = true → v2.oneCell' = true → v6.oneCell' = true → opV Try.prog (Instr.build 28 #[(0, v0), (1, v1), (2, v2), (6, v6)]) QP w k = k (.agg #[v0, v1, v2, .bool false, .bool false, .int .i64 0, v6, .int .i64 0, .slice none 0 0, .string ByteArray.empty, .string ByteArray.empty, .string ByteArray.empty, .slice none 0 0, .int .i64 0, .int .i64 0]) w) := (by intro v0 v1 v2 v6 hv0 hv1 hv2 hv6; exact op_build (places := #[(0, 1), (1, 1), (2, 1), (3, 1), (4, 1), (5, 1), (6, 1), (7, 2), (9, 1), (10, 1), (11, 1), (12, 1), (13, 1), (14, 1)]) Try.underlying28 ty28 (by intro w; simp [List.mapM_cons, Sem.run_bind, Sw.run_sizeOf ty22, Sw.run_sizeOf ty25, Sw.run_sizeOf ty26, Sw.run_sizeOf ty3, Sw.run_sizeOf ty4, Sw.run_sizeOf ty9]) (by simp [Instr.fill, cells_agg, cells_one hv0, cells_one hv1, cells_one hv2, cells_one hv6]))
theorem o102 : (∀ v0 v1 v7_0 v7_1 : Value, v0.oneCell' = true → v1.oneCell' = true → opV Try.prog (Instr.build 28 #[(0, v0), (1, v1), (7, (.agg #[v7_0, v7_1]))]) QP w k = k (.agg #[v0, v1, .int .i64 0, .bool false, .bool false, .int .i64 0, .int .i64 0, v7_0, v7_1, .string ByteArray.empty, .string ByteArray.empty, .string ByteArray.empty, .slice none 0 0, .int .i64 0, .int .i64 0]) w) := (by intro v0 v1 v7_0 v7_1 hv0 hv1; exact op_build (places := #[(0, 1), (1, 1), (2, 1), (3, 1), (4, 1), (5, 1), (6, 1), (7, 2), (9, 1), (10, 1), (11, 1), (12, 1), (13, 1), (14, 1)]) Try.underlying28 ty28 (by intro w; simp [List.mapM_cons, Sem.run_bind, Sw.run_sizeOf ty22, Sw.run_sizeOf ty25, Sw.run_sizeOf ty26, Sw.run_sizeOf ty3, Sw.run_sizeOf ty4, Sw.run_sizeOf ty9]) (by simp [Instr.fill, cells_agg, cells_one hv0, cells_one hv1]))
theorem o103 : (∀ v0 v1 v8 : Value, v0.oneCell' = true → v1.oneCell' = true → v8.oneCell' = true → opV Try.prog (Instr.build 28 #[(0, v0), (1, v1), (8, v8)]) QP w k = k (.agg #[v0, v1, .int .i64 0, .bool false, .bool false, .int .i64 0, .int .i64 0, .int .i64 0, .slice none 0 0, v8, .string ByteArray.empty, .string ByteArray.empty, .slice none 0 0, .int .i64 0, .int .i64 0]) w) := (by intro v0 v1 v8 hv0 hv1 hv8; exact op_build (places := #[(0, 1), (1, 1), (2, 1), (3, 1), (4, 1), (5, 1), (6, 1), (7, 2), (9, 1), (10, 1), (11, 1), (12, 1), (13, 1), (14, 1)]) Try.underlying28 ty28 (by intro w; simp [List.mapM_cons, Sem.run_bind, Sw.run_sizeOf ty22, Sw.run_sizeOf ty25, Sw.run_sizeOf ty26, Sw.run_sizeOf ty3, Sw.run_sizeOf ty4, Sw.run_sizeOf ty9]) (by simp [Instr.fill, cells_agg, cells_one hv0, cells_one hv1, cells_one hv8]))
theorem o104 : (∀ v1 : Value, v1.oneCell' = true → opV Try.prog (Instr.build 28 #[(1, v1)]) QP w k = k (.agg #[.string ByteArray.empty, v1, .int .i64 0, .bool false, .bool false, .int .i64 0, .int .i64 0, .int .i64 0, .slice none 0 0, .string ByteArray.empty, .string ByteArray.empty, .string ByteArray.empty, .slice none 0 0, .int .i64 0, .int .i64 0]) w) := (by intro v1 hv1; exact op_build (places := #[(0, 1), (1, 1), (2, 1), (3, 1), (4, 1), (5, 1), (6, 1), (7, 2), (9, 1), (10, 1), (11, 1), (12, 1), (13, 1), (14, 1)]) Try.underlying28 ty28 (by intro w; simp [List.mapM_cons, Sem.run_bind, Sw.run_sizeOf ty22, Sw.run_sizeOf ty25, Sw.run_sizeOf ty26, Sw.run_sizeOf ty3, Sw.run_sizeOf ty4, Sw.run_sizeOf ty9]) (by simp [Instr.fill, cells_agg, cells_one hv1]))
theorem o105 : (opV Try.prog (Instr.build 31 #[]) QP w k = k (.agg #[.int .i64 0, .int .i64 0]) w) := (by exact op_build (places := #[(0, 1), (1, 1)]) Try.underlying31 ty31 (by intro w; simp [List.mapM_cons, Sem.run_bind, Sw.run_sizeOf ty3]) (by simp [Instr.fill, cells_agg]))
theorem o106 : (∀ v0 v1 : Value, v0.oneCell' = true → v1.oneCell' = true → opV Try.prog (Instr.build 31 #[(0, v0), (1, v1)]) QP w k = k (.agg #[v0, v1]) w) := (by intro v0 v1 hv0 hv1; exact op_build (places := #[(0, 1), (1, 1)]) Try.underlying31 ty31 (by intro w; simp [List.mapM_cons, Sem.run_bind, Sw.run_sizeOf ty3]) (by simp [Instr.fill, cells_agg, cells_one hv0, cells_one hv1]))
theorem o107 : (∀ v1 : Value, v1.oneCell' = true → opV Try.prog (Instr.build 31 #[(1, v1)]) QP w k = k (.agg #[.int .i64 0, v1]) w) := (by intro v1 hv1; exact op_build (places := #[(0, 1), (1, 1)]) Try.underlying31 ty31 (by intro w; simp [List.mapM_cons, Sem.run_bind, Sw.run_sizeOf ty3]) (by simp [Instr.fill, cells_agg, cells_one hv1]))
theorem o108 : (∀ v0 v2 v1 : Value, v0.oneCell' = true → v2.oneCell' = true → v1.oneCell' = true → opV Try.prog (Instr.build 44 #[(0, v0), (2, v2), (1, v1)]) QP w k = k (.agg #[v0, v1, v2]) w) := (by intro v0 v2 v1 hv0 hv2 hv1; exact op_build (places := #[(0, 1), (1, 1), (2, 1)]) Try.underlying44 ty44 (by intro w; simp [List.mapM_cons, Sem.run_bind, Sw.run_sizeOf ty42, Sw.run_sizeOf ty9]) (by simp [Instr.fill, cells_agg, cells_one hv0, cells_one hv2, cells_one hv1]))
theorem o109 : (∀ v1 : Value, v1.oneCell' = true → opV Try.prog (Instr.build 44 #[(1, v1)]) QP w k = k (.agg #[.string ByteArray.empty, v1, .string ByteArray.empty]) w) := (by intro v1 hv1; exact op_build (places := #[(0, 1), (1, 1), (2, 1)]) Try.underlying44 ty44 (by intro w; simp [List.mapM_cons, Sem.run_bind, Sw.run_sizeOf ty42, Sw.run_sizeOf ty9]) (by simp [Instr.fill, cells_agg, cells_one hv1]))
theorem o110 : (∀ v0 v1 : Value, v0.oneCell' = true → v1.oneCell' = true → opV Try.prog (Instr.build 50 #[(0, v0), (1, v1)]) QP w k = k (.agg #[v0, v1]) w) := (by intro v0 v1 hv0 hv1; exact op_build (places := #[(0, 1), (1, 1)]) Try.underlying50 ty50 (by intro w; simp [List.mapM_cons, Sem.run_bind, Sw.run_sizeOf ty48, Sw.run_sizeOf ty9]) (by simp [Instr.fill, cells_agg, cells_one hv0, cells_one hv1]))
theorem o111 : (∀ v1 : Value, v1.oneCell' = true → opV Try.prog (Instr.build 50 #[(1, v1)]) QP w k = k (.agg #[.string ByteArray.empty, v1]) w) := (by intro v1 hv1; exact op_build (places := #[(0, 1), (1, 1)]) Try.underlying50 ty50 (by intro w; simp [List.mapM_cons, Sem.run_bind, Sw.run_sizeOf ty48, Sw.run_sizeOf ty9]) (by simp [Instr.fill, cells_agg, cells_one hv1]))
theorem o112 : (opV Try.prog (Instr.build 68 #[]) QP w k = k (.agg #[.int .i64 0, .int .i64 0, .int .i64 0]) w) := (by exact op_build (places := #[(0, 1), (1, 1), (2, 1)]) Try.underlying68 ty68 (by intro w; simp [List.mapM_cons, Sem.run_bind, Sw.run_sizeOf ty3, Sw.run_sizeOf ty66]) (by simp [Instr.fill, cells_agg]))
theorem o113 : (∀ v0 v1 v2 : Value, v0.oneCell' = true → v1.oneCell' = true → v2.oneCell' = true → opV Try.prog (Instr.build 68 #[(0, v0), (1, v1), (2, v2)]) QP w k = k (.agg #[v0, v1, v2]) w) := (by intro v0 v1 v2 hv0 hv1 hv2; exact op_build (places := #[(0, 1), (1, 1), (2, 1)]) Try.underlying68 ty68 (by intro w; simp [List.mapM_cons, Sem.run_bind, Sw.run_sizeOf ty3, Sw.run_sizeOf ty66]) (by simp [Instr.fill, cells_agg, cells_one hv0, cells_one hv1, cells_one hv2]))
theorem o114 : (∀ v0 v1 : Value, v0.oneCell' = true → v1.oneCell' = true → opV Try.prog (Instr.build 77 #[(0, v0), (1, v1)]) QP w k = k (.agg #[v0, v1]) w) := (by intro v0 v1 hv0 hv1; exact op_build (places := #[(0, 1), (1, 1)]) Try.underlying77 ty77 (by intro w; simp [List.mapM_cons, Sem.run_bind, Sw.run_sizeOf ty3, Sw.run_sizeOf ty9]) (by simp [Instr.fill, cells_agg, cells_one hv0, cells_one hv1]))
theorem o115 : (∀ v0_0 v0_1 v0_2 v1 v2 v3 v4 : Value, v1.oneCell' = true → v2.oneCell' = true → v3.oneCell' = true → v4.oneCell' = true → opV Try.prog (Instr.build 101 #[(0, (.agg #[v0_0, v0_1, v0_2])), (1, v1), (2, v2), (3, v3), (4, v4)]) QP w k = k (.agg #[v0_0, v0_1, v0_2, v1, v2, v3, v4, .string ByteArray.empty, .slice none 0 0]) w) := (by intro v0_0 v0_1 v0_2 v1 v2 v3 v4 hv1 hv2 hv3 hv4; exact op_build (places := #[(0, 3), (3, 1), (4, 1), (5, 1), (6, 1), (7, 2)]) Try.underlying101 ty101 (by intro w; simp [List.mapM_cons, Sem.run_bind, Sw.run_sizeOf ty3, Sw.run_sizeOf ty44, Sw.run_sizeOf ty50, Sw.run_sizeOf ty98, Sw.run_sizeOf ty99]) (by simp [Instr.fill, cells_agg, cells_one hv1, cells_one hv2, cells_one hv3, cells_one hv4]))
theorem o116 : (∀ v0 v1 v2 v3 v4 v5 v6 v7 v8 v9 v10 v11 v12 : Value, v0.oneCell' = true → v1.oneCell' = true → v2.oneCell' = true → v3.oneCell' = true → v4.oneCell' = true → v5.oneCell' = true → v6.oneCell' = true → v7.oneCell' = true → v8.oneCell' = true → v9.oneCell' = true → v10.oneCell' = true → v11.oneCell' = true → v12.oneCell' = true → opV Try.prog (Instr.build 116 #[(0, v0), (1, v1), (2, v2), (3, v3), (4, v4), (5, v5), (6, v6), (7, v7), (8, v8), (9, v9), (10, v10), (11, v11), (12, v12)]) QP w k = k (.agg #[v0, v1, v2, v3, v4, v5, v6, v7, v8, v9, v10, v11, v12]) w) := (by intro v0 v1 v2 v3 v4 v5 v6 v7 v8 v9 v10 v11 v12 hv0 hv1 hv2 hv3 hv4 hv5 hv6 hv7 hv8 hv9 hv10 hv11 hv12; exact op_build (places := #[(0, 1), (1, 1), (2, 1), (3, 1), (4, 1), (5, 1), (6, 1), (7, 1), (8, 1), (9, 1), (10, 1), (11, 1), (12, 1)]) Try.underlying116 ty116 (by intro w; simp [List.mapM_cons, Sem.run_bind, Sw.run_sizeOf ty22, Sw.run_sizeOf ty3, Sw.run_sizeOf ty4, Sw.run_sizeOf ty9]) (by simp [Instr.fill, cells_agg, cells_one hv0, cells_one hv1, cells_one hv2, cells_one hv3, cells_one hv4, cells_one hv5, cells_one hv6, cells_one hv7, cells_one hv8, cells_one hv9, cells_one hv10, cells_one hv11, cells_one hv12]))
theorem o117 : (∀ v0 v1 : Value, v0.oneCell' = true → v1.oneCell' = true → opV Try.prog (Instr.build 130 #[(0, v0), (1, v1)]) QP w k = k (.agg #[v0, v1]) w) := (by intro v0 v1 hv0 hv1; exact op_build (places := #[(0, 1), (1, 1)]) Try.underlying130 ty130 (by intro w; simp [List.mapM_cons, Sem.run_bind, Sw.run_sizeOf ty127, Sw.run_sizeOf ty128]) (by simp [Instr.fill, cells_agg, cells_one hv0, cells_one hv1]))
theorem o118 : (opV Try.prog (Instr.buildSlice 23 0 #[]) QP w k = k (.slice (some ⟨w.heap.size, 0, none⟩) 0 0) (w.alloc (.cells #[] 77))) := (by exact op_buildSlice Try.underlying23 ty77 (by decide) (base := #[]) (by kernel_rfl) (by simp [Instr.fill, cells_agg]))
theorem o119 : (∀ v0_0 v0_1 : Value, opV Try.prog (Instr.buildSlice 23 1 #[(0, (.agg #[v0_0, v0_1]))]) QP w k = k (.slice (some ⟨w.heap.size, 0, none⟩) 1 1) (w.alloc (.cells #[v0_0, v0_1] 77))) := (by intro v0_0 v0_1; exact op_buildSlice Try.underlying23 ty77 (by decide) (base := #[.string ByteArray.empty, .int .i64 0]) (by kernel_rfl) (by simp [Instr.fill, cells_agg]))
theorem o120 : (opV Try.prog (Instr.buildSlice 26 0 #[]) QP w k = k (.slice (some ⟨w.heap.size, 0, none⟩) 0 0) (w.alloc (.cells #[] 62))) := (by exact op_buildSlice Try.underlying26 ty62 (by decide) (base := #[]) (by kernel_rfl) (by simp [Instr.fill, cells_agg]))
theorem o121 : (opV Try.prog (Instr.buildSlice 42 0 #[]) QP w k = k (.slice (some ⟨w.heap.size, 0, none⟩) 0 0) (w.alloc (.cells #[] 50))) := (by exact op_buildSlice Try.underlying42 ty50 (by decide) (base := #[]) (by kernel_rfl) (by simp [Instr.fill, cells_agg]))
theorem o122 : (∀ v0_0 v0_1 : Value, opV Try.prog (Instr.buildSlice 42 1 #[(0, (.agg #[v0_0, v0_1]))]) QP w k = k (.slice (some ⟨w.heap.size, 0, none⟩) 1 1) (w.alloc (.cells #[v0_0, v0_1] 50))) := (by intro v0_0 v0_1; exact op_buildSlice Try.underlying42 ty50 (by decide) (base := #[.string ByteArray.empty, .slice none 0 0]) (by kernel_rfl) (by simp [Instr.fill, cells_agg]))
theorem o123 : (opV Try.prog (Instr.buildSlice 48 0 #[]) QP w k = k (.slice (some ⟨w.heap.size, 0, none⟩) 0 0) (w.alloc (.cells #[] 28))) := (by exact op_buildSlice Try.underlying48 ty28 (by decide) (base := #[]) (by kernel_rfl) (by simp [Instr.fill, cells_agg]))
theorem o124 : (∀ v0_0 v0_1 v0_2 v0_3 v0_4 v0_5 v0_6 v0_7 v0_8 v0_9 v0_10 v0_11 v0_12 v0_13 v0_14 : Value, opV Try.prog (Instr.buildSlice 48 1 #[(0, (.agg #[v0_0, v0_1, v0_2, v0_3, v0_4, v0_5, v0_6, v0_7, v0_8, v0_9, v0_10, v0_11, v0_12, v0_13, v0_14]))]) QP w k = k (.slice (some ⟨w.heap.size, 0, none⟩) 1 1) (w.alloc (.cells #[v0_0, v0_1, v0_2, v0_3, v0_4, v0_5, v0_6, v0_7, v0_8, v0_9, v0_10, v0_11, v0_12, v0_13, v0_14] 28))) := (by intro v0_0 v0_1 v0_2 v0_3 v0_4 v0_5 v0_6 v0_7 v0_8 v0_9 v0_10 v0_11 v0_12 v0_13 v0_14; exact op_buildSlice Try.underlying48 ty28 (by decide) (base := #[.string ByteArray.empty, .int .i64 0, .int .i64 0, .bool false, .bool false, .int .i64 0, .int .i64 0, .int .i64 0, .slice none 0 0, .string ByteArray.empty, .string ByteArray.empty, .string ByteArray.empty, .slice none 0 0, .int .i64 0, .int .i64 0]) (by kernel_rfl) (by simp [Instr.fill, cells_agg]))
theorem o125 : (∀ v0_0 v0_1 v0_2 v0_3 v0_4 v0_5 v0_6 v0_7 v0_8 v0_9 v0_10 v0_11 v0_12 v0_13 v0_14 v1_0 v1_1 v1_2 v1_3 v1_4 v1_5 v1_6 v1_7 v1_8 v1_9 v1_10 v1_11 v1_12 v1_13 v1_14 : Value, opV Try.prog (Instr.buildSlice 48 2 #[(0, (.agg #[v0_0, v0_1, v0_2, v0_3, v0_4, v0_5, v0_6, v0_7, v0_8, v0_9, v0_10, v0_11, v0_12, v0_13, v0_14])), (1, (.agg #[v1_0, v1_1, v1_2, v1_3, v1_4, v1_5, v1_6, v1_7, v1_8, v1_9, v1_10, v1_11, v1_12, v1_13, v1_14]))]) QP w k = k (.slice (some ⟨w.heap.size, 0, none⟩) 2 2) (w.alloc (.cells #[v0_0, v0_1, v0_2, v0_3, v0_4, v0_5, v0_6, v0_7, v0_8, v0_9, v0_10, v0_11, v0_12, v0_13, v0_14, v1_0, v1_1, v1_2, v1_3, v1_4, v1_5, v1_6, v1_7, v1_8, v1_9, v1_10, v1_11, v1_12, v1_13, v1_14] 28))) := (by intro v0_0 v0_1 v0_2 v0_3 v0_4 v0_5 v0_6 v0_7 v0_8 v0_9 v0_10 v0_11 v0_12 v0_13 v0_14 v1_0 v1_1 v1_2 v1_3 v1_4 v1_5 v1_6 v1_7 v1_8 v1_9 v1_10 v1_11 v1_12 v1_13 v1_14; exact op_buildSlice Try.underlying48 ty28 (by decide) (base := #[.string ByteArray.empty, .int .i64 0, .int .i64 0, .bool false, .bool false, .int .i64 0, .int .i64 0, .int .i64 0, .slice none 0 0, .string ByteArray.empty, .string ByteArray.empty, .string ByteArray.empty, .slice none 0 0, .int .i64 0, .int .i64 0, .string ByteArray.empty, .int .i64 0, .int .i64 0, .bool false, .bool false, .int .i64 0, .int .i64 0, .int .i64 0, .slice none 0 0, .string ByteArray.empty, .string ByteArray.empty, .string ByteArray.empty, .slice none 0 0, .int .i64 0, .int .i64 0]) (by kernel_rfl) (by simp [Instr.fill, cells_agg]))
theorem o126 : (∀ v0 : Value, v0.oneCell' = true → opV Try.prog (Instr.buildSlice 63 1 #[(0, v0)]) QP w k = k (.slice (some ⟨w.heap.size, 0, none⟩) 1 1) (w.alloc (.cells #[v0] 9))) := (by intro v0 hv0; exact op_buildSlice Try.underlying63 ty9 (by decide) (base := #[.string ByteArray.empty]) (by kernel_rfl) (by simp [Instr.fill, cells_agg, cells_one hv0]))
theorem o127 : (∀ v0 v1 : Value, v0.oneCell' = true → v1.oneCell' = true → opV Try.prog (Instr.buildSlice 123 2 #[(0, v0), (1, v1)]) QP w k = k (.slice (some ⟨w.heap.size, 0, none⟩) 2 2) (w.alloc (.cells #[v0, v1] 4))) := (by intro v0 v1 hv0 hv1; exact op_buildSlice Try.underlying123 ty4 (by decide) (base := #[.bool false, .bool false]) (by kernel_rfl) (by simp [Instr.fill, cells_agg, cells_one hv0, cells_one hv1]))
theorem o128 : (∀ v0 v1 v2 : Value, v0.oneCell' = true → v1.oneCell' = true → v2.oneCell' = true → opV Try.prog (Instr.buildSlice 123 3 #[(0, v0), (1, v1), (2, v2)]) QP w k = k (.slice (some ⟨w.heap.size, 0, none⟩) 3 3) (w.alloc (.cells #[v0, v1, v2] 4))) := (by intro v0 v1 v2 hv0 hv1 hv2; exact op_buildSlice Try.underlying123 ty4 (by decide) (base := #[.bool false, .bool false, .bool false]) (by kernel_rfl) (by simp [Instr.fill, cells_agg, cells_one hv0, cells_one hv1, cells_one hv2]))
theorem o129 : (∀ v0 : Value, v0.oneCell' = true → opV Try.prog (Instr.buildSlice 137 1 #[(0, v0)]) QP w k = k (.slice (some ⟨w.heap.size, 0, none⟩) 1 1) (w.alloc (.cells #[v0] 3))) := (by intro v0 hv0; exact op_buildSlice Try.underlying137 ty3 (by decide) (base := #[.int .i64 0]) (by kernel_rfl) (by simp [Instr.fill, cells_agg, cells_one hv0]))
theorem o130 : (∀ v0 v1 : Value, v0.oneCell' = true → v1.oneCell' = true → opV Try.prog (Instr.buildSlice 137 2 #[(0, v0), (1, v1)]) QP w k = k (.slice (some ⟨w.heap.size, 0, none⟩) 2 2) (w.alloc (.cells #[v0, v1] 3))) := (by intro v0 v1 hv0 hv1; exact op_buildSlice Try.underlying137 ty3 (by decide) (base := #[.int .i64 0, .int .i64 0]) (by kernel_rfl) (by simp [Instr.fill, cells_agg, cells_one hv0, cells_one hv1]))
theorem o131 : (∀ q n, opV Try.prog (Go.convert 5 3 (.int q n)) QP w k = k (.int .i64 (IntKind.i64.wrap n)) w) := (op_convInt (by rw [Try.underlying5]; rfl) Try.underlying3)
theorem o132 : (∀ v, opV Try.prog (Instr.makeInterface 68 v) QP w k = k (.iface 68 v) w) := (op_iface Try.underlying68 rfl)
theorem o133 : (∀ v, opV Try.prog (Instr.typeAssert (.iface 68 v) 20 68 true) QP w k = k (.tuple #[v, .bool true]) w) := (op_assert_ok Try.underlying68 rfl)
theorem o134 : (∀ d v, opV Try.prog (binS .neq 20 true (.iface d v) .nilIface) QP w k = k (.bool true) w) := (op_neqNil_some Try.underlying20)
theorem o135 : (opV Try.prog (binS .neq 20 true .nilIface .nilIface) QP w k = k (.bool false) w) := (op_neqNil_none Try.underlying20)
theorem o136 : (∀ c A n m, opV Try.prog (binS .eql 23 c (.slice A n m) (.slice none 0 0)) QP w k = k (.bool A.isNone) w) := (op_eqNilS Try.underlying23)
theorem o137 : (∀ c A n m, opV Try.prog (binS .eql 26 c (.slice A n m) (.slice none 0 0)) QP w k = k (.bool A.isNone) w) := (op_eqNilS Try.underlying26)
theorem o138 : (∀ c (a0 b0 : Int) (a1 b1 : Int), opV Try.prog (binS .eql 31 c (.agg #[.int .i64 a0, .int .i64 a1]) (.agg #[.int .i64 b0, .int .i64 b1])) QP w k = k (.bool (decide (a0 = b0) && (decide (a1 = b1) && true))) w) := (by intro c a0 b0 a1 b1; exact op_aggEq (by kernel_rfl) (fun w => eq31 a0 b0 a1 b1) c)
theorem o139 : (∀ c (a0 b0 : Int) (a1 b1 : Int), opV Try.prog (binS .neq 31 c (.agg #[.int .i64 a0, .int .i64 a1]) (.agg #[.int .i64 b0, .int .i64 b1])) QP w k = k (.bool (!(decide (a0 = b0) && (decide (a1 = b1) && true)))) w) := (by intro c a0 b0 a1 b1; exact op_aggNe (by kernel_rfl) (fun w => eq31 a0 b0 a1 b1) c)
theorem o140 : (∀ c A n m, opV Try.prog (binS .eql 42 c (.slice A n m) (.slice none 0 0)) QP w k = k (.bool A.isNone) w) := (op_eqNilS Try.underlying42)
theorem o141 : (∀ c A n m, opV Try.prog (binS .eql 48 c (.slice A n m) (.slice none 0 0)) QP w k = k (.bool A.isNone) w) := (op_eqNilS Try.underlying48)
theorem o142 : (∀ c f x y, opV Try.prog (binS .neq 59 c (.func f x y) .nilFunc) QP w k = k (.bool true) w) := (op_neqNilF Try.underlying59)
theorem o143 : (∀ c f x y, opV Try.prog (binS .eql 59 c (.func f x y) .nilFunc) QP w k = k (.bool false) w) := (op_eqNilF Try.underlying59)
theorem o144 : (∀ c (a0 b0 : Int) (a1 b1 : Int) (a2 b2 : ByteArray), opV Try.prog (binS .eql 62 c (.agg #[.int .i64 a0, .int .i64 a1, .string a2]) (.agg #[.int .i64 b0, .int .i64 b1, .string b2])) QP w k = k (.bool (decide (a0 = b0) && (decide (a1 = b1) && (decide (a2 = b2) && true)))) w) := (by intro c a0 b0 a1 b1 a2 b2; exact op_aggEq (by kernel_rfl) (fun w => eq62 a0 b0 a1 b1 a2 b2) c)
theorem o145 : (∀ c (a0 b0 : Int) (a1 b1 : Int) (a2 b2 : ByteArray), opV Try.prog (binS .neq 62 c (.agg #[.int .i64 a0, .int .i64 a1, .string a2]) (.agg #[.int .i64 b0, .int .i64 b1, .string b2])) QP w k = k (.bool (!(decide (a0 = b0) && (decide (a1 = b1) && (decide (a2 = b2) && true))))) w) := (by intro c a0 b0 a1 b1 a2 b2; exact op_aggNe (by kernel_rfl) (fun w => eq62 a0 b0 a1 b1 a2 b2) c)
theorem o146 : (∀ c (a0 b0 : Int) (a1 b1 : Int) (a2 b2 : Int), opV Try.prog (binS .eql 68 c (.agg #[.int .i64 a0, .int .i64 a1, .int .i64 a2]) (.agg #[.int .i64 b0, .int .i64 b1, .int .i64 b2])) QP w k = k (.bool (decide (a0 = b0) && (decide (a1 = b1) && (decide (a2 = b2) && true)))) w) := (by intro c a0 b0 a1 b1 a2 b2; exact op_aggEq (by kernel_rfl) (fun w => eq68 a0 b0 a1 b1 a2 b2) c)
theorem o147 : (∀ c (a0 b0 : Int) (a1 b1 : Int) (a2 b2 : Int), opV Try.prog (binS .neq 68 c (.agg #[.int .i64 a0, .int .i64 a1, .int .i64 a2]) (.agg #[.int .i64 b0, .int .i64 b1, .int .i64 b2])) QP w k = k (.bool (!(decide (a0 = b0) && (decide (a1 = b1) && (decide (a2 = b2) && true))))) w) := (by intro c a0 b0 a1 b1 a2 b2; exact op_aggNe (by kernel_rfl) (fun w => eq68 a0 b0 a1 b1 a2 b2) c)
theorem o148 : (∀ c (a0 b0 : ByteArray) (a1 b1 : Int), opV Try.prog (binS .eql 77 c (.agg #[.string a0, .int .i64 a1]) (.agg #[.string b0, .int .i64 b1])) QP w k = k (.bool (decide (a0 = b0) && (decide (a1 = b1) && true))) w) := (by intro c a0 b0 a1 b1; exact op_aggEq (by kernel_rfl) (fun w => eq77 a0 b0 a1 b1) c)
theorem o149 : (∀ c (a0 b0 : ByteArray) (a1 b1 : Int), opV Try.prog (binS .neq 77 c (.agg #[.string a0, .int .i64 a1]) (.agg #[.string b0, .int .i64 b1])) QP w k = k (.bool (!(decide (a0 = b0) && (decide (a1 = b1) && true)))) w) := (by intro c a0 b0 a1 b1; exact op_aggNe (by kernel_rfl) (fun w => eq77 a0 b0 a1 b1) c)
theorem o150 : (∀ c (a0 b0 : ByteArray) (a1 b1 : ByteArray) (a2 b2 : ByteArray) (a3 b3 : ByteArray) (a4 b4 : Int) (a5 b5 : Int) (a6 b6 : Int) (a7 b7 : Int) (a8 b8 : Int) (a9 b9 : Int) (a10 b10 : Int) (a11 b11 : Bool) (a12 b12 : Bool), opV Try.prog (binS .eql 116 c (.agg #[.string a0, .string a1, .string a2, .string a3, .int .i64 a4, .int .i64 a5, .int .i64 a6, .int .i64 a7, .int .i64 a8, .int .i64 a9, .int .i64 a10, .bool a11, .bool a12]) (.agg #[.string b0, .string b1, .string b2, .string b3, .int .i64 b4, .int .i64 b5, .int .i64 b6, .int .i64 b7, .int .i64 b8, .int .i64 b9, .int .i64 b10, .bool b11, .bool b12])) QP w k = k (.bool (decide (a0 = b0) && (decide (a1 = b1) && (decide (a2 = b2) && (decide (a3 = b3) && (decide (a4 = b4) && (decide (a5 = b5) && (decide (a6 = b6) && (decide (a7 = b7) && (decide (a8 = b8) && (decide (a9 = b9) && (decide (a10 = b10) && (decide (a11 = b11) && (decide (a12 = b12) && true)))))))))))))) w) := (by intro c a0 b0 a1 b1 a2 b2 a3 b3 a4 b4 a5 b5 a6 b6 a7 b7 a8 b8 a9 b9 a10 b10 a11 b11 a12 b12; exact op_aggEq (by kernel_rfl) (fun w => eq116 a0 b0 a1 b1 a2 b2 a3 b3 a4 b4 a5 b5 a6 b6 a7 b7 a8 b8 a9 b9 a10 b10 a11 b11 a12 b12) c)
theorem o151 : (∀ c (a0 b0 : ByteArray) (a1 b1 : ByteArray) (a2 b2 : ByteArray) (a3 b3 : ByteArray) (a4 b4 : Int) (a5 b5 : Int) (a6 b6 : Int) (a7 b7 : Int) (a8 b8 : Int) (a9 b9 : Int) (a10 b10 : Int) (a11 b11 : Bool) (a12 b12 : Bool), opV Try.prog (binS .neq 116 c (.agg #[.string a0, .string a1, .string a2, .string a3, .int .i64 a4, .int .i64 a5, .int .i64 a6, .int .i64 a7, .int .i64 a8, .int .i64 a9, .int .i64 a10, .bool a11, .bool a12]) (.agg #[.string b0, .string b1, .string b2, .string b3, .int .i64 b4, .int .i64 b5, .int .i64 b6, .int .i64 b7, .int .i64 b8, .int .i64 b9, .int .i64 b10, .bool b11, .bool b12])) QP w k = k (.bool (!(decide (a0 = b0) && (decide (a1 = b1) && (decide (a2 = b2) && (decide (a3 = b3) && (decide (a4 = b4) && (decide (a5 = b5) && (decide (a6 = b6) && (decide (a7 = b7) && (decide (a8 = b8) && (decide (a9 = b9) && (decide (a10 = b10) && (decide (a11 = b11) && (decide (a12 = b12) && true))))))))))))))) w) := (by intro c a0 b0 a1 b1 a2 b2 a3 b3 a4 b4 a5 b5 a6 b6 a7 b7 a8 b8 a9 b9 a10 b10 a11 b11 a12 b12; exact op_aggNe (by kernel_rfl) (fun w => eq116 a0 b0 a1 b1 a2 b2 a3 b3 a4 b4 a5 b5 a6 b6 a7 b7 a8 b8 a9 b9 a10 b10 a11 b11 a12 b12) c)
end
theorem OPU0 {QP : List PanicEntry → World → Prop} {w : World} {ku : World → Prop} : (∀ b o v, v.oneCell' = true → opU Try.prog (Instr.storeAt 3 (.pointer (some ⟨b, o, none⟩)) v) QP w ku = onCell (w.cell? ⟨b, o, none⟩) (fun _ => onBool (w.frozen? ⟨b, o, none⟩) (opUx Try.prog (Instr.storeAt 3 (.pointer (some ⟨b, o, none⟩)) v) QP w ku) (ku (w.setCell ⟨b, o, none⟩ v))) (opUx Try.prog (Instr.storeAt 3 (.pointer (some ⟨b, o, none⟩)) v) QP w ku)) ∧
  (∀ b o v, v.oneCell' = true → opU Try.prog (Instr.storeAt 4 (.pointer (some ⟨b, o, none⟩)) v) QP w ku = onCell (w.cell? ⟨b, o, none⟩) (fun _ => onBool (w.frozen? ⟨b, o, none⟩) (opUx Try.prog (Instr.storeAt 4 (.pointer (some ⟨b, o, none⟩)) v) QP w ku) (ku (w.setCell ⟨b, o, none⟩ v))) (opUx Try.prog (Instr.storeAt 4 (.pointer (some ⟨b, o, none⟩)) v) QP w ku)) ∧
  (∀ b o v, v.oneCell' = true → opU Try.prog (Instr.storeAt 9 (.pointer (some ⟨b, o, none⟩)) v) QP w ku = onCell (w.cell? ⟨b, o, none⟩) (fun _ => onBool (w.frozen? ⟨b, o, none⟩) (opUx Try.prog (Instr.storeAt 9 (.pointer (some ⟨b, o, none⟩)) v) QP w ku) (ku (w.setCell ⟨b, o, none⟩ v))) (opUx Try.prog (Instr.storeAt 9 (.pointer (some ⟨b, o, none⟩)) v) QP w ku)) ∧
  (∀ b o v, v.oneCell' = true → opU Try.prog (Instr.storeAt 23 (.pointer (some ⟨b, o, none⟩)) v) QP w ku = onCell (w.cell? ⟨b, o, none⟩) (fun _ => onBool (w.frozen? ⟨b, o, none⟩) (opUx Try.prog (Instr.storeAt 23 (.pointer (some ⟨b, o, none⟩)) v) QP w ku) (ku (w.setCell ⟨b, o, none⟩ v))) (opUx Try.prog (Instr.storeAt 23 (.pointer (some ⟨b, o, none⟩)) v) QP w ku)) ∧
  (∀ (b : Nat) (T' : TypeId) u0 u1 v0 v1, b = w.heap.size → v0.oneCell' = true → v1.oneCell' = true → opU Try.prog (Instr.storeAt 25 (.pointer (some ⟨b, 0, none⟩)) (.agg #[v0, v1])) QP (w.alloc (.cells #[u0, u1] T')) ku = ku (w.alloc (.cells #[v0, v1] T'))) ∧
  (∀ b o v, v.oneCell' = true → opU Try.prog (Instr.storeAt 26 (.pointer (some ⟨b, o, none⟩)) v) QP w ku = onCell (w.cell? ⟨b, o, none⟩) (fun _ => onBool (w.frozen? ⟨b, o, none⟩) (opUx Try.prog (Instr.storeAt 26 (.pointer (some ⟨b, o, none⟩)) v) QP w ku) (ku (w.setCell ⟨b, o, none⟩ v))) (opUx Try.prog (Instr.storeAt 26 (.pointer (some ⟨b, o, none⟩)) v) QP w ku)) ∧
  (∀ (b : Nat) (T' : TypeId) u0 u1 u2 u3 u4 u5 u6 u7 u8 u9 u10 u11 u12 u13 u14 v0 v1 v2 v3 v4 v5 v6 v7 v8 v9 v10 v11 v12 v13 v14, b = w.heap.size → v0.oneCell' = true → v1.oneCell' = true → v2.oneCell' = true → v3.oneCell' = true → v4.oneCell' = true → v5.oneCell' = true → v6.oneCell' = true → v7.oneCell' = true → v8.oneCell' = true → v9.oneCell' = true → v10.oneCell' = true → v11.oneCell' = true → v12.oneCell' = true → v13.oneCell' = true → v14.oneCell' = true → opU Try.prog (Instr.storeAt 28 (.pointer (some ⟨b, 0, none⟩)) (.agg #[v0, v1, v2, v3, v4, v5, v6, v7, v8, v9, v10, v11, v12, v13, v14])) QP (w.alloc (.cells #[u0, u1, u2, u3, u4, u5, u6, u7, u8, u9, u10, u11, u12, u13, u14] T')) ku = ku (w.alloc (.cells #[v0, v1, v2, v3, v4, v5, v6, v7, v8, v9, v10, v11, v12, v13, v14] T'))) ∧
  (∀ (b : Nat) (T' : TypeId) u0 u1 v0 v1, b = w.heap.size → v0.oneCell' = true → v1.oneCell' = true → opU Try.prog (Instr.storeAt 31 (.pointer (some ⟨b, 0, none⟩)) (.agg #[v0, v1])) QP (w.alloc (.cells #[u0, u1] T')) ku = ku (w.alloc (.cells #[v0, v1] T'))) ∧
  (∀ b o v, v.oneCell' = true → opU Try.prog (Instr.storeAt 32 (.pointer (some ⟨b, o, none⟩)) v) QP w ku = onCell (w.cell? ⟨b, o, none⟩) (fun _ => onBool (w.frozen? ⟨b, o, none⟩) (opUx Try.prog (Instr.storeAt 32 (.pointer (some ⟨b, o, none⟩)) v) QP w ku) (ku (w.setCell ⟨b, o, none⟩ v))) (opUx Try.prog (Instr.storeAt 32 (.pointer (some ⟨b, o, none⟩)) v) QP w ku)) ∧
  (∀ b o v, v.oneCell' = true → opU Try.prog (Instr.storeAt 42 (.pointer (some ⟨b, o, none⟩)) v) QP w ku = onCell (w.cell? ⟨b, o, none⟩) (fun _ => onBool (w.frozen? ⟨b, o, none⟩) (opUx Try.prog (Instr.storeAt 42 (.pointer (some ⟨b, o, none⟩)) v) QP w ku) (ku (w.setCell ⟨b, o, none⟩ v))) (opUx Try.prog (Instr.storeAt 42 (.pointer (some ⟨b, o, none⟩)) v) QP w ku)) ∧
  (∀ (b : Nat) (T' : TypeId) u0 u1 u2 v0 v1 v2, b = w.heap.size → v0.oneCell' = true → v1.oneCell' = true → v2.oneCell' = true → opU Try.prog (Instr.storeAt 44 (.pointer (some ⟨b, 0, none⟩)) (.agg #[v0, v1, v2])) QP (w.alloc (.cells #[u0, u1, u2] T')) ku = ku (w.alloc (.cells #[v0, v1, v2] T'))) ∧
  (∀ b o v, v.oneCell' = true → opU Try.prog (Instr.storeAt 48 (.pointer (some ⟨b, o, none⟩)) v) QP w ku = onCell (w.cell? ⟨b, o, none⟩) (fun _ => onBool (w.frozen? ⟨b, o, none⟩) (opUx Try.prog (Instr.storeAt 48 (.pointer (some ⟨b, o, none⟩)) v) QP w ku) (ku (w.setCell ⟨b, o, none⟩ v))) (opUx Try.prog (Instr.storeAt 48 (.pointer (some ⟨b, o, none⟩)) v) QP w ku)) ∧
  (∀ (b : Nat) (T' : TypeId) u0 u1 v0 v1, b = w.heap.size → v0.oneCell' = true → v1.oneCell' = true → opU Try.prog (Instr.storeAt 50 (.pointer (some ⟨b, 0, none⟩)) (.agg #[v0, v1])) QP (w.alloc (.cells #[u0, u1] T')) ku = ku (w.alloc (.cells #[v0, v1] T'))) ∧
  (∀ b o v, v.oneCell' = true → opU Try.prog (Instr.storeAt 53 (.pointer (some ⟨b, o, none⟩)) v) QP w ku = onCell (w.cell? ⟨b, o, none⟩) (fun _ => onBool (w.frozen? ⟨b, o, none⟩) (opUx Try.prog (Instr.storeAt 53 (.pointer (some ⟨b, o, none⟩)) v) QP w ku) (ku (w.setCell ⟨b, o, none⟩ v))) (opUx Try.prog (Instr.storeAt 53 (.pointer (some ⟨b, o, none⟩)) v) QP w ku)) ∧
  (∀ (b : Nat) (T' : TypeId) u0 u1 u2 v0 v1 v2, b = w.heap.size → v0.oneCell' = true → v1.oneCell' = true → v2.oneCell' = true → opU Try.prog (Instr.storeAt 62 (.pointer (some ⟨b, 0, none⟩)) (.agg #[v0, v1, v2])) QP (w.alloc (.cells #[u0, u1, u2] T')) ku = ku (w.alloc (.cells #[v0, v1, v2] T'))) ∧
  (∀ b o v, v.oneCell' = true → opU Try.prog (Instr.storeAt 63 (.pointer (some ⟨b, o, none⟩)) v) QP w ku = onCell (w.cell? ⟨b, o, none⟩) (fun _ => onBool (w.frozen? ⟨b, o, none⟩) (opUx Try.prog (Instr.storeAt 63 (.pointer (some ⟨b, o, none⟩)) v) QP w ku) (ku (w.setCell ⟨b, o, none⟩ v))) (opUx Try.prog (Instr.storeAt 63 (.pointer (some ⟨b, o, none⟩)) v) QP w ku)) ∧
  (∀ (b : Nat) (T' : TypeId) u0 u1 u2 v0 v1 v2, b = w.heap.size → v0.oneCell' = true → v1.oneCell' = true → v2.oneCell' = true → opU Try.prog (Instr.storeAt 68 (.pointer (some ⟨b, 0, none⟩)) (.agg #[v0, v1, v2])) QP (w.alloc (.cells #[u0, u1, u2] T')) ku = ku (w.alloc (.cells #[v0, v1, v2] T'))) ∧
  (∀ (b : Nat) (T' : TypeId) u0 u1 v0 v1, b = w.heap.size → v0.oneCell' = true → v1.oneCell' = true → opU Try.prog (Instr.storeAt 77 (.pointer (some ⟨b, 0, none⟩)) (.agg #[v0, v1])) QP (w.alloc (.cells #[u0, u1] T')) ku = ku (w.alloc (.cells #[v0, v1] T'))) ∧
  (∀ b o v, v.oneCell' = true → opU Try.prog (Instr.storeAt 99 (.pointer (some ⟨b, o, none⟩)) v) QP w ku = onCell (w.cell? ⟨b, o, none⟩) (fun _ => onBool (w.frozen? ⟨b, o, none⟩) (opUx Try.prog (Instr.storeAt 99 (.pointer (some ⟨b, o, none⟩)) v) QP w ku) (ku (w.setCell ⟨b, o, none⟩ v))) (opUx Try.prog (Instr.storeAt 99 (.pointer (some ⟨b, o, none⟩)) v) QP w ku)) ∧
  (∀ (b : Nat) (T' : TypeId) u0 u1 u2 u3 u4 u5 u6 u7 u8 u9 u10 u11 u12 v0 v1 v2 v3 v4 v5 v6 v7 v8 v9 v10 v11 v12, b = w.heap.size → v0.oneCell' = true → v1.oneCell' = true → v2.oneCell' = true → v3.oneCell' = true → v4.oneCell' = true → v5.oneCell' = true → v6.oneCell' = true → v7.oneCell' = true → v8.oneCell' = true → v9.oneCell' = true → v10.oneCell' = true → v11.oneCell' = true → v12.oneCell' = true → opU Try.prog (Instr.storeAt 116 (.pointer (some ⟨b, 0, none⟩)) (.agg #[v0, v1, v2, v3, v4, v5, v6, v7, v8, v9, v10, v11, v12])) QP (w.alloc (.cells #[u0, u1, u2, u3, u4, u5, u6, u7, u8, u9, u10, u11, u12] T')) ku = ku (w.alloc (.cells #[v0, v1, v2, v3, v4, v5, v6, v7, v8, v9, v10, v11, v12] T'))) ∧
  (∀ (b : Nat) (T' : TypeId) u0 u1 v0 v1, b = w.heap.size → v0.oneCell' = true → v1.oneCell' = true → opU Try.prog (Instr.storeAt 130 (.pointer (some ⟨b, 0, none⟩)) (.agg #[v0, v1])) QP (w.alloc (.cells #[u0, u1] T')) ku = ku (w.alloc (.cells #[v0, v1] T'))) :=
  ⟨(op_storeC ty3), (op_storeC ty4), (op_storeC ty9), (op_storeC ty23), (by intro b T' u0 u1 v0 v1 hb h0 h1; exact op_storeN ty25 b hb _ T' _ rfl rfl (by intro v hv; simp only [List.mem_cons, List.not_mem_nil, or_false] at hv; rcases hv with rfl | rfl <;> assumption)), (op_storeC ty26), (by intro b T' u0 u1 u2 u3 u4 u5 u6 u7 u8 u9 u10 u11 u12 u13 u14 v0 v1 v2 v3 v4 v5 v6 v7 v8 v9 v10 v11 v12 v13 v14 hb h0 h1 h2 h3 h4 h5 h6 h7 h8 h9 h10 h11 h12 h13 h14; exact op_storeN ty28 b hb _ T' _ rfl rfl (by intro v hv; simp only [List.mem_cons, List.not_mem_nil, or_false] at hv; rcases hv with rfl | rfl | rfl | rfl | rfl | rfl | rfl | rfl | rfl | rfl | rfl | rfl | rfl | rfl | rfl <;> assumption)), (by intro b T' u0 u1 v0 v1 hb h0 h1; exact op_storeN ty31 b hb _ T' _ rfl rfl (by intro v hv; simp only [List.mem_cons, List.not_mem_nil, or_false] at hv; rcases hv with rfl | rfl <;> assumption)), (op_storeC ty32), (op_storeC ty42), (by intro b T' u0 u1 u2 v0 v1 v2 hb h0 h1 h2; exact op_storeN ty44 b hb _ T' _ rfl rfl (by intro v hv; simp only [List.mem_cons, List.not_mem_nil, or_false] at hv; rcases hv with rfl | rfl | rfl <;> assumption)), (op_storeC ty48), (by intro b T' u0 u1 v0 v1 hb h0 h1; exact op_storeN ty50 b hb _ T' _ rfl rfl (by intro v hv; simp only [List.mem_cons, List.not_mem_nil, or_false] at hv; rcases hv with rfl | rfl <;> assumption)), (op_storeC ty53), (by intro b T' u0 u1 u2 v0 v1 v2 hb h0 h1 h2; exact op_storeN ty62 b hb _ T' _ rfl rfl (by intro v hv; simp only [List.mem_cons, List.not_mem_nil, or_false] at hv; rcases hv with rfl | rfl | rfl <;> assumption)), (op_storeC ty63), (by intro b T' u0 u1 u2 v0 v1 v2 hb h0 h1 h2; exact op_storeN ty68 b hb _ T' _ rfl rfl (by intro v hv; simp only [List.mem_cons, List.not_mem_nil, or_false] at hv; rcases hv with rfl | rfl | rfl <;> assumption)), (by intro b T' u0 u1 v0 v1 hb h0 h1; exact op_storeN ty77 b hb _ T' _ rfl rfl (by intro v hv; simp only [List.mem_cons, List.not_mem_nil, or_false] at hv; rcases hv with rfl | rfl <;> assumption)), (op_storeC ty99), (by intro b T' u0 u1 u2 u3 u4 u5 u6 u7 u8 u9 u10 u11 u12 v0 v1 v2 v3 v4 v5 v6 v7 v8 v9 v10 v11 v12 hb h0 h1 h2 h3 h4 h5 h6 h7 h8 h9 h10 h11 h12; exact op_storeN ty116 b hb _ T' _ rfl rfl (by intro v hv; simp only [List.mem_cons, List.not_mem_nil, or_false] at hv; rcases hv with rfl | rfl | rfl | rfl | rfl | rfl | rfl | rfl | rfl | rfl | rfl | rfl | rfl <;> assumption)), (by intro b T' u0 u1 v0 v1 hb h0 h1; exact op_storeN ty130 b hb _ T' _ rfl rfl (by intro v hv; simp only [List.mem_cons, List.not_mem_nil, or_false] at hv; rcases hv with rfl | rfl <;> assumption))⟩
theorem OPA0 {QP : List PanicEntry → World → Prop} {w : World} {ku : World → Prop} : (∀ b o v0 v1, v0.oneCell' = true → v1.oneCell' = true → opU Try.prog (Instr.storeAt 25 (.pointer (some ⟨b, o, none⟩)) (.agg #[v0, v1])) QP w ku = onCells [w.cell? ⟨b, o, none⟩, w.cell? ⟨b, o + 1, none⟩] (fun _ => onFree [w.frozen? ⟨b, o, none⟩, w.frozen? ⟨b, o + 1, none⟩] (ku ((w.setCell ⟨b, o, none⟩ v0).setCell ⟨b, o + 1, none⟩ v1)) (opUx Try.prog (Instr.storeAt 25 (.pointer (some ⟨b, o, none⟩)) (.agg #[v0, v1])) QP w ku)) (opUx Try.prog (Instr.storeAt 25 (.pointer (some ⟨b, o, none⟩)) (.agg #[v0, v1])) QP w ku)) ∧
  (∀ b o v0 v1, v0.oneCell' = true → v1.oneCell' = true → opU Try.prog (Instr.storeAt 31 (.pointer (some ⟨b, o, none⟩)) (.agg #[v0, v1])) QP w ku = onCells [w.cell? ⟨b, o, none⟩, w.cell? ⟨b, o + 1, none⟩] (fun _ => onFree [w.frozen? ⟨b, o, none⟩, w.frozen? ⟨b, o + 1, none⟩] (ku ((w.setCell ⟨b, o, none⟩ v0).setCell ⟨b, o + 1, none⟩ v1)) (opUx Try.prog (Instr.storeAt 31 (.pointer (some ⟨b, o, none⟩)) (.agg #[v0, v1])) QP w ku)) (opUx Try.prog (Instr.storeAt 31 (.pointer (some ⟨b, o, none⟩)) (.agg #[v0, v1])) QP w ku)) ∧
  (∀ b o v0 v1 v2, v0.oneCell' = true → v1.oneCell' = true → v2.oneCell' = true → opU Try.prog (Instr.storeAt 44 (.pointer (some ⟨b, o, none⟩)) (.agg #[v0, v1, v2])) QP w ku = onCells [w.cell? ⟨b, o, none⟩, w.cell? ⟨b, o + 1, none⟩, w.cell? ⟨b, o + 2, none⟩] (fun _ => onFree [w.frozen? ⟨b, o, none⟩, w.frozen? ⟨b, o + 1, none⟩, w.frozen? ⟨b, o + 2, none⟩] (ku (((w.setCell ⟨b, o, none⟩ v0).setCell ⟨b, o + 1, none⟩ v1).setCell ⟨b, o + 2, none⟩ v2)) (opUx Try.prog (Instr.storeAt 44 (.pointer (some ⟨b, o, none⟩)) (.agg #[v0, v1, v2])) QP w ku)) (opUx Try.prog (Instr.storeAt 44 (.pointer (some ⟨b, o, none⟩)) (.agg #[v0, v1, v2])) QP w ku)) ∧
  (∀ b o v0 v1, v0.oneCell' = true → v1.oneCell' = true → opU Try.prog (Instr.storeAt 50 (.pointer (some ⟨b, o, none⟩)) (.agg #[v0, v1])) QP w ku = onCells [w.cell? ⟨b, o, none⟩, w.cell? ⟨b, o + 1, none⟩] (fun _ => onFree [w.frozen? ⟨b, o, none⟩, w.frozen? ⟨b, o + 1, none⟩] (ku ((w.setCell ⟨b, o, none⟩ v0).setCell ⟨b, o + 1, none⟩ v1)) (opUx Try.prog (Instr.storeAt 50 (.pointer (some ⟨b, o, none⟩)) (.agg #[v0, v1])) QP w ku)) (opUx Try.prog (Instr.storeAt 50 (.pointer (some ⟨b, o, none⟩)) (.agg #[v0, v1])) QP w ku)) ∧
  (∀ b o v0 v1 v2, v0.oneCell' = true → v1.oneCell' = true → v2.oneCell' = true → opU Try.prog (Instr.storeAt 62 (.pointer (some ⟨b, o, none⟩)) (.agg #[v0, v1, v2])) QP w ku = onCells [w.cell? ⟨b, o, none⟩, w.cell? ⟨b, o + 1, none⟩, w.cell? ⟨b, o + 2, none⟩] (fun _ => onFree [w.frozen? ⟨b, o, none⟩, w.frozen? ⟨b, o + 1, none⟩, w.frozen? ⟨b, o + 2, none⟩] (ku (((w.setCell ⟨b, o, none⟩ v0).setCell ⟨b, o + 1, none⟩ v1).setCell ⟨b, o + 2, none⟩ v2)) (opUx Try.prog (Instr.storeAt 62 (.pointer (some ⟨b, o, none⟩)) (.agg #[v0, v1, v2])) QP w ku)) (opUx Try.prog (Instr.storeAt 62 (.pointer (some ⟨b, o, none⟩)) (.agg #[v0, v1, v2])) QP w ku)) ∧
  (∀ b o v0 v1 v2, v0.oneCell' = true → v1.oneCell' = true → v2.oneCell' = true → opU Try.prog (Instr.storeAt 68 (.pointer (some ⟨b, o, none⟩)) (.agg #[v0, v1, v2])) QP w ku = onCells [w.cell? ⟨b, o, none⟩, w.cell? ⟨b, o + 1, none⟩, w.cell? ⟨b, o + 2, none⟩] (fun _ => onFree [w.frozen? ⟨b, o, none⟩, w.frozen? ⟨b, o + 1, none⟩, w.frozen? ⟨b, o + 2, none⟩] (ku (((w.setCell ⟨b, o, none⟩ v0).setCell ⟨b, o + 1, none⟩ v1).setCell ⟨b, o + 2, none⟩ v2)) (opUx Try.prog (Instr.storeAt 68 (.pointer (some ⟨b, o, none⟩)) (.agg #[v0, v1, v2])) QP w ku)) (opUx Try.prog (Instr.storeAt 68 (.pointer (some ⟨b, o, none⟩)) (.agg #[v0, v1, v2])) QP w ku)) ∧
  (∀ b o v0 v1, v0.oneCell' = true → v1.oneCell' = true → opU Try.prog (Instr.storeAt 77 (.pointer (some ⟨b, o, none⟩)) (.agg #[v0, v1])) QP w ku = onCells [w.cell? ⟨b, o, none⟩, w.cell? ⟨b, o + 1, none⟩] (fun _ => onFree [w.frozen? ⟨b, o, none⟩, w.frozen? ⟨b, o + 1, none⟩] (ku ((w.setCell ⟨b, o, none⟩ v0).setCell ⟨b, o + 1, none⟩ v1)) (opUx Try.prog (Instr.storeAt 77 (.pointer (some ⟨b, o, none⟩)) (.agg #[v0, v1])) QP w ku)) (opUx Try.prog (Instr.storeAt 77 (.pointer (some ⟨b, o, none⟩)) (.agg #[v0, v1])) QP w ku)) ∧
  (∀ b o v0 v1, v0.oneCell' = true → v1.oneCell' = true → opU Try.prog (Instr.storeAt 130 (.pointer (some ⟨b, o, none⟩)) (.agg #[v0, v1])) QP w ku = onCells [w.cell? ⟨b, o, none⟩, w.cell? ⟨b, o + 1, none⟩] (fun _ => onFree [w.frozen? ⟨b, o, none⟩, w.frozen? ⟨b, o + 1, none⟩] (ku ((w.setCell ⟨b, o, none⟩ v0).setCell ⟨b, o + 1, none⟩ v1)) (opUx Try.prog (Instr.storeAt 130 (.pointer (some ⟨b, o, none⟩)) (.agg #[v0, v1])) QP w ku)) (opUx Try.prog (Instr.storeAt 130 (.pointer (some ⟨b, o, none⟩)) (.agg #[v0, v1])) QP w ku)) :=
  ⟨(by intro b o v0 v1 h0 h1; exact op_storeA ty25 b o _ rfl (by intro v hv; simp only [List.mem_cons, List.not_mem_nil, or_false] at hv; rcases hv with rfl | rfl <;> assumption) _ rfl _ rfl), (by intro b o v0 v1 h0 h1; exact op_storeA ty31 b o _ rfl (by intro v hv; simp only [List.mem_cons, List.not_mem_nil, or_false] at hv; rcases hv with rfl | rfl <;> assumption) _ rfl _ rfl), (by intro b o v0 v1 v2 h0 h1 h2; exact op_storeA ty44 b o _ rfl (by intro v hv; simp only [List.mem_cons, List.not_mem_nil, or_false] at hv; rcases hv with rfl | rfl | rfl <;> assumption) _ rfl _ rfl), (by intro b o v0 v1 h0 h1; exact op_storeA ty50 b o _ rfl (by intro v hv; simp only [List.mem_cons, List.not_mem_nil, or_false] at hv; rcases hv with rfl | rfl <;> assumption) _ rfl _ rfl), (by intro b o v0 v1 v2 h0 h1 h2; exact op_storeA ty62 b o _ rfl (by intro v hv; simp only [List.mem_cons, List.not_mem_nil, or_false] at hv; rcases hv with rfl | rfl | rfl <;> assumption) _ rfl _ rfl), (by intro b o v0 v1 v2 h0 h1 h2; exact op_storeA ty68 b o _ rfl (by intro v hv; simp only [List.mem_cons, List.not_mem_nil, or_false] at hv; rcases hv with rfl | rfl | rfl <;> assumption) _ rfl _ rfl), (by intro b o v0 v1 h0 h1; exact op_storeA ty77 b o _ rfl (by intro v hv; simp only [List.mem_cons, List.not_mem_nil, or_false] at hv; rcases hv with rfl | rfl <;> assumption) _ rfl _ rfl), (by intro b o v0 v1 h0 h1; exact op_storeA ty130 b o _ rfl (by intro v hv; simp only [List.mem_cons, List.not_mem_nil, or_false] at hv; rcases hv with rfl | rfl <;> assumption) _ rfl _ rfl)⟩
section
theorem OPW0 {w : World} {k : Value → Prop} : (∀ b o, qV Try.prog (EC w) (Instr.loadAt 3 (.pointer (some ⟨b, o, none⟩))) k = onCell (w.cell? ⟨b, o, none⟩) k (qVx Try.prog (EC w) (Instr.loadAt 3 (.pointer (some ⟨b, o, none⟩))) k)) ∧
  (∀ b1 b2 b o, b ≠ b1 → b ≠ b2 → qV Try.prog (KB w b1 b2) (Instr.loadAt 3 (.pointer (some ⟨b, o, none⟩))) k = onCell (w.cell? ⟨b, o, none⟩) k (qVx Try.prog (KB w b1 b2) (Instr.loadAt 3 (.pointer (some ⟨b, o, none⟩))) k)) ∧
  (∀ b o, qV Try.prog (EC w) (Instr.loadAt 4 (.pointer (some ⟨b, o, none⟩))) k = onCell (w.cell? ⟨b, o, none⟩) k (qVx Try.prog (EC w) (Instr.loadAt 4 (.pointer (some ⟨b, o, none⟩))) k)) ∧
  (∀ b1 b2 b o, b ≠ b1 → b ≠ b2 → qV Try.prog (KB w b1 b2) (Instr.loadAt 4 (.pointer (some ⟨b, o, none⟩))) k = onCell (w.cell? ⟨b, o, none⟩) k (qVx Try.prog (KB w b1 b2) (Instr.loadAt 4 (.pointer (some ⟨b, o, none⟩))) k)) ∧
  (∀ b o, qV Try.prog (EC w) (Instr.loadAt 5 (.pointer (some ⟨b, o, none⟩))) k = onCell (w.cell? ⟨b, o, none⟩) k (qVx Try.prog (EC w) (Instr.loadAt 5 (.pointer (some ⟨b, o, none⟩))) k)) ∧
  (∀ b1 b2 b o, b ≠ b1 → b ≠ b2 → qV Try.prog (KB w b1 b2) (Instr.loadAt 5 (.pointer (some ⟨b, o, none⟩))) k = onCell (w.cell? ⟨b, o, none⟩) k (qVx Try.prog (KB w b1 b2) (Instr.loadAt 5 (.pointer (some ⟨b, o, none⟩))) k)) ∧
  (∀ b o, qV Try.prog (EC w) (Instr.loadAt 9 (.pointer (some ⟨b, o, none⟩))) k = onCell (w.cell? ⟨b, o, none⟩) k (qVx Try.prog (EC w) (Instr.loadAt 9 (.pointer (some ⟨b, o, none⟩))) k)) ∧
  (∀ b1 b2 b o, b ≠ b1 → b ≠ b2 → qV Try.prog (KB w b1 b2) (Instr.loadAt 9 (.pointer (some ⟨b, o, none⟩))) k = onCell (w.cell? ⟨b, o, none⟩) k (qVx Try.prog (KB w b1 b2) (Instr.loadAt 9 (.pointer (some ⟨b, o, none⟩))) k)) ∧
  (∀ b o, qV Try.prog (EC w) (Instr.loadAt 22 (.pointer (some ⟨b, o, none⟩))) k = onCell (w.cell? ⟨b, o, none⟩) k (qVx Try.prog (EC w) (Instr.loadAt 22 (.pointer (some ⟨b, o, none⟩))) k)) ∧
  (∀ b1 b2 b o, b ≠ b1 → b ≠ b2 → qV Try.prog (KB w b1 b2) (Instr.loadAt 22 (.pointer (some ⟨b, o, none⟩))) k = onCell (w.cell? ⟨b, o, none⟩) k (qVx Try.prog (KB w b1 b2) (Instr.loadAt 22 (.pointer (some ⟨b, o, none⟩))) k)) ∧
  (∀ b o, qV Try.prog (EC w) (Instr.loadAt 23 (.pointer (some ⟨b, o, none⟩))) k = onCell (w.cell? ⟨b, o, none⟩) k (qVx Try.prog (EC w) (Instr.loadAt 23 (.pointer (some ⟨b, o, none⟩))) k)) ∧
  (∀ b1 b2 b o, b ≠ b1 → b ≠ b2 → qV Try.prog (KB w b1 b2) (Instr.loadAt 23 (.pointer (some ⟨b, o, none⟩))) k = onCell (w.cell? ⟨b, o, none⟩) k (qVx Try.prog (KB w b1 b2) (Instr.loadAt 23 (.pointer (some ⟨b, o, none⟩))) k)) ∧
  (∀ b o, qV Try.prog (EC w) (Instr.loadAt 25 (.pointer (some ⟨b, o, none⟩))) k = onCells [w.cell? ⟨b, o, none⟩, w.cell? ⟨b, o + 1, none⟩] (fun vs => k (.agg vs.toArray)) (qVx Try.prog (EC w) (Instr.loadAt 25 (.pointer (some ⟨b, o, none⟩))) k)) ∧
  (∀ b o, qV Try.prog (EC w) (Instr.loadAt 26 (.pointer (some ⟨b, o, none⟩))) k = onCell (w.cell? ⟨b, o, none⟩) k (qVx Try.prog (EC w) (Instr.loadAt 26 (.pointer (some ⟨b, o, none⟩))) k)) ∧
  (∀ b1 b2 b o, b ≠ b1 → b ≠ b2 → qV Try.prog (KB w b1 b2) (Instr.loadAt 26 (.pointer (some ⟨b, o, none⟩))) k = onCell (w.cell? ⟨b, o, none⟩) k (qVx Try.prog (KB w b1 b2) (Instr.loadAt 26 (.pointer (some ⟨b, o, none⟩))) k)) ∧
  (∀ b o, qV Try.prog (EC w) (Instr.loadAt 28 (.pointer (some ⟨b, o, none⟩))) k = onCells [w.cell? ⟨b, o, none⟩, w.cell? ⟨b, o + 1, none⟩, w.cell? ⟨b, o + 2, none⟩, w.cell? ⟨b, o + 3, none⟩, w.cell? ⟨b, o + 4, none⟩, w.cell? ⟨b, o + 5, none⟩, w.cell? ⟨b, o + 6, none⟩, w.cell? ⟨b, o + 7, none⟩, w.cell? ⟨b, o + 8, none⟩, w.cell? ⟨b, o + 9, none⟩, w.cell? ⟨b, o + 10, none⟩, w.cell? ⟨b, o + 11, none⟩, w.cell? ⟨b, o + 12, none⟩, w.cell? ⟨b, o + 13, none⟩, w.cell? ⟨b, o + 14, none⟩] (fun vs => k (.agg vs.toArray)) (qVx Try.prog (EC w) (Instr.loadAt 28 (.pointer (some ⟨b, o, none⟩))) k)) ∧
  (∀ b o, qV Try.prog (EC w) (Instr.loadAt 31 (.pointer (some ⟨b, o, none⟩))) k = onCells [w.cell? ⟨b, o, none⟩, w.cell? ⟨b, o + 1, none⟩] (fun vs => k (.agg vs.toArray)) (qVx Try.prog (EC w) (Instr.loadAt 31 (.pointer (some ⟨b, o, none⟩))) k)) ∧
  (∀ b o, qV Try.prog (EC w) (Instr.loadAt 42 (.pointer (some ⟨b, o, none⟩))) k = onCell (w.cell? ⟨b, o, none⟩) k (qVx Try.prog (EC w) (Instr.loadAt 42 (.pointer (some ⟨b, o, none⟩))) k)) ∧
  (∀ b1 b2 b o, b ≠ b1 → b ≠ b2 → qV Try.prog (KB w b1 b2) (Instr.loadAt 42 (.pointer (some ⟨b, o, none⟩))) k = onCell (w.cell? ⟨b, o, none⟩) k (qVx Try.prog (KB w b1 b2) (Instr.loadAt 42 (.pointer (some ⟨b, o, none⟩))) k)) ∧
  (∀ b o, qV Try.prog (EC w) (Instr.loadAt 44 (.pointer (some ⟨b, o, none⟩))) k = onCells [w.cell? ⟨b, o, none⟩, w.cell? ⟨b, o + 1, none⟩, w.cell? ⟨b, o + 2, none⟩] (fun vs => k (.agg vs.toArray)) (qVx Try.prog (EC w) (Instr.loadAt 44 (.pointer (some ⟨b, o, none⟩))) k)) ∧
  (∀ b o, qV Try.prog (EC w) (Instr.loadAt 48 (.pointer (some ⟨b, o, none⟩))) k = onCell (w.cell? ⟨b, o, none⟩) k (qVx Try.prog (EC w) (Instr.loadAt 48 (.pointer (some ⟨b, o, none⟩))) k)) ∧
  (∀ b1 b2 b o, b ≠ b1 → b ≠ b2 → qV Try.prog (KB w b1 b2) (Instr.loadAt 48 (.pointer (some ⟨b, o, none⟩))) k = onCell (w.cell? ⟨b, o, none⟩) k (qVx Try.prog (KB w b1 b2) (Instr.loadAt 48 (.pointer (some ⟨b, o, none⟩))) k)) ∧
  (∀ b o, qV Try.prog (EC w) (Instr.loadAt 50 (.pointer (some ⟨b, o, none⟩))) k = onCells [w.cell? ⟨b, o, none⟩, w.cell? ⟨b, o + 1, none⟩] (fun vs => k (.agg vs.toArray)) (qVx Try.prog (EC w) (Instr.loadAt 50 (.pointer (some ⟨b, o, none⟩))) k)) ∧
  (∀ b o, qV Try.prog (EC w) (Instr.loadAt 53 (.pointer (some ⟨b, o, none⟩))) k = onCell (w.cell? ⟨b, o, none⟩) k (qVx Try.prog (EC w) (Instr.loadAt 53 (.pointer (some ⟨b, o, none⟩))) k)) ∧
  (∀ b1 b2 b o, b ≠ b1 → b ≠ b2 → qV Try.prog (KB w b1 b2) (Instr.loadAt 53 (.pointer (some ⟨b, o, none⟩))) k = onCell (w.cell? ⟨b, o, none⟩) k (qVx Try.prog (KB w b1 b2) (Instr.loadAt 53 (.pointer (some ⟨b, o, none⟩))) k)) ∧
  (∀ b o, qV Try.prog (EC w) (Instr.loadAt 62 (.pointer (some ⟨b, o, none⟩))) k = onCells [w.cell? ⟨b, o, none⟩, w.cell? ⟨b, o + 1, none⟩, w.cell? ⟨b, o + 2, none⟩] (fun vs => k (.agg vs.toArray)) (qVx Try.prog (EC w) (Instr.loadAt 62 (.pointer (some ⟨b, o, none⟩))) k)) ∧
  (∀ b o, qV Try.prog (EC w) (Instr.loadAt 63 (.pointer (some ⟨b, o, none⟩))) k = onCell (w.cell? ⟨b, o, none⟩) k (qVx Try.prog (EC w) (Instr.loadAt 63 (.pointer (some ⟨b, o, none⟩))) k)) ∧
  (∀ b1 b2 b o, b ≠ b1 → b ≠ b2 → qV Try.prog (KB w b1 b2) (Instr.loadAt 63 (.pointer (some ⟨b, o, none⟩))) k = onCell (w.cell? ⟨b, o, none⟩) k (qVx Try.prog (KB w b1 b2) (Instr.loadAt 63 (.pointer (some ⟨b, o, none⟩))) k)) ∧
  (∀ b o, qV Try.prog (EC w) (Instr.loadAt 68 (.pointer (some ⟨b, o, none⟩))) k = onCells [w.cell? ⟨b, o, none⟩, w.cell? ⟨b, o + 1, none⟩, w.cell? ⟨b, o + 2, none⟩] (fun vs => k (.agg vs.toArray)) (qVx Try.prog (EC w) (Instr.loadAt 68 (.pointer (some ⟨b, o, none⟩))) k)) ∧
  (∀ b o, qV Try.prog (EC w) (Instr.loadAt 77 (.pointer (some ⟨b, o, none⟩))) k = onCells [w.cell? ⟨b, o, none⟩, w.cell? ⟨b, o + 1, none⟩] (fun vs => k (.agg vs.toArray)) (qVx Try.prog (EC w) (Instr.loadAt 77 (.pointer (some ⟨b, o, none⟩))) k)) ∧
  (∀ b o, qV Try.prog (EC w) (Instr.loadAt 93 (.pointer (some ⟨b, o, none⟩))) k = onCell (w.cell? ⟨b, o, none⟩) k (qVx Try.prog (EC w) (Instr.loadAt 93 (.pointer (some ⟨b, o, none⟩))) k)) ∧
  (∀ b1 b2 b o, b ≠ b1 → b ≠ b2 → qV Try.prog (KB w b1 b2) (Instr.loadAt 93 (.pointer (some ⟨b, o, none⟩))) k = onCell (w.cell? ⟨b, o, none⟩) k (qVx Try.prog (KB w b1 b2) (Instr.loadAt 93 (.pointer (some ⟨b, o, none⟩))) k)) ∧
  (∀ b o, qV Try.prog (EC w) (Instr.loadAt 98 (.pointer (some ⟨b, o, none⟩))) k = onCell (w.cell? ⟨b, o, none⟩) k (qVx Try.prog (EC w) (Instr.loadAt 98 (.pointer (some ⟨b, o, none⟩))) k)) ∧
  (∀ b1 b2 b o, b ≠ b1 → b ≠ b2 → qV Try.prog (KB w b1 b2) (Instr.loadAt 98 (.pointer (some ⟨b, o, none⟩))) k = onCell (w.cell? ⟨b, o, none⟩) k (qVx Try.prog (KB w b1 b2) (Instr.loadAt 98 (.pointer (some ⟨b, o, none⟩))) k)) ∧
  (∀ b o, qV Try.prog (EC w) (Instr.loadAt 99 (.pointer (some ⟨b, o, none⟩))) k = onCell (w.cell? ⟨b, o, none⟩) k (qVx Try.prog (EC w) (Instr.loadAt 99 (.pointer (some ⟨b, o, none⟩))) k)) ∧
  (∀ b1 b2 b o, b ≠ b1 → b ≠ b2 → qV Try.prog (KB w b1 b2) (Instr.loadAt 99 (.pointer (some ⟨b, o, none⟩))) k = onCell (w.cell? ⟨b, o, none⟩) k (qVx Try.prog (KB w b1 b2) (Instr.loadAt 99 (.pointer (some ⟨b, o, none⟩))) k)) ∧
  (∀ b o, qV Try.prog (EC w) (Instr.loadAt 127 (.pointer (some ⟨b, o, none⟩))) k = onCell (w.cell? ⟨b, o, none⟩) k (qVx Try.prog (EC w) (Instr.loadAt 127 (.pointer (some ⟨b, o, none⟩))) k)) ∧
  (∀ b1 b2 b o, b ≠ b1 → b ≠ b2 → qV Try.prog (KB w b1 b2) (Instr.loadAt 127 (.pointer (some ⟨b, o, none⟩))) k = onCell (w.cell? ⟨b, o, none⟩) k (qVx Try.prog (KB w b1 b2) (Instr.loadAt 127 (.pointer (some ⟨b, o, none⟩))) k)) ∧
  (∀ b o, qV Try.prog (EC w) (Instr.loadAt 128 (.pointer (some ⟨b, o, none⟩))) k = onCell (w.cell? ⟨b, o, none⟩) k (qVx Try.prog (EC w) (Instr.loadAt 128 (.pointer (some ⟨b, o, none⟩))) k)) ∧
  (∀ b1 b2 b o, b ≠ b1 → b ≠ b2 → qV Try.prog (KB w b1 b2) (Instr.loadAt 128 (.pointer (some ⟨b, o, none⟩))) k = onCell (w.cell? ⟨b, o, none⟩) k (qVx Try.prog (KB w b1 b2) (Instr.loadAt 128 (.pointer (some ⟨b, o, none⟩))) k)) :=
  ⟨(qV_loadC ty3), (qV_loadKB ty3), (qV_loadC ty4), (qV_loadKB ty4), (qV_loadC ty5), (qV_loadKB ty5), (qV_loadC ty9), (qV_loadKB ty9), (qV_loadC ty22), (qV_loadKB ty22), (qV_loadC ty23), (qV_loadKB ty23), (by intro b o; exact qV_loadA ty25 b o _ rfl), (qV_loadC ty26), (qV_loadKB ty26), (by intro b o; exact qV_loadA ty28 b o _ rfl), (by intro b o; exact qV_loadA ty31 b o _ rfl), (qV_loadC ty42), (qV_loadKB ty42), (by intro b o; exact qV_loadA ty44 b o _ rfl), (qV_loadC ty48), (qV_loadKB ty48), (by intro b o; exact qV_loadA ty50 b o _ rfl), (qV_loadC ty53), (qV_loadKB ty53), (by intro b o; exact qV_loadA ty62 b o _ rfl), (qV_loadC ty63), (qV_loadKB ty63), (by intro b o; exact qV_loadA ty68 b o _ rfl), (by intro b o; exact qV_loadA ty77 b o _ rfl), (qV_loadC ty93), (qV_loadKB ty93), (qV_loadC ty98), (qV_loadKB ty98), (qV_loadC ty99), (qV_loadKB ty99), (qV_loadC ty127), (qV_loadKB ty127), (qV_loadC ty128), (qV_loadKB ty128)⟩
theorem OPW1 {w : World} {k : Value → Prop} : (∀ b o, qV Try.prog (EC w) (Instr.loadAt 145 (.pointer (some ⟨b, o, none⟩))) k = onCell (w.cell? ⟨b, o, none⟩) k (qVx Try.prog (EC w) (Instr.loadAt 145 (.pointer (some ⟨b, o, none⟩))) k)) ∧
  (∀ b1 b2 b o, b ≠ b1 → b ≠ b2 → qV Try.prog (KB w b1 b2) (Instr.loadAt 145 (.pointer (some ⟨b, o, none⟩))) k = onCell (w.cell? ⟨b, o, none⟩) k (qVx Try.prog (KB w b1 b2) (Instr.loadAt 145 (.pointer (some ⟨b, o, none⟩))) k)) ∧
  (∀ b o, qW Try.prog 3 (.pointer (some ⟨b, o, none⟩)) w k = onCell (w.cell? ⟨b, o, none⟩) k (qWx Try.prog 3 (.pointer (some ⟨b, o, none⟩)) w k)) ∧
  (∀ b o, qW Try.prog 4 (.pointer (some ⟨b, o, none⟩)) w k = onCell (w.cell? ⟨b, o, none⟩) k (qWx Try.prog 4 (.pointer (some ⟨b, o, none⟩)) w k)) ∧
  (∀ b o, qW Try.prog 9 (.pointer (some ⟨b, o, none⟩)) w k = onCell (w.cell? ⟨b, o, none⟩) k (qWx Try.prog 9 (.pointer (some ⟨b, o, none⟩)) w k)) ∧
  (∀ b o, qW Try.prog 23 (.pointer (some ⟨b, o, none⟩)) w k = onCell (w.cell? ⟨b, o, none⟩) k (qWx Try.prog 23 (.pointer (some ⟨b, o, none⟩)) w k)) ∧
  (∀ b o, qW Try.prog 25 (.pointer (some ⟨b, o, none⟩)) w k = onCells [w.cell? ⟨b, o, none⟩, w.cell? ⟨b, o + 1, none⟩] (fun vs => k (.agg vs.toArray)) (qWx Try.prog 25 (.pointer (some ⟨b, o, none⟩)) w k)) ∧
  (∀ b o, qW Try.prog 28 (.pointer (some ⟨b, o, none⟩)) w k = onCells [w.cell? ⟨b, o, none⟩, w.cell? ⟨b, o + 1, none⟩, w.cell? ⟨b, o + 2, none⟩, w.cell? ⟨b, o + 3, none⟩, w.cell? ⟨b, o + 4, none⟩, w.cell? ⟨b, o + 5, none⟩, w.cell? ⟨b, o + 6, none⟩, w.cell? ⟨b, o + 7, none⟩, w.cell? ⟨b, o + 8, none⟩, w.cell? ⟨b, o + 9, none⟩, w.cell? ⟨b, o + 10, none⟩, w.cell? ⟨b, o + 11, none⟩, w.cell? ⟨b, o + 12, none⟩, w.cell? ⟨b, o + 13, none⟩, w.cell? ⟨b, o + 14, none⟩] (fun vs => k (.agg vs.toArray)) (qWx Try.prog 28 (.pointer (some ⟨b, o, none⟩)) w k)) ∧
  (∀ b o, qW Try.prog 31 (.pointer (some ⟨b, o, none⟩)) w k = onCells [w.cell? ⟨b, o, none⟩, w.cell? ⟨b, o + 1, none⟩] (fun vs => k (.agg vs.toArray)) (qWx Try.prog 31 (.pointer (some ⟨b, o, none⟩)) w k)) ∧
  (∀ b o, qW Try.prog 32 (.pointer (some ⟨b, o, none⟩)) w k = onCell (w.cell? ⟨b, o, none⟩) k (qWx Try.prog 32 (.pointer (some ⟨b, o, none⟩)) w k)) ∧
  (∀ b o, qW Try.prog 44 (.pointer (some ⟨b, o, none⟩)) w k = onCells [w.cell? ⟨b, o, none⟩, w.cell? ⟨b, o + 1, none⟩, w.cell? ⟨b, o + 2, none⟩] (fun vs => k (.agg vs.toArray)) (qWx Try.prog 44 (.pointer (some ⟨b, o, none⟩)) w k)) ∧
  (∀ b o, qW Try.prog 50 (.pointer (some ⟨b, o, none⟩)) w k = onCells [w.cell? ⟨b, o, none⟩, w.cell? ⟨b, o + 1, none⟩] (fun vs => k (.agg vs.toArray)) (qWx Try.prog 50 (.pointer (some ⟨b, o, none⟩)) w k)) ∧
  (∀ b o, qW Try.prog 53 (.pointer (some ⟨b, o, none⟩)) w k = onCell (w.cell? ⟨b, o, none⟩) k (qWx Try.prog 53 (.pointer (some ⟨b, o, none⟩)) w k)) ∧
  (∀ b o, qW Try.prog 62 (.pointer (some ⟨b, o, none⟩)) w k = onCells [w.cell? ⟨b, o, none⟩, w.cell? ⟨b, o + 1, none⟩, w.cell? ⟨b, o + 2, none⟩] (fun vs => k (.agg vs.toArray)) (qWx Try.prog 62 (.pointer (some ⟨b, o, none⟩)) w k)) ∧
  (∀ b o, qW Try.prog 63 (.pointer (some ⟨b, o, none⟩)) w k = onCell (w.cell? ⟨b, o, none⟩) k (qWx Try.prog 63 (.pointer (some ⟨b, o, none⟩)) w k)) ∧
  (∀ b o, qW Try.prog 68 (.pointer (some ⟨b, o, none⟩)) w k = onCells [w.cell? ⟨b, o, none⟩, w.cell? ⟨b, o + 1, none⟩, w.cell? ⟨b, o + 2, none⟩] (fun vs => k (.agg vs.toArray)) (qWx Try.prog 68 (.pointer (some ⟨b, o, none⟩)) w k)) ∧
  (∀ b o, qW Try.prog 77 (.pointer (some ⟨b, o, none⟩)) w k = onCells [w.cell? ⟨b, o, none⟩, w.cell? ⟨b, o + 1, none⟩] (fun vs => k (.agg vs.toArray)) (qWx Try.prog 77 (.pointer (some ⟨b, o, none⟩)) w k)) ∧
  (∀ b o, qW Try.prog 93 (.pointer (some ⟨b, o, none⟩)) w k = onCell (w.cell? ⟨b, o, none⟩) k (qWx Try.prog 93 (.pointer (some ⟨b, o, none⟩)) w k)) ∧
  (∀ b o, qW Try.prog 99 (.pointer (some ⟨b, o, none⟩)) w k = onCell (w.cell? ⟨b, o, none⟩) k (qWx Try.prog 99 (.pointer (some ⟨b, o, none⟩)) w k)) ∧
  (∀ b o, qW Try.prog 101 (.pointer (some ⟨b, o, none⟩)) w k = onCells [w.cell? ⟨b, o, none⟩, w.cell? ⟨b, o + 1, none⟩, w.cell? ⟨b, o + 2, none⟩, w.cell? ⟨b, o + 3, none⟩, w.cell? ⟨b, o + 4, none⟩, w.cell? ⟨b, o + 5, none⟩, w.cell? ⟨b, o + 6, none⟩, w.cell? ⟨b, o + 7, none⟩, w.cell? ⟨b, o + 8, none⟩] (fun vs => k (.agg vs.toArray)) (qWx Try.prog 101 (.pointer (some ⟨b, o, none⟩)) w k)) ∧
  (∀ b o, qW Try.prog 116 (.pointer (some ⟨b, o, none⟩)) w k = onCells [w.cell? ⟨b, o, none⟩, w.cell? ⟨b, o + 1, none⟩, w.cell? ⟨b, o + 2, none⟩, w.cell? ⟨b, o + 3, none⟩, w.cell? ⟨b, o + 4, none⟩, w.cell? ⟨b, o + 5, none⟩, w.cell? ⟨b, o + 6, none⟩, w.cell? ⟨b, o + 7, none⟩, w.cell? ⟨b, o + 8, none⟩, w.cell? ⟨b, o + 9, none⟩, w.cell? ⟨b, o + 10, none⟩, w.cell? ⟨b, o + 11, none⟩, w.cell? ⟨b, o + 12, none⟩] (fun vs => k (.agg vs.toArray)) (qWx Try.prog 116 (.pointer (some ⟨b, o, none⟩)) w k)) ∧
  (∀ b o, qW Try.prog 130 (.pointer (some ⟨b, o, none⟩)) w k = onCells [w.cell? ⟨b, o, none⟩, w.cell? ⟨b, o + 1, none⟩] (fun vs => k (.agg vs.toArray)) (qWx Try.prog 130 (.pointer (some ⟨b, o, none⟩)) w k)) ∧
  (∀ b o, qW Try.prog 145 (.pointer (some ⟨b, o, none⟩)) w k = onCell (w.cell? ⟨b, o, none⟩) k (qWx Try.prog 145 (.pointer (some ⟨b, o, none⟩)) w k)) :=
  ⟨(qV_loadC ty145), (qV_loadKB ty145), (qW_loadC ty3), (qW_loadC ty4), (qW_loadC ty9), (qW_loadC ty23), (by intro b o; exact qW_loadA ty25 b o _ rfl), (by intro b o; exact qW_loadA ty28 b o _ rfl), (by intro b o; exact qW_loadA ty31 b o _ rfl), (qW_loadC ty32), (by intro b o; exact qW_loadA ty44 b o _ rfl), (by intro b o; exact qW_loadA ty50 b o _ rfl), (qW_loadC ty53), (by intro b o; exact qW_loadA ty62 b o _ rfl), (qW_loadC ty63), (by intro b o; exact qW_loadA ty68 b o _ rfl), (by intro b o; exact qW_loadA ty77 b o _ rfl), (qW_loadC ty93), (qW_loadC ty99), (by intro b o; exact qW_loadA ty101 b o _ rfl), (by intro b o; exact qW_loadA ty116 b o _ rfl), (by intro b o; exact qW_loadA ty130 b o _ rfl), (qW_loadC ty145)⟩
theorem OPQ0 {C : World → Prop} [ClassNe C] {k : Value → Prop} : (∀ c a b, qV Try.prog C (binS .eql 4 c (.bool a) (.bool b)) k = k (.bool (a == b))) ∧
  (∀ c a b, qV Try.prog C (binS .neq 4 c (.bool a) (.bool b)) k = k (.bool (a != b))) ∧
  (∀ r s, qV Try.prog C (Builtin.len_ #[9] r #[.string s]) k = k (.int .i64 (s.size : Int))) ∧
  (∀ r a n c, qV Try.prog C (Builtin.len_ #[23] r #[.slice a n c]) k = k (.int .i64 (n : Int))) ∧
  (∀ b o len cap ik (i : Nat), i < len → qV Try.prog C (Instr.indexAt 23 (.slice (some ⟨b, o, none⟩) len cap) (.int ik (i : Int))) k = k (.pointer (some ⟨b, o + i * 2, none⟩))) ∧
  (∀ b o, qV Try.prog C (Instr.fieldAt 25 (.pointer (some ⟨b, o, none⟩)) 0) k = k (.pointer (some ⟨b, o, none⟩))) ∧
  (∀ b o, qV Try.prog C (Instr.fieldAt 25 (.pointer (some ⟨b, o, none⟩)) 1) k = k (.pointer (some ⟨b, o + 1, none⟩))) ∧
  (∀ r a n c, qV Try.prog C (Builtin.len_ #[26] r #[.slice a n c]) k = k (.int .i64 (n : Int))) ∧
  (∀ b o len cap ik (i : Nat), i < len → qV Try.prog C (Instr.indexAt 26 (.slice (some ⟨b, o, none⟩) len cap) (.int ik (i : Int))) k = k (.pointer (some ⟨b, o + i * 3, none⟩))) ∧
  (∀ b o, qV Try.prog C (Instr.fieldAt 28 (.pointer (some ⟨b, o, none⟩)) 0) k = k (.pointer (some ⟨b, o, none⟩))) ∧
  (∀ b o, qV Try.prog C (Instr.fieldAt 28 (.pointer (some ⟨b, o, none⟩)) 1) k = k (.pointer (some ⟨b, o + 1, none⟩))) ∧
  (∀ b o, qV Try.prog C (Instr.fieldAt 28 (.pointer (some ⟨b, o, none⟩)) 2) k = k (.pointer (some ⟨b, o + 2, none⟩))) ∧
  (∀ b o, qV Try.prog C (Instr.fieldAt 28 (.pointer (some ⟨b, o, none⟩)) 3) k = k (.pointer (some ⟨b, o + 3, none⟩))) ∧
  (∀ b o, qV Try.prog C (Instr.fieldAt 28 (.pointer (some ⟨b, o, none⟩)) 4) k = k (.pointer (some ⟨b, o + 4, none⟩))) ∧
  (∀ b o, qV Try.prog C (Instr.fieldAt 28 (.pointer (some ⟨b, o, none⟩)) 5) k = k (.pointer (some ⟨b, o + 5, none⟩))) ∧
  (∀ b o, qV Try.prog C (Instr.fieldAt 28 (.pointer (some ⟨b, o, none⟩)) 6) k = k (.pointer (some ⟨b, o + 6, none⟩))) ∧
  (∀ b o, qV Try.prog C (Instr.fieldAt 28 (.pointer (some ⟨b, o, none⟩)) 7) k = k (.pointer (some ⟨b, o + 7, none⟩))) ∧
  (∀ b o, qV Try.prog C (Instr.fieldAt 28 (.pointer (some ⟨b, o, none⟩)) 8) k = k (.pointer (some ⟨b, o + 9, none⟩))) ∧
  (∀ b o, qV Try.prog C (Instr.fieldAt 28 (.pointer (some ⟨b, o, none⟩)) 9) k = k (.pointer (some ⟨b, o + 10, none⟩))) ∧
  (∀ b o, qV Try.prog C (Instr.fieldAt 28 (.pointer (some ⟨b, o, none⟩)) 10) k = k (.pointer (some ⟨b, o + 11, none⟩))) ∧
  (∀ b o, qV Try.prog C (Instr.fieldAt 28 (.pointer (some ⟨b, o, none⟩)) 11) k = k (.pointer (some ⟨b, o + 12, none⟩))) ∧
  (∀ b o, qV Try.prog C (Instr.fieldAt 28 (.pointer (some ⟨b, o, none⟩)) 12) k = k (.pointer (some ⟨b, o + 13, none⟩))) ∧
  (∀ b o, qV Try.prog C (Instr.fieldAt 28 (.pointer (some ⟨b, o, none⟩)) 13) k = k (.pointer (some ⟨b, o + 14, none⟩))) ∧
  (∀ b o, qV Try.prog C (Instr.fieldAt 31 (.pointer (some ⟨b, o, none⟩)) 0) k = k (.pointer (some ⟨b, o, none⟩))) ∧
  (∀ b o, qV Try.prog C (Instr.fieldAt 31 (.pointer (some ⟨b, o, none⟩)) 1) k = k (.pointer (some ⟨b, o + 1, none⟩))) ∧
  (∀ v0 v1, qV Try.prog C (Instr.field 31 (.agg #[v0, v1]) 1) k = k v1) ∧
  (∀ r a n c, qV Try.prog C (Builtin.len_ #[42] r #[.slice a n c]) k = k (.int .i64 (n : Int))) ∧
  (∀ b o len cap ik (i : Nat), i < len → qV Try.prog C (Instr.indexAt 42 (.slice (some ⟨b, o, none⟩) len cap) (.int ik (i : Int))) k = k (.pointer (some ⟨b, o + i * 2, none⟩))) ∧
  (∀ b o, qV Try.prog C (Instr.fieldAt 44 (.pointer (some ⟨b, o, none⟩)) 0) k = k (.pointer (some ⟨b, o, none⟩))) ∧
  (∀ b o, qV Try.prog C (Instr.fieldAt 44 (.pointer (some ⟨b, o, none⟩)) 1) k = k (.pointer (some ⟨b, o + 1, none⟩))) ∧
  (∀ b o, qV Try.prog C (Instr.fieldAt 44 (.pointer (some ⟨b, o, none⟩)) 2) k = k (.pointer (some ⟨b, o + 2, none⟩))) ∧
  (∀ v0 v1 v2, qV Try.prog C (Instr.field 44 (.agg #[v0, v1, v2]) 1) k = k v1) ∧
  (∀ r a n c, qV Try.prog C (Builtin.len_ #[48] r #[.slice a n c]) k = k (.int .i64 (n : Int))) ∧
  (∀ b o len cap ik (i : Nat), i < len → qV Try.prog C (Instr.indexAt 48 (.slice (some ⟨b, o, none⟩) len cap) (.int ik (i : Int))) k = k (.pointer (some ⟨b, o + i * 15, none⟩))) ∧
  (∀ b o, qV Try.prog C (Instr.fieldAt 50 (.pointer (some ⟨b, o, none⟩)) 0) k = k (.pointer (some ⟨b, o, none⟩))) ∧
  (∀ b o, qV Try.prog C (Instr.fieldAt 50 (.pointer (some ⟨b, o, none⟩)) 1) k = k (.pointer (some ⟨b, o + 1, none⟩))) ∧
  (∀ b o, qV Try.prog C (Instr.fieldAt 62 (.pointer (some ⟨b, o, none⟩)) 0) k = k (.pointer (some ⟨b, o, none⟩))) ∧
  (∀ b o, qV Try.prog C (Instr.fieldAt 62 (.pointer (some ⟨b, o, none⟩)) 1) k = k (.pointer (some ⟨b, o + 1, none⟩))) ∧
  (∀ b o, qV Try.prog C (Instr.fieldAt 62 (.pointer (some ⟨b, o, none⟩)) 2) k = k (.pointer (some ⟨b, o + 2, none⟩))) ∧
  (∀ r a n c, qV Try.prog C (Builtin.len_ #[63] r #[.slice a n c]) k = k (.int .i64 (n : Int))) :=
  ⟨(by intros; apply qV_of; intros; apply o3 <;> assumption), (by intros; apply qV_of; intros; apply o4 <;> assumption), (by intros; apply qV_of; intros; apply o8 <;> assumption), (by intros; apply qV_of; intros; apply o11 <;> assumption), (by intros; apply qV_of; intros; apply o12 <;> assumption), (by intros; apply qV_of; intros; apply o14 <;> assumption), (by intros; apply qV_of; intros; apply o15 <;> assumption), (by intros; apply qV_of; intros; apply o18 <;> assumption), (by intros; apply qV_of; intros; apply o19 <;> assumption), (by intros; apply qV_of; intros; apply o20 <;> assumption), (by intros; apply qV_of; intros; apply o21 <;> assumption), (by intros; apply qV_of; intros; apply o22 <;> assumption), (by intros; apply qV_of; intros; apply o23 <;> assumption), (by intros; apply qV_of; intros; apply o24 <;> assumption), (by intros; apply qV_of; intros; apply o25 <;> assumption), (by intros; apply qV_of; intros; apply o26 <;> assumption), (by intros; apply qV_of; intros; apply o27 <;> assumption), (by intros; apply qV_of; intros; apply o28 <;> assumption), (by intros; apply qV_of; intros; apply o29 <;> assumption), (by intros; apply qV_of; intros; apply o30 <;> assumption), (by intros; apply qV_of; intros; apply o31 <;> assumption), (by intros; apply qV_of; intros; apply o32 <;> assumption), (by intros; apply qV_of; intros; apply o33 <;> assumption), (by intros; apply qV_of; intros; apply o36 <;> assumption), (by intros; apply qV_of; intros; apply o37 <;> assumption), (by intros; apply qV_of; intros; apply o38 <;> assumption), (by intros; apply qV_of; intros; apply o43 <;> assumption), (by intros; apply qV_of; intros; apply o44 <;> assumption), (by intros; apply qV_of; intros; apply o45 <;> assumption), (by intros; apply qV_of; intros; apply o46 <;> assumption), (by intros; apply qV_of; intros; apply o47 <;> assumption), (by intros; apply qV_of; intros; apply o48 <;> assumption), (by intros; apply qV_of; intros; apply o52 <;> assumption), (by intros; apply qV_of; intros; apply o53 <;> assumption), (by intros; apply qV_of; intros; apply o54 <;> assumption), (by intros; apply qV_of; intros; apply o55 <;> assumption), (by intros; apply qV_of; intros; apply o60 <;> assumption), (by intros; apply qV_of; intros; apply o61 <;> assumption), (by intros; apply qV_of; intros; apply o62 <;> assumption), (by intros; apply qV_of; intros; apply o66 <;> assumption)⟩
theorem OPQ1 {C : World → Prop} [ClassNe C] {k : Value → Prop} : (∀ b o len cap ik (i : Nat), i < len → qV Try.prog C (Instr.indexAt 63 (.slice (some ⟨b, o, none⟩) len cap) (.int ik (i : Int))) k = k (.pointer (some ⟨b, o + i * 1, none⟩))) ∧
  (∀ b o, qV Try.prog C (Instr.fieldAt 68 (.pointer (some ⟨b, o, none⟩)) 0) k = k (.pointer (some ⟨b, o, none⟩))) ∧
  (∀ b o, qV Try.prog C (Instr.fieldAt 77 (.pointer (some ⟨b, o, none⟩)) 0) k = k (.pointer (some ⟨b, o, none⟩))) ∧
  (∀ b o, qV Try.prog C (Instr.fieldAt 77 (.pointer (some ⟨b, o, none⟩)) 1) k = k (.pointer (some ⟨b, o + 1, none⟩))) ∧
  (∀ b o, qV Try.prog C (Instr.fieldAt 101 (.pointer (some ⟨b, o, none⟩)) 1) k = k (.pointer (some ⟨b, o + 3, none⟩))) ∧
  (∀ b o, qV Try.prog C (Instr.fieldAt 101 (.pointer (some ⟨b, o, none⟩)) 2) k = k (.pointer (some ⟨b, o + 4, none⟩))) ∧
  (∀ b o, qV Try.prog C (Instr.fieldAt 101 (.pointer (some ⟨b, o, none⟩)) 3) k = k (.pointer (some ⟨b, o + 5, none⟩))) ∧
  (∀ b o, qV Try.prog C (Instr.fieldAt 101 (.pointer (some ⟨b, o, none⟩)) 4) k = k (.pointer (some ⟨b, o + 6, none⟩))) ∧
  (∀ b o, qV Try.prog C (Instr.fieldAt 101 (.pointer (some ⟨b, o, none⟩)) 5) k = k (.pointer (some ⟨b, o + 7, none⟩))) ∧
  (∀ r a n c, qV Try.prog C (Builtin.len_ #[121] r #[.slice a n c]) k = k (.int .i64 (n : Int))) ∧
  (∀ b o len cap ik (i : Nat), i < len → qV Try.prog C (Instr.indexAt 121 (.slice (some ⟨b, o, none⟩) len cap) (.int ik (i : Int))) k = k (.pointer (some ⟨b, o + i * 1, none⟩))) ∧
  (∀ r a n c, qV Try.prog C (Builtin.len_ #[123] r #[.slice a n c]) k = k (.int .i64 (n : Int))) ∧
  (∀ b o len cap ik (i : Nat), i < len → qV Try.prog C (Instr.indexAt 123 (.slice (some ⟨b, o, none⟩) len cap) (.int ik (i : Int))) k = k (.pointer (some ⟨b, o + i * 1, none⟩))) ∧
  (∀ b o, qV Try.prog C (Instr.fieldAt 130 (.pointer (some ⟨b, o, none⟩)) 0) k = k (.pointer (some ⟨b, o, none⟩))) ∧
  (∀ b o, qV Try.prog C (Instr.fieldAt 130 (.pointer (some ⟨b, o, none⟩)) 1) k = k (.pointer (some ⟨b, o + 1, none⟩))) ∧
  (∀ r a n c, qV Try.prog C (Builtin.len_ #[137] r #[.slice a n c]) k = k (.int .i64 (n : Int))) ∧
  (∀ b o len cap ik (i : Nat), i < len → qV Try.prog C (Instr.indexAt 137 (.slice (some ⟨b, o, none⟩) len cap) (.int ik (i : Int))) k = k (.pointer (some ⟨b, o + i * 1, none⟩))) ∧
  (qV Try.prog C (Instr.build 25 #[]) k = k (.agg #[.int .i64 0, .slice none 0 0])) ∧
  (∀ v1 : Value, v1.oneCell' = true → qV Try.prog C (Instr.build 25 #[(1, v1)]) k = k (.agg #[.int .i64 0, v1])) ∧
  (∀ v0 v1 : Value, v0.oneCell' = true → v1.oneCell' = true → qV Try.prog C (Instr.build 28 #[(0, v0), (1, v1)]) k = k (.agg #[v0, v1, .int .i64 0, .bool false, .bool false, .int .i64 0, .int .i64 0, .int .i64 0, .slice none 0 0, .string ByteArray.empty, .string ByteArray.empty, .string ByteArray.empty, .slice none 0 0, .int .i64 0, .int .i64 0])) ∧
  (∀ v0 v1 v2 v6 : Value, v0.oneCell' = true → v1.oneCell' = true → v2.oneCell' = true → v6.oneCell' = true → qV Try.prog C (Instr.build 28 #[(0, v0), (1, v1), (2, v2), (6, v6)]) k = k (.agg #[v0, v1, v2, .bool false, .bool false, .int .i64 0, v6, .int .i64 0, .slice none 0 0, .string ByteArray.empty, .string ByteArray.empty, .string ByteArray.empty, .slice none 0 0, .int .i64 0, .int .i64 0])) ∧
  (∀ v0 v1 v7_0 v7_1 : Value, v0.oneCell' = true → v1.oneCell' = true → qV Try.prog C (Instr.build 28 #[(0, v0), (1, v1), (7, (.agg #[v7_0, v7_1]))]) k = k (.agg #[v0, v1, .int .i64 0, .bool false, .bool false, .int .i64 0, .int .i64 0, v7_0, v7_1, .string ByteArray.empty, .string ByteArray.empty, .string ByteArray.empty, .slice none 0 0, .int .i64 0, .int .i64 0])) ∧
  (∀ v0 v1 v8 : Value, v0.oneCell' = true → v1.oneCell' = true → v8.oneCell' = true → qV Try.prog C (Instr.build 28 #[(0, v0), (1, v1), (8, v8)]) k = k (.agg #[v0, v1, .int .i64 0, .bool false, .bool false, .int .i64 0, .int .i64 0, .int .i64 0, .slice none 0 0, v8, .string ByteArray.empty, .string ByteArray.empty, .slice none 0 0, .int .i64 0, .int .i64 0])) ∧
  (∀ v1 : Value, v1.oneCell' = true → qV Try.prog C (Instr.build 28 #[(1, v1)]) k = k (.agg #[.string ByteArray.empty, v1, .int .i64 0, .bool false, .bool false, .int .i64 0, .int .i64 0, .int .i64 0, .slice none 0 0, .string ByteArray.empty, .string ByteArray.empty, .string ByteArray.empty, .slice none 0 0, .int .i64 0, .int .i64 0])) ∧
  (qV Try.prog C (Instr.build 31 #[]) k = k (.agg #[.int .i64 0, .int .i64 0])) ∧
  (∀ v0 v1 : Value, v0.oneCell' = true → v1.oneCell' = true → qV Try.prog C (Instr.build 31 #[(0, v0), (1, v1)]) k = k (.agg #[v0, v1])) ∧
  (∀ v1 : Value, v1.oneCell' = true → qV Try.prog C (Instr.build 31 #[(1, v1)]) k = k (.agg #[.int .i64 0, v1])) ∧
  (∀ v0 v2 v1 : Value, v0.oneCell' = true → v2.oneCell' = true → v1.oneCell' = true → qV Try.prog C (Instr.build 44 #[(0, v0), (2, v2), (1, v1)]) k = k (.agg #[v0, v1, v2])) ∧
  (∀ v1 : Value, v1.oneCell' = true → qV Try.prog C (Instr.build 44 #[(1, v1)]) k = k (.agg #[.string ByteArray.empty, v1, .string ByteArray.empty])) ∧
  (∀ v0 v1 : Value, v0.oneCell' = true → v1.oneCell' = true → qV Try.prog C (Instr.build 50 #[(0, v0), (1, v1)]) k = k (.agg #[v0, v1])) ∧
  (∀ v1 : Value, v1.oneCell' = true → qV Try.prog C (Instr.build 50 #[(1, v1)]) k = k (.agg #[.string ByteArray.empty, v1])) ∧
  (qV Try.prog C (Instr.build 68 #[]) k = k (.agg #[.int .i64 0, .int .i64 0, .int .i64 0])) ∧
  (∀ v0 v1 v2 : Value, v0.oneCell' = true → v1.oneCell' = true → v2.oneCell' = true → qV Try.prog C (Instr.build 68 #[(0, v0), (1, v1), (2, v2)]) k = k (.agg #[v0, v1, v2])) ∧
  (∀ v0 v1 : Value, v0.oneCell' = true → v1.oneCell' = true → qV Try.prog C (Instr.build 77 #[(0, v0), (1, v1)]) k = k (.agg #[v0, v1])) ∧
  (∀ v0_0 v0_1 v0_2 v1 v2 v3 v4 : Value, v1.oneCell' = true → v2.oneCell' = true → v3.oneCell' = true → v4.oneCell' = true → qV Try.prog C (Instr.build 101 #[(0, (.agg #[v0_0, v0_1, v0_2])), (1, v1), (2, v2), (3, v3), (4, v4)]) k = k (.agg #[v0_0, v0_1, v0_2, v1, v2, v3, v4, .string ByteArray.empty, .slice none 0 0])) ∧
  (∀ v0 v1 v2 v3 v4 v5 v6 v7 v8 v9 v10 v11 v12 : Value, v0.oneCell' = true → v1.oneCell' = true → v2.oneCell' = true → v3.oneCell' = true → v4.oneCell' = true → v5.oneCell' = true → v6.oneCell' = true → v7.oneCell' = true → v8.oneCell' = true → v9.oneCell' = true → v10.oneCell' = true → v11.oneCell' = true → v12.oneCell' = true → qV Try.prog C (Instr.build 116 #[(0, v0), (1, v1), (2, v2), (3, v3), (4, v4), (5, v5), (6, v6), (7, v7), (8, v8), (9, v9), (10, v10), (11, v11), (12, v12)]) k = k (.agg #[v0, v1, v2, v3, v4, v5, v6, v7, v8, v9, v10, v11, v12])) ∧
  (∀ v0 v1 : Value, v0.oneCell' = true → v1.oneCell' = true → qV Try.prog C (Instr.build 130 #[(0, v0), (1, v1)]) k = k (.agg #[v0, v1])) ∧
  (∀ q n, qV Try.prog C (Go.convert 5 3 (.int q n)) k = k (.int .i64 (IntKind.i64.wrap n))) ∧
  (∀ v, qV Try.prog C (Instr.makeInterface 68 v) k = k (.iface 68 v)) ∧
  (∀ v, qV Try.prog C (Instr.typeAssert (.iface 68 v) 20 68 true) k = k (.tuple #[v, .bool true])) :=
  ⟨(by intros; apply qV_of; intros; apply o67 <;> assumption), (by intros; apply qV_of; intros; apply o69 <;> assumption), (by intros; apply qV_of; intros; apply o72 <;> assumption), (by intros; apply qV_of; intros; apply o73 <;> assumption), (by intros; apply qV_of; intros; apply o80 <;> assumption), (by intros; apply qV_of; intros; apply o81 <;> assumption), (by intros; apply qV_of; intros; apply o82 <;> assumption), (by intros; apply qV_of; intros; apply o83 <;> assumption), (by intros; apply qV_of; intros; apply o84 <;> assumption), (by intros; apply qV_of; intros; apply o86 <;> assumption), (by intros; apply qV_of; intros; apply o87 <;> assumption), (by intros; apply qV_of; intros; apply o88 <;> assumption), (by intros; apply qV_of; intros; apply o89 <;> assumption), (by intros; apply qV_of; intros; apply o92 <;> assumption), (by intros; apply qV_of; intros; apply o93 <;> assumption), (by intros; apply qV_of; intros; apply o95 <;> assumption), (by intros; apply qV_of; intros; apply o96 <;> assumption), (by intros; apply qV_of; intros; apply o98 <;> assumption), (by intros; apply qV_of; intros; apply o99 <;> assumption), (by intros; apply qV_of; intros; apply o100 <;> assumption), (by intros; apply qV_of; intros; apply o101 <;> assumption), (by intros; apply qV_of; intros; apply o102 <;> assumption), (by intros; apply qV_of; intros; apply o103 <;> assumption), (by intros; apply qV_of; intros; apply o104 <;> assumption), (by intros; apply qV_of; intros; apply o105 <;> assumption), (by intros; apply qV_of; intros; apply o106 <;> assumption), (by intros; apply qV_of; intros; apply o107 <;> assumption), (by intros; apply qV_of; intros; apply o108 <;> assumption), (by intros; apply qV_of; intros; apply o109 <;> assumption), (by intros; apply qV_of; intros; apply o110 <;> assumption), (by intros; apply qV_of; intros; apply o111 <;> assumption), (by intros; apply qV_of; intros; apply o112 <;> assumption), (by intros; apply qV_of; intros; apply o113 <;> assumption), (by intros; apply qV_of; intros; apply o114 <;> assumption), (by intros; apply qV_of; intros; apply o115 <;> assumption), (by intros; apply qV_of; intros; apply o116 <;> assumption), (by intros; apply qV_of; intros; apply o117 <;> assumption), (by intros; apply qV_of; intros; apply o131 <;> assumption), (by intros; apply qV_of; intros; apply o132 <;> assumption), (by intros; apply qV_of; intros; apply o133 <;> assumption)⟩
theorem OPQ2 {C : World → Prop} [ClassNe C] {k : Value → Prop} : (∀ d v, qV Try.prog C (binS .neq 20 true (.iface d v) .nilIface) k = k (.bool true)) ∧
  (qV Try.prog C (binS .neq 20 true .nilIface .nilIface) k = k (.bool false)) ∧
  (∀ c A n m, qV Try.prog C (binS .eql 23 c (.slice A n m) (.slice none 0 0)) k = k (.bool A.isNone)) ∧
  (∀ c A n m, qV Try.prog C (binS .eql 26 c (.slice A n m) (.slice none 0 0)) k = k (.bool A.isNone)) ∧
  (∀ c (a0 b0 : Int) (a1 b1 : Int), qV Try.prog C (binS .eql 31 c (.agg #[.int .i64 a0, .int .i64 a1]) (.agg #[.int .i64 b0, .int .i64 b1])) k = k (.bool (decide (a0 = b0) && (decide (a1 = b1) && true)))) ∧
  (∀ c (a0 b0 : Int) (a1 b1 : Int), qV Try.prog C (binS .neq 31 c (.agg #[.int .i64 a0, .int .i64 a1]) (.agg #[.int .i64 b0, .int .i64 b1])) k = k (.bool (!(decide (a0 = b0) && (decide (a1 = b1) && true))))) ∧
  (∀ c A n m, qV Try.prog C (binS .eql 42 c (.slice A n m) (.slice none 0 0)) k = k (.bool A.isNone)) ∧
  (∀ c A n m, qV Try.prog C (binS .eql 48 c (.slice A n m) (.slice none 0 0)) k = k (.bool A.isNone)) ∧
  (∀ c f x y, qV Try.prog C (binS .neq 59 c (.func f x y) .nilFunc) k = k (.bool true)) ∧
  (∀ c f x y, qV Try.prog C (binS .eql 59 c (.func f x y) .nilFunc) k = k (.bool false)) ∧
  (∀ c (a0 b0 : Int) (a1 b1 : Int) (a2 b2 : ByteArray), qV Try.prog C (binS .eql 62 c (.agg #[.int .i64 a0, .int .i64 a1, .string a2]) (.agg #[.int .i64 b0, .int .i64 b1, .string b2])) k = k (.bool (decide (a0 = b0) && (decide (a1 = b1) && (decide (a2 = b2) && true))))) ∧
  (∀ c (a0 b0 : Int) (a1 b1 : Int) (a2 b2 : ByteArray), qV Try.prog C (binS .neq 62 c (.agg #[.int .i64 a0, .int .i64 a1, .string a2]) (.agg #[.int .i64 b0, .int .i64 b1, .string b2])) k = k (.bool (!(decide (a0 = b0) && (decide (a1 = b1) && (decide (a2 = b2) && true)))))) ∧
  (∀ c (a0 b0 : Int) (a1 b1 : Int) (a2 b2 : Int), qV Try.prog C (binS .eql 68 c (.agg #[.int .i64 a0, .int .i64 a1, .int .i64 a2]) (.agg #[.int .i64 b0, .int .i64 b1, .int .i64 b2])) k = k (.bool (decide (a0 = b0) && (decide (a1 = b1) && (decide (a2 = b2) && true))))) ∧
  (∀ c (a0 b0 : Int) (a1 b1 : Int) (a2 b2 : Int), qV Try.prog C (binS .neq 68 c (.agg #[.int .i64 a0, .int .i64 a1, .int .i64 a2]) (.agg #[.int .i64 b0, .int .i64 b1, .int .i64 b2])) k = k (.bool (!(decide (a0 = b0) && (decide (a1 = b1) && (decide (a2 = b2) && true)))))) ∧
  (∀ c (a0 b0 : ByteArray) (a1 b1 : Int), qV Try.prog C (binS .eql 77 c (.agg #[.string a0, .int .i64 a1]) (.agg #[.string b0, .int .i64 b1])) k = k (.bool (decide (a0 = b0) && (decide (a1 = b1) && true)))) ∧
  (∀ c (a0 b0 : ByteArray) (a1 b1 : Int), qV Try.prog C (binS .neq 77 c (.agg #[.string a0, .int .i64 a1]) (.agg #[.string b0, .int .i64 b1])) k = k (.bool (!(decide (a0 = b0) && (decide (a1 = b1) && true))))) ∧
  (∀ c (a0 b0 : ByteArray) (a1 b1 : ByteArray) (a2 b2 : ByteArray) (a3 b3 : ByteArray) (a4 b4 : Int) (a5 b5 : Int) (a6 b6 : Int) (a7 b7 : Int) (a8 b8 : Int) (a9 b9 : Int) (a10 b10 : Int) (a11 b11 : Bool) (a12 b12 : Bool), qV Try.prog C (binS .eql 116 c (.agg #[.string a0, .string a1, .string a2, .string a3, .int .i64 a4, .int .i64 a5, .int .i64 a6, .int .i64 a7, .int .i64 a8, .int .i64 a9, .int .i64 a10, .bool a11, .bool a12]) (.agg #[.string b0, .string b1, .string b2, .string b3, .int .i64 b4, .int .i64 b5, .int .i64 b6, .int .i64 b7, .int .i64 b8, .int .i64 b9, .int .i64 b10, .bool b11, .bool b12])) k = k (.bool (decide (a0 = b0) && (decide (a1 = b1) && (decide (a2 = b2) && (decide (a3 = b3) && (decide (a4 = b4) && (decide (a5 = b5) && (decide (a6 = b6) && (decide (a7 = b7) && (decide (a8 = b8) && (decide (a9 = b9) && (decide (a10 = b10) && (decide (a11 = b11) && (decide (a12 = b12) && true))))))))))))))) ∧
  (∀ c (a0 b0 : ByteArray) (a1 b1 : ByteArray) (a2 b2 : ByteArray) (a3 b3 : ByteArray) (a4 b4 : Int) (a5 b5 : Int) (a6 b6 : Int) (a7 b7 : Int) (a8 b8 : Int) (a9 b9 : Int) (a10 b10 : Int) (a11 b11 : Bool) (a12 b12 : Bool), qV Try.prog C (binS .neq 116 c (.agg #[.string a0, .string a1, .string a2, .string a3, .int .i64 a4, .int .i64 a5, .int .i64 a6, .int .i64 a7, .int .i64 a8, .int .i64 a9, .int .i64 a10, .bool a11, .bool a12]) (.agg #[.string b0, .string b1, .string b2, .string b3, .int .i64 b4, .int .i64 b5, .int .i64 b6, .int .i64 b7, .int .i64 b8, .int .i64 b9, .int .i64 b10, .bool b11, .bool b12])) k = k (.bool (!(decide (a0 = b0) && (decide (a1 = b1) && (decide (a2 = b2) && (decide (a3 = b3) && (decide (a4 = b4) && (decide (a5 = b5) && (decide (a6 = b6) && (decide (a7 = b7) && (decide (a8 = b8) && (decide (a9 = b9) && (decide (a10 = b10) && (decide (a11 = b11) && (decide (a12 = b12) && true)))))))))))))))) :=
  ⟨(by intros; apply qV_of; intros; apply o134 <;> assumption), (by intros; apply qV_of; intros; apply o135 <;> assumption), (by intros; apply qV_of; intros; apply o136 <;> assumption), (by intros; apply qV_of; intros; apply o137 <;> assumption), (by intros; apply qV_of; intros; apply o138 <;> assumption), (by intros; apply qV_of; intros; apply o139 <;> assumption), (by intros; apply qV_of; intros; apply o140 <;> assumption), (by intros; apply qV_of; intros; apply o141 <;> assumption), (by intros; apply qV_of; intros; apply o142 <;> assumption), (by intros; apply qV_of; intros; apply o143 <;> assumption), (by intros; apply qV_of; intros; apply o144 <;> assumption), (by intros; apply qV_of; intros; apply o145 <;> assumption), (by intros; apply qV_of; intros; apply o146 <;> assumption), (by intros; apply qV_of; intros; apply o147 <;> assumption), (by intros; apply qV_of; intros; apply o148 <;> assumption), (by intros; apply qV_of; intros; apply o149 <;> assumption), (by intros; apply qV_of; intros; apply o150 <;> assumption), (by intros; apply qV_of; intros; apply o151 <;> assumption)⟩
end
theorem PR : type_of% (And.intro @GEN <| And.intro @op_makeMap <| And.intro @CTL <| And.intro @GENQ <| And.intro @o0 <| And.intro @o1 <| And.intro @o2 <| And.intro @o3 <| And.intro @o4 <| And.intro @o5 <| And.intro @o6 <| And.intro @o7 <| And.intro @o8 <| And.intro @o9 <| And.intro @o10 <| And.intro @o11 <| And.intro @o12 <| And.intro @o13 <| And.intro @o14 <| And.intro @o15 <| And.intro @o16 <| And.intro @o17 <| And.intro @o18 <| And.intro @o19 <| And.intro @o20 <| And.intro @o21 <| And.intro @o22 <| And.intro @o23 <| And.intro @o24 <| And.intro @o25 <| And.intro @o26 <| And.intro @o27 <| And.intro @o28 <| And.intro @o29 <| And.intro @o30 <| And.intro @o31 <| And.intro @o32 <| And.intro @o33 <| And.intro @o34 <| And.intro @o35 <| And.intro @o36 <| And.intro @o37 <| And.intro @o38 <| And.intro @o39 <| And.intro @o40 <| And.intro @o41 <| And.intro @o42 <| And.intro @o43 <| And.intro @o44 <| And.intro @o45 <| And.intro @o46 <| And.intro @o47 <| And.intro @o48 <| And.intro @o49 <| And.intro @o50 <| And.intro @o51 <| And.intro @o52 <| And.intro @o53 <| And.intro @o54 <| And.intro @o55 <| And.intro @o56 <| And.intro @o57 <| And.intro @o58 <| And.intro @o59 <| And.intro @o60 <| And.intro @o61 <| And.intro @o62 <| And.intro @o63 <| And.intro @o64 <| And.intro @o65 <| And.intro @o66 <| And.intro @o67 <| And.intro @o68 <| And.intro @o69 <| And.intro @o70 <| And.intro @o71 <| And.intro @o72 <| And.intro @o73 <| And.intro @o74 <| And.intro @o75 <| And.intro @o76 <| And.intro @o77 <| And.intro @o78 <| And.intro @o79 <| And.intro @o80 <| And.intro @o81 <| And.intro @o82 <| And.intro @o83 <| And.intro @o84 <| And.intro @o85 <| And.intro @o86 <| And.intro @o87 <| And.intro @o88 <| And.intro @o89 <| And.intro @o90 <| And.intro @o91 <| And.intro @o92 <| And.intro @o93 <| And.intro @o94 <| And.intro @o95 <| And.intro @o96 <| And.intro @o97 <| And.intro @o98 <| And.intro @o99 <| And.intro @o100 <| And.intro @o101 <| And.intro @o102 <| And.intro @o103 <| And.intro @o104 <| And.intro @o105 <| And.intro @o106 <| And.intro @o107 <| And.intro @o108 <| And.intro @o109 <| And.intro @o110 <| And.intro @o111 <| And.intro @o112 <| And.intro @o113 <| And.intro @o114 <| And.intro @o115 <| And.intro @o116 <| And.intro @o117 <| And.intro @o118 <| And.intro @o119 <| And.intro @o120 <| And.intro @o121 <| And.intro @o122 <| And.intro @o123 <| And.intro @o124 <| And.intro @o125 <| And.intro @o126 <| And.intro @o127 <| And.intro @o128 <| And.intro @o129 <| And.intro @o130 <| And.intro @o131 <| And.intro @o132 <| And.intro @o133 <| And.intro @o134 <| And.intro @o135 <| And.intro @o136 <| And.intro @o137 <| And.intro @o138 <| And.intro @o139 <| And.intro @o140 <| And.intro @o141 <| And.intro @o142 <| And.intro @o143 <| And.intro @o144 <| And.intro @o145 <| And.intro @o146 <| And.intro @o147 <| And.intro @o148 <| And.intro @o149 <| And.intro @o150 <| And.intro @o151 <| And.intro @OPU0 <| And.intro @OPW0 <| And.intro @OPW1 <| And.intro @OPQ0 <| And.intro @OPQ1 <| And.intro @OPQ2 <| And.intro @joinK_eq <| And.intro @op_rem <| And.intro @qV_shl <| And.intro @qV_rem <| And.intro @guard_undef <| @op_shl) := (And.intro @GEN <| And.intro @op_makeMap <| And.intro @CTL <| And.intro @GENQ <| And.intro @o0 <| And.intro @o1 <| And.intro @o2 <| And.intro @o3 <| And.intro @o4 <| And.intro @o5 <| And.intro @o6 <| And.intro @o7 <| And.intro @o8 <| And.intro @o9 <| And.intro @o10 <| And.intro @o11 <| And.intro @o12 <| And.intro @o13 <| And.intro @o14 <| And.intro @o15 <| And.intro @o16 <| And.intro @o17 <| And.intro @o18 <| And.intro @o19 <| And.intro @o20 <| And.intro @o21 <| And.intro @o22 <| And.intro @o23 <| And.intro @o24 <| And.intro @o25 <| And.intro @o26 <| And.intro @o27 <| And.intro @o28 <| And.intro @o29 <| And.intro @o30 <| And.intro @o31 <| And.intro @o32 <| And.intro @o33 <| And.intro @o34 <| And.intro @o35 <| And.intro @o36 <| And.intro @o37 <| And.intro @o38 <| And.intro @o39 <| And.intro @o40 <| And.intro @o41 <| And.intro @o42 <| And.intro @o43 <| And.intro @o44 <| And.intro @o45 <| And.intro @o46 <| And.intro @o47 <| And.intro @o48 <| And.intro @o49 <| And.intro @o50 <| And.intro @o51 <| And.intro @o52 <| And.intro @o53 <| And.intro @o54 <| And.intro @o55 <| And.intro @o56 <| And.intro @o57 <| And.intro @o58 <| And.intro @o59 <| And.intro @o60 <| And.intro @o61 <| And.intro @o62 <| And.intro @o63 <| And.intro @o64 <| And.intro @o65 <| And.intro @o66 <| And.intro @o67 <| And.intro @o68 <| And.intro @o69 <| And.intro @o70 <| And.intro @o71 <| And.intro @o72 <| And.intro @o73 <| And.intro @o74 <| And.intro @o75 <| And.intro @o76 <| And.intro @o77 <| And.intro @o78 <| And.intro @o79 <| And.intro @o80 <| And.intro @o81 <| And.intro @o82 <| And.intro @o83 <| And.intro @o84 <| And.intro @o85 <| And.intro @o86 <| And.intro @o87 <| And.intro @o88 <| And.intro @o89 <| And.intro @o90 <| And.intro @o91 <| And.intro @o92 <| And.intro @o93 <| And.intro @o94 <| And.intro @o95 <| And.intro @o96 <| And.intro @o97 <| And.intro @o98 <| And.intro @o99 <| And.intro @o100 <| And.intro @o101 <| And.intro @o102 <| And.intro @o103 <| And.intro @o104 <| And.intro @o105 <| And.intro @o106 <| And.intro @o107 <| And.intro @o108 <| And.intro @o109 <| And.intro @o110 <| And.intro @o111 <| And.intro @o112 <| And.intro @o113 <| And.intro @o114 <| And.intro @o115 <| And.intro @o116 <| And.intro @o117 <| And.intro @o118 <| And.intro @o119 <| And.intro @o120 <| And.intro @o121 <| And.intro @o122 <| And.intro @o123 <| And.intro @o124 <| And.intro @o125 <| And.intro @o126 <| And.intro @o127 <| And.intro @o128 <| And.intro @o129 <| And.intro @o130 <| And.intro @o131 <| And.intro @o132 <| And.intro @o133 <| And.intro @o134 <| And.intro @o135 <| And.intro @o136 <| And.intro @o137 <| And.intro @o138 <| And.intro @o139 <| And.intro @o140 <| And.intro @o141 <| And.intro @o142 <| And.intro @o143 <| And.intro @o144 <| And.intro @o145 <| And.intro @o146 <| And.intro @o147 <| And.intro @o148 <| And.intro @o149 <| And.intro @o150 <| And.intro @o151 <| And.intro @OPU0 <| And.intro @OPW0 <| And.intro @OPW1 <| And.intro @OPQ0 <| And.intro @OPQ1 <| And.intro @OPQ2 <| And.intro @joinK_eq <| And.intro @op_rem <| And.intro @qV_shl <| And.intro @qV_rem <| And.intro @guard_undef <| @op_shl)
theorem QR : type_of% (And.intro @OPA0 <| And.intro @dirty_eq <| And.intro @onCells_nil <| And.intro @onCells_some <| And.intro @onFree_nil <| And.intro @onFree_false <| And.intro @guard_or <| And.intro @guard_and <| And.intro @STD <| And.intro @heap_newE <| And.intro @heap_oldE <| And.intro @heap_drewE <| And.intro @heap_setE <| And.intro @cell_newE <| And.intro @frozen_newE <| And.intro @set_newE <| And.intro @cell_old <| And.intro @frozen_old <| And.intro @set_old <| And.intro @wrap_succ <| And.intro @List.setIfInBounds_toArray.{0} <| And.intro @List.set_cons_zero.{0} <| And.intro @List.set_cons_succ.{0} <| And.intro @decide_true <| And.intro @decide_false <| And.intro @Bool.false_eq_true <| And.intro @if_false.{1} <| And.intro @if_true.{1} <| And.intro @Option.isSome_some.{0} <| And.intro @Option.isSome_none.{0} <| And.intro @Option.getD_some.{0} <| And.intro @Option.getD_none.{0} <| And.intro @cell_set_map <| And.intro @cell_set_other <| And.intro @Option.map_some.{0, 0} <| And.intro @List.getElem?_toArray.{0} <| And.intro @List.getElem?_cons_succ.{0} <| And.intro @List.getElem?_cons_zero.{0} <| And.intro @Nat.zero_add <| And.intro @Nat.add_zero <| And.intro @World.size_alloc <| And.intro @World.size_setCell <| And.intro @World.size_drew <| And.intro @World.putObj_size <| And.intro @putW_size <| And.intro @Bool.not_true <| And.intro @Bool.not_false <| And.intro @Bool.and_true <| And.intro @Bool.true_and <| And.intro @Bool.and_false <| And.intro @Bool.false_and <| And.intro @Bool.or_true <| And.intro @Bool.true_or <| And.intro @Bool.or_false <| And.intro @Bool.false_or <| @Bool.not_not) := (And.intro @OPA0 <| And.intro @dirty_eq <| And.intro @onCells_nil <| And.intro @onCells_some <| And.intro @onFree_nil <| And.intro @onFree_false <| And.intro @guard_or <| And.intro @guard_and <| And.intro @STD <| And.intro @heap_newE <| And.intro @heap_oldE <| And.intro @heap_drewE <| And.intro @heap_setE <| And.intro @cell_newE <| And.intro @frozen_newE <| And.intro @set_newE <| And.intro @cell_old <| And.intro @frozen_old <| And.intro @set_old <| And.intro @wrap_succ <| And.intro @List.setIfInBounds_toArray.{0} <| And.intro @List.set_cons_zero.{0} <| And.intro @List.set_cons_succ.{0} <| And.intro @decide_true <| And.intro @decide_false <| And.intro @Bool.false_eq_true <| And.intro @if_false.{1} <| And.intro @if_true.{1} <| And.intro @Option.isSome_some.{0} <| And.intro @Option.isSome_none.{0} <| And.intro @Option.getD_some.{0} <| And.intro @Option.getD_none.{0} <| And.intro @cell_set_map <| And.intro @cell_set_other <| And.intro @Option.map_some.{0, 0} <| And.intro @List.getElem?_toArray.{0} <| And.intro @List.getElem?_cons_succ.{0} <| And.intro @List.getElem?_cons_zero.{0} <| And.intro @Nat.zero_add <| And.intro @Nat.add_zero <| And.intro @World.size_alloc <| And.intro @World.size_setCell <| And.intro @World.size_drew <| And.intro @World.putObj_size <| And.intro @putW_size <| And.intro @Bool.not_true <| And.intro @Bool.not_false <| And.intro @Bool.and_true <| And.intro @Bool.true_and <| And.intro @Bool.and_false <| And.intro @Bool.false_and <| And.intro @Bool.or_true <| And.intro @Bool.true_or <| And.intro @Bool.or_false <| And.intro @Bool.false_or <| @Bool.not_not)
theorem SZ : type_of% (And.intro @World.size_alloc <| And.intro @World.size_setCell <| And.intro @World.size_drew <| And.intro @World.putObj_size <| @putW_size) := (And.intro @World.size_alloc <| And.intro @World.size_setCell <| And.intro @World.size_drew <| And.intro @World.putObj_size <| @putW_size)
theorem ee {a b : World} (h : Ext a b := by repeat' first | exact Ext.refl _ | assumption | apply Ext.alloc | apply Ext.wdrew | apply Ext.drew | (refine Ext.setCell ?_ (by first | omega | (simp only [SZ] at *; omega)) _) | (refine Ext.putObj ?_ (by first | omega | (simp only [SZ] at *; omega)) _) | (refine Ext.trans ?_ (by assumption))) : Ext a b := h
end Go.Proofs.Ytiajhbbmgglmlaa
namespace Go.Proofs.Ytiajhbbmgglmlaa
open Sw
structure TermD where
  field : ByteArray
  factor : Int
 deriving DecidableEq
structure CaseD where
  low : Int
  high : Int
  of : ByteArray
 deriving DecidableEq
structure FieldD where
  name : ByteArray
  kind : Int
  bits : Int
  little : Bool
  loose : Bool
  low : Int
  high : Int
  base : Int
  terms : List TermD
  of : ByteArray
  tag : ByteArray
  fr : ByteArray
  cases : List CaseD
  check : Int
  key : Int
 deriving DecidableEq
structure MsgD where
  name : ByteArray
  fields : List FieldD
 deriving DecidableEq
structure DefD where
  name : ByteArray
  msgs : List MsgD
  start : ByteArray
 deriving DecidableEq
abbrev termCells (t : TermD) : List Value := [.string t.field, .int .i64 t.factor]
abbrev caseCells (c : CaseD) : List Value := [.int .i64 c.low, .int .i64 c.high, .string c.of]
abbrev fieldCells (f : FieldD) (tv cv : Value) : List Value := [.string f.name, .int .i64 f.kind, .int .i64 f.bits, .bool f.little, .bool f.loose, .int .i64 f.low, .int .i64 f.high, .int .i64 f.base, tv, .string f.of, .string f.tag, .string f.fr, cv, .int .i64 f.check, .int .i64 f.key]
abbrev msgCells (m : MsgD) (fv : Value) : List Value := [.string m.name, fv]
abbrev defCells (d : DefD) (mv : Value) : List Value := [.string d.name, mv, .string d.start]
def ETerm (_ : World) (cs : List Value) (t : TermD) : Prop := cs = termCells t
def ECase (_ : World) (cs : List Value) (c : CaseD) : Prop := cs = caseCells c
def TermsOf (w : World) (v : Value) (l : List TermD) : Prop := SliceOf w 2 ETerm v l
def CasesOf (w : World) (v : Value) (l : List CaseD) : Prop := SliceOf w 3 ECase v l
def EField (w : World) (cs : List Value) (f : FieldD) : Prop := ∃ tv cv, cs = fieldCells f tv cv ∧ TermsOf w tv f.terms ∧ CasesOf w cv f.cases
def FieldsOf (w : World) (v : Value) (l : List FieldD) : Prop := SliceOf w 15 EField v l
def EMsg (w : World) (cs : List Value) (m : MsgD) : Prop := ∃ fv, cs = msgCells m fv ∧ FieldsOf w fv m.fields
def MsgsOf (w : World) (v : Value) (l : List MsgD) : Prop := SliceOf w 2 EMsg v l
def EByte (_ : World) (cs : List Value) (b : UInt8) : Prop := cs = [.int .u8 b.toNat]
def EBool (_ : World) (cs : List Value) (b : Bool) : Prop := cs = [.bool b]
def EStr (_ : World) (cs : List Value) (s : ByteArray) : Prop := cs = [.string s]
def EInt (_ : World) (cs : List Value) (n : Int) : Prop := cs = [.int .i64 n]
theorem keptTerm : Kept ETerm := fun _ _ _ _ _ h => h
theorem keptCase : Kept ECase := fun _ _ _ _ _ h => h
theorem keptStr : Kept EStr := fun _ _ _ _ _ h => h
theorem keptField : Kept EField := fun _ _ _ _ e ⟨tv, cv, h, h1, h2⟩ => ⟨tv, cv, h, h1.ext keptTerm e, h2.ext keptCase e⟩
theorem keptMsg : Kept EMsg := fun _ _ _ _ e ⟨fv, h, h1⟩ => ⟨fv, h, h1.ext keptField e⟩
theorem TermsOf.ext {w w' : World} {v : Value} {l : List TermD} (h : TermsOf w v l) (e : Ext w w') : TermsOf w' v l := SliceOf.ext keptTerm h e
theorem CasesOf.ext {w w' : World} {v : Value} {l : List CaseD} (h : CasesOf w v l) (e : Ext w w') : CasesOf w' v l := SliceOf.ext keptCase h e
theorem FieldsOf.ext {w w' : World} {v : Value} {l : List FieldD} (h : FieldsOf w v l) (e : Ext w w') : FieldsOf w' v l := SliceOf.ext keptField h e
theorem MsgsOf.ext {w w' : World} {v : Value} {l : List MsgD} (h : MsgsOf w v l) (e : Ext w w') : MsgsOf w' v l := SliceOf.ext keptMsg h e
theorem EField.op {w : World} {cs : List Value} {f : FieldD} (h : EField w cs f) : ∃ tv cv, cs = fieldCells f tv cv ∧ TermsOf w tv f.terms ∧ CasesOf w cv f.cases ∧ tv.oneCell' = true ∧ cv.oneCell' = true := by
  obtain ⟨tv, cv, h1, h2, h3⟩ := h; exact ⟨tv, cv, h1, h2, h3, SliceOf.oneCell h2, SliceOf.oneCell h3⟩
def FieldVal (w : World) (v : Value) (f : FieldD) : Prop := ∃ tv cv, v = .agg (fieldCells f tv cv).toArray ∧ TermsOf w tv f.terms ∧ CasesOf w cv f.cases
def MsgVal (w : World) (v : Value) (m : MsgD) : Prop := ∃ fv, v = .agg (msgCells m fv).toArray ∧ FieldsOf w fv m.fields
def DefVal (w : World) (v : Value) (d : DefD) : Prop := ∃ mv, v = .agg (defCells d mv).toArray ∧ MsgsOf w mv d.msgs
def SizeVal (w : World) (v : Value) (base : Int) (ts : List TermD) : Prop := ∃ tv, v = .agg #[.int .i64 base, tv] ∧ TermsOf w tv ts
def termVal (t : TermD) : Value := .agg (termCells t).toArray
theorem FieldVal.ext {w w' : World} {v : Value} {f : FieldD} (h : FieldVal w v f) (e : Ext w w') : FieldVal w' v f := by obtain ⟨tv, cv, h, h1, h2⟩ := h; exact ⟨tv, cv, h, h1.ext e, h2.ext e⟩
theorem FieldVal.op {w : World} {v : Value} {f : FieldD} (h : FieldVal w v f) : ∃ tv cv, v = .agg (fieldCells f tv cv).toArray ∧ TermsOf w tv f.terms ∧ CasesOf w cv f.cases ∧ tv.oneCell' = true ∧ cv.oneCell' = true := by
  obtain ⟨tv, cv, h1, h2, h3⟩ := h; exact ⟨tv, cv, h1, h2, h3, SliceOf.oneCell h2, SliceOf.oneCell h3⟩
theorem MsgVal.ext {w w' : World} {v : Value} {m : MsgD} (h : MsgVal w v m) (e : Ext w w') : MsgVal w' v m := by obtain ⟨fv, h, h1⟩ := h; exact ⟨fv, h, h1.ext e⟩
theorem DefVal.ext {w w' : World} {v : Value} {d : DefD} (h : DefVal w v d) (e : Ext w w') : DefVal w' v d := by obtain ⟨fv, h, h1⟩ := h; exact ⟨fv, h, h1.ext e⟩
theorem SizeVal.ext {w w' : World} {v : Value} {b : Int} {ts : List TermD} (h : SizeVal w v b ts) (e : Ext w w') : SizeVal w' v b ts := by obtain ⟨fv, h, h1⟩ := h; exact ⟨fv, h, h1.ext e⟩
def Tests {α : Type} (w0 : World) (V : World → Value → α → Prop) (g : FuncId) (caps : Array Value) (p : α → Bool) (l : List α) : Prop :=
  ∀ w v x, x ∈ l → Ext w0 w → V w v x → Ret Try.prog g (#[v] ++ caps) w fun r w' => r = .bool (p x) ∧ Ext w w'
end Go.Proofs.Ytiajhbbmgglmlaa
namespace Go.Sw
section
variable {P : Program} {N : Nat} {ro : Option Nat} {QP : KP} {T : Env → List Deferred → World → Prop} {o : Oper} {rest : List Oper} {ρ : Env} {ds : List Deferred} {w : World}
theorem zm {v : Value} (h : denSeq P N ro QP T rest (put N ρ o.dst v) ds w) (hs : execOp (ev ρ) o = Sem.pure (.value v) := by exact rfl) (hd : isDefer o.op = false := by exact rfl) : denSeq P N ro QP T (o :: rest) ρ ds w := sim_move hd hs h
theorem zv {s : Sem Value} {QP' : List PanicEntry → World → Prop} {k : Value → World → Prop} (h : opV P s QP' w k) (hk : ∀ v w, k v w → denSeq P N ro QP T rest (put N ρ o.dst v) ds w) (hs : execOp (ev ρ) o = (do pure (.value (← s))) := by exact rfl) (hd : isDefer o.op = false := by exact rfl) (hp : ∀ ch w, QP' ch w → QP ch ρ ds w := by exact fun _ _ h => ⟨rfl, h⟩) : denSeq P N ro QP T (o :: rest) ρ ds w := sim_val h hd hs hp hk
theorem zq {s : Sem Value} {QP' : List PanicEntry → World → Prop} {k : Value → World → Prop} (h : opV P s QP' w k) (hk : ∀ v w, k v w → denSeq P N ro QP T rest (put N ρ o.dst v) ds w) (hs : execOp (ev ρ) o = (do pure (.value (← s))) := by exact rfl) (hd : isDefer o.op = false := by exact rfl) (hp : ∀ ch w, QP' ch w → QP ch ρ ds w := by exact fun _ _ h => outQ_of rfl h) : denSeq P N ro QP T (o :: rest) ρ ds w := sim_val h hd hs hp hk
theorem zu {s : Sem Unit} {QP' : List PanicEntry → World → Prop} {k : World → Prop} (h : opU P s QP' w k) (hk : ∀ w, k w → denSeq P N ro QP T rest (put N ρ o.dst undef) ds w) (hs : execOp (ev ρ) o = (do s; pure .skip) := by exact rfl) (hd : isDefer o.op = false := by exact rfl) (hp : ∀ ch w, QP' ch w → QP ch ρ ds w := by exact fun _ _ h => ⟨rfl, h⟩) : denSeq P N ro QP T (o :: rest) ρ ds w := sim_unit h hd hs hp hk
theorem zb {op : BinOp} {t ty : TypeId} {x y : Operand} {d : Nat} {t2 : TypeId} {pos : String} {after : Array Edge} {g : Option (Nat × Bool)} {c : Bool} {a b : Value} {QP' : List PanicEntry → World → Prop} {k : Value → World → Prop}
    (h : opV P (binS op t c a b) QP' w k) (hk : ∀ v w', k v w' → denSeq P N ro QP T rest (put N ρ (some d) v) ds w') (hc : (isConst x || isConst y) = c := by exact rfl) (h1 : ev ρ x = a := by exact rfl) (h2 : ev ρ y = b := by exact rfl) (hp : ∀ ch w, QP' ch w → QP ch ρ ds w := by exact fun _ _ h => ⟨rfl, h⟩) :
    denSeq P N ro QP T (⟨some d, .binOp op t x y t2, ty, pos, after, g⟩ :: rest) ρ ds w := sim_bin h hc h1 h2 hp hk
theorem zc {f : FuncId} {l : List Operand} {ats : Array TypeId} {ty : TypeId} {dst : Option Nat} {pos : String} {after : Array Edge} {g : Option (Nat × Bool)} {args : List Value} {QP' : List PanicEntry → World → Prop} {k : Value → World → Prop}
    (h : callK P f args.toArray QP' w k) (hf : Callable P f) (hk : ∀ v w', k v w' → denSeq P N ro QP T rest (put N ρ dst v) ds w') (h2 : l.map (ev ρ) = args := by exact rfl) (hp : ∀ ch w, QP' ch w → QP ch ρ ds w := by exact fun _ _ h => ⟨rfl, h⟩) :
    denSeq P N ro QP T (⟨dst, .call ⟨.value (.func f), l.toArray, ats⟩, ty, pos, after, g⟩ :: rest) ρ ds w := sim_call h hf h2 hp hk
theorem zx {b : Builtin} {l : List Operand} {ats : Array TypeId} {ty : TypeId} {d : Nat} {pos : String} {after : Array Edge} {g : Option (Nat × Bool)} {s : Sem Value} {QP' : List PanicEntry → World → Prop} {k : Value → World → Prop}
    (h : opV P s QP' w k) (hk : ∀ v w', k v w' → denSeq P N ro QP T rest (put N ρ (some d) v) ds w') (hs : builtin b ats ty ((l.map fun | .const _ => true | _ => false).toArray) (l.map (ev ρ)).toArray = (do pure (.value (← s))) := by exact rfl) (hp : ∀ ch w, QP' ch w → QP ch ρ ds w := by exact fun _ _ h => ⟨rfl, h⟩) :
    denSeq P N ro QP T (⟨some d, .call ⟨.builtin b, l.toArray, ats⟩, ty, pos, after, g⟩ :: rest) ρ ds w := sim_builtin h hs hp hk
theorem zt {S : List Nat} {J G : Env → World → Prop} (hT : ∀ ρ' w, Fr S ρ ρ' → J ρ' w → G ρ' w) {ρ' : Env} {w : World} (h : J ρ' w) (hf : Fr S ρ ρ' := by repeat (first | exact Fr.refl _ _ | refine Fr.put rfl ?_ | refine Fr.put_none ?_ | refine Fr.mix rfl ?_ | refine Fr.skipAll rfl ?_)) : G ρ' w := hT ρ' w hf h
end
section
variable {P : Program} {N : Nat} {ro : Option Nat} {ops : Array Oper} {Q : Env → List Deferred → World → Prop} {QP0 : List PanicEntry → List Deferred → World → Prop} {C : World → Prop}
theorem ze (i : Nat) {fuel : Nat} {done : List Nat} {o : Oper} {ρ : Env} {ds : List Deferred} {w : World} {k : Value → Prop} (hC : C w) {s : Sem Value} (h : qV P C s k) (hk : ∀ v, k v → denD P N ro ops Q (fun ch _ ds w => QP0 ch ds w) C fuel (i :: done) (put N ρ o.dst v) ds w)
    (hi : ops[i]? = some o := by exact rfl) (hr : (readyL ops done).contains i = true := by kernel_rfl) (hf : freeB ops done i = true := by kernel_rfl) (hg : ∀ p q, guardO ops o ρ p q = p := by exact fun _ _ => rfl) (hd : isDefer o.op = false := by exact rfl) (hs : execOp (ev ρ) o = (do pure (.value (← s))) := by exact rfl) :
    denD P N ro ops Q (fun ch _ ds w => QP0 ch ds w) C (fuel + 1) done ρ ds w := let ⟨v, hv, hkv⟩ := h; sim_dsilent i hC hi hr hf hg hd (qV_run hs hv) (hk v hkv)
theorem zw (i : Nat) {fuel : Nat} {done : List Nat} {o : Oper} {v : Value} {ρ : Env} {ds : List Deferred} {w : World} (hC : C w) (h : denD P N ro ops Q (fun ch _ ds w => QP0 ch ds w) C fuel (i :: done) (put N ρ o.dst v) ds w)
    (hi : ops[i]? = some o := by exact rfl) (hr : (readyL ops done).contains i = true := by kernel_rfl) (hf : freeB ops done i = true := by kernel_rfl) (hg : ∀ p q, guardO ops o ρ p q = p := by exact fun _ _ => rfl) (hd : isDefer o.op = false := by exact rfl) (hs : execOp (ev ρ) o = Sem.pure (.value v) := by exact rfl) :
    denD P N ro ops Q (fun ch _ ds w => QP0 ch ds w) C (fuel + 1) done ρ ds w := sim_dsilent i hC hi hr hf hg hd (move_run hs) h
end
theorem zr {P : Program} {N : Nat} {ro : Option Nat} {id : Nat} {l : List Oper} {Q : K} {QP : KP} {ρ : Env} {ds : List Deferred} {w : World} (h : denSeq P N ro QP (fun ρ ds w => Q .normal ρ ds w) l ρ ds w) (hu : unguarded l = true := by exact rfl) : den P N ro (.region id l.toArray false) Q QP ρ ds w := sim_region hu h
theorem zn : type_of% @sim_nil := @sim_nil
theorem zk : type_of% @sim_then := @sim_then
theorem zs : type_of% @sim_seq := @sim_seq
end Go.Sw
namespace Go.Proofs.Ytiajhbbmgglmlaa
open Sw
theorem c3 : Sw.Callable Try.prog 3 := ⟨_, Try.func3, by kernel_rfl, rfl⟩
theorem c4 : Sw.Callable Try.prog 4 := ⟨_, Try.func4, by kernel_rfl, rfl⟩
theorem c5 : Sw.Callable Try.prog 5 := ⟨_, Try.func5, by kernel_rfl, rfl⟩
theorem c6 : Sw.Callable Try.prog 6 := ⟨_, Try.func6, by kernel_rfl, rfl⟩
theorem c7 : Sw.Callable Try.prog 7 := ⟨_, Try.func7, by kernel_rfl, rfl⟩
theorem c8 : Sw.Callable Try.prog 8 := ⟨_, Try.func8, by kernel_rfl, rfl⟩
theorem c9 : Sw.Callable Try.prog 9 := ⟨_, Try.func9, by kernel_rfl, rfl⟩
theorem c10 : Sw.Callable Try.prog 10 := ⟨_, Try.func10, by kernel_rfl, rfl⟩
theorem c11 : Sw.Callable Try.prog 11 := ⟨_, Try.func11, by kernel_rfl, rfl⟩
theorem c12 : Sw.Callable Try.prog 12 := ⟨_, Try.func12, by kernel_rfl, rfl⟩
theorem c13 : Sw.Callable Try.prog 13 := ⟨_, Try.func13, by kernel_rfl, rfl⟩
theorem c14 : Sw.Callable Try.prog 14 := ⟨_, Try.func14, by kernel_rfl, rfl⟩
theorem c15 : Sw.Callable Try.prog 15 := ⟨_, Try.func15, by kernel_rfl, rfl⟩
theorem c17 : Sw.Callable Try.prog 17 := ⟨_, Try.func17, by kernel_rfl, rfl⟩
theorem c18 : Sw.Callable Try.prog 18 := ⟨_, Try.func18, by kernel_rfl, rfl⟩
theorem c20 : Sw.Callable Try.prog 20 := ⟨_, Try.func20, by kernel_rfl, rfl⟩
theorem c22 : Sw.Callable Try.prog 22 := ⟨_, Try.func22, by kernel_rfl, rfl⟩
theorem c23 : Sw.Callable Try.prog 23 := ⟨_, Try.func23, by kernel_rfl, rfl⟩
theorem c24 : Sw.Callable Try.prog 24 := ⟨_, Try.func24, by kernel_rfl, rfl⟩
theorem c26 : Sw.Callable Try.prog 26 := ⟨_, Try.func26, by kernel_rfl, rfl⟩
theorem c27 : Sw.Callable Try.prog 27 := ⟨_, Try.func27, by kernel_rfl, rfl⟩
theorem c28 : Sw.Callable Try.prog 28 := ⟨_, Try.func28, by kernel_rfl, rfl⟩
theorem c29 : Sw.Callable Try.prog 29 := ⟨_, Try.func29, by kernel_rfl, rfl⟩
theorem c32 : Sw.Callable Try.prog 32 := ⟨_, Try.func32, by kernel_rfl, rfl⟩
theorem c33 : Sw.Callable Try.prog 33 := ⟨_, Try.func33, by kernel_rfl, rfl⟩
theorem c36 : Sw.Callable Try.prog 36 := ⟨_, Try.func36, by kernel_rfl, rfl⟩
theorem c37 : Sw.Callable Try.prog 37 := ⟨_, Try.func37, by kernel_rfl, rfl⟩
theorem c38 : Sw.Callable Try.prog 38 := ⟨_, Try.func38, by kernel_rfl, rfl⟩
theorem c39 : Sw.Callable Try.prog 39 := ⟨_, Try.func39, by kernel_rfl, rfl⟩
theorem c40 : Sw.Callable Try.prog 40 := ⟨_, Try.func40, by kernel_rfl, rfl⟩
theorem c41 : Sw.Callable Try.prog 41 := ⟨_, Try.func41, by kernel_rfl, rfl⟩
theorem c42 : Sw.Callable Try.prog 42 := ⟨_, Try.func42, by kernel_rfl, rfl⟩
theorem c43 : Sw.Callable Try.prog 43 := ⟨_, Try.func43, by kernel_rfl, rfl⟩
theorem c44 : Sw.Callable Try.prog 44 := ⟨_, Try.func44, by kernel_rfl, rfl⟩
theorem c45 : Sw.Callable Try.prog 45 := ⟨_, Try.func45, by kernel_rfl, rfl⟩
theorem c46 : Sw.Callable Try.prog 46 := ⟨_, Try.func46, by kernel_rfl, rfl⟩
theorem c47 : Sw.Callable Try.prog 47 := ⟨_, Try.func47, by kernel_rfl, rfl⟩
theorem c48 : Sw.Callable Try.prog 48 := ⟨_, Try.func48, by kernel_rfl, rfl⟩
theorem c49 : Sw.Callable Try.prog 49 := ⟨_, Try.func49, by kernel_rfl, rfl⟩
theorem c50 : Sw.Callable Try.prog 50 := ⟨_, Try.func50, by kernel_rfl, rfl⟩
theorem c51 : Sw.Callable Try.prog 51 := ⟨_, Try.func51, by kernel_rfl, rfl⟩
theorem c56 : Sw.Callable Try.prog 56 := ⟨_, Try.func56, by kernel_rfl, rfl⟩
theorem c58 : Sw.Callable Try.prog 58 := ⟨_, Try.func58, by kernel_rfl, rfl⟩
theorem c59 : Sw.Callable Try.prog 59 := ⟨_, Try.func59, by kernel_rfl, rfl⟩
theorem c60 : Sw.Callable Try.prog 60 := ⟨_, Try.func60, by kernel_rfl, rfl⟩
theorem c61 : Sw.Callable Try.prog 61 := ⟨_, Try.func61, by kernel_rfl, rfl⟩
theorem c62 : Sw.Callable Try.prog 62 := ⟨_, Try.func62, by kernel_rfl, rfl⟩
theorem c63 : Sw.Callable Try.prog 63 := ⟨_, Try.func63, by kernel_rfl, rfl⟩
theorem c64 : Sw.Callable Try.prog 64 := ⟨_, Try.func64, by kernel_rfl, rfl⟩
theorem c67 : Sw.Callable Try.prog 67 := ⟨_, Try.func67, by kernel_rfl, rfl⟩
theorem c68 : Sw.Callable Try.prog 68 := ⟨_, Try.func68, by kernel_rfl, rfl⟩
theorem c69 : Sw.Callable Try.prog 69 := ⟨_, Try.func69, by kernel_rfl, rfl⟩
theorem c70 : Sw.Callable Try.prog 70 := ⟨_, Try.func70, by kernel_rfl, rfl⟩
theorem c71 : Sw.Callable Try.prog 71 := ⟨_, Try.func71, by kernel_rfl, rfl⟩
theorem c72 : Sw.Callable Try.prog 72 := ⟨_, Try.func72, by kernel_rfl, rfl⟩
theorem c73 : Sw.Callable Try.prog 73 := ⟨_, Try.func73, by kernel_rfl, rfl⟩
theorem c74 : Sw.Callable Try.prog 74 := ⟨_, Try.func74, by kernel_rfl, rfl⟩
theorem c75 : Sw.Callable Try.prog 75 := ⟨_, Try.func75, by kernel_rfl, rfl⟩
theorem c76 : Sw.Callable Try.prog 76 := ⟨_, Try.func76, by kernel_rfl, rfl⟩
theorem c77 : Sw.Callable Try.prog 77 := ⟨_, Try.func77, by kernel_rfl, rfl⟩
theorem c78 : Sw.Callable Try.prog 78 := ⟨_, Try.func78, by kernel_rfl, rfl⟩
theorem c79 : Sw.Callable Try.prog 79 := ⟨_, Try.func79, by kernel_rfl, rfl⟩
theorem c80 : Sw.Callable Try.prog 80 := ⟨_, Try.func80, by kernel_rfl, rfl⟩
theorem c81 : Sw.Callable Try.prog 81 := ⟨_, Try.func81, by kernel_rfl, rfl⟩
theorem c82 : Sw.Callable Try.prog 82 := ⟨_, Try.func82, by kernel_rfl, rfl⟩
theorem c83 : Sw.Callable Try.prog 83 := ⟨_, Try.func83, by kernel_rfl, rfl⟩
theorem c84 : Sw.Callable Try.prog 84 := ⟨_, Try.func84, by kernel_rfl, rfl⟩
theorem c85 : Sw.Callable Try.prog 85 := ⟨_, Try.func85, by kernel_rfl, rfl⟩
theorem c86 : Sw.Callable Try.prog 86 := ⟨_, Try.func86, by kernel_rfl, rfl⟩
theorem c87 : Sw.Callable Try.prog 87 := ⟨_, Try.func87, by kernel_rfl, rfl⟩
theorem c88 : Sw.Callable Try.prog 88 := ⟨_, Try.func88, by kernel_rfl, rfl⟩
theorem c89 : Sw.Callable Try.prog 89 := ⟨_, Try.func89, by kernel_rfl, rfl⟩
theorem c90 : Sw.Callable Try.prog 90 := ⟨_, Try.func90, by kernel_rfl, rfl⟩
theorem c91 : Sw.Callable Try.prog 91 := ⟨_, Try.func91, by kernel_rfl, rfl⟩
theorem c92 : Sw.Callable Try.prog 92 := ⟨_, Try.func92, by kernel_rfl, rfl⟩
theorem c93 : Sw.Callable Try.prog 93 := ⟨_, Try.func93, by kernel_rfl, rfl⟩
theorem c94 : Sw.Callable Try.prog 94 := ⟨_, Try.func94, by kernel_rfl, rfl⟩
theorem c95 : Sw.Callable Try.prog 95 := ⟨_, Try.func95, by kernel_rfl, rfl⟩
theorem c96 : Sw.Callable Try.prog 96 := ⟨_, Try.func96, by kernel_rfl, rfl⟩
theorem c97 : Sw.Callable Try.prog 97 := ⟨_, Try.func97, by kernel_rfl, rfl⟩
theorem c98 : Sw.Callable Try.prog 98 := ⟨_, Try.func98, by kernel_rfl, rfl⟩
theorem c99 : Sw.Callable Try.prog 99 := ⟨_, Try.func99, by kernel_rfl, rfl⟩
theorem c100 : Sw.Callable Try.prog 100 := ⟨_, Try.func100, by kernel_rfl, rfl⟩
theorem c101 : Sw.Callable Try.prog 101 := ⟨_, Try.func101, by kernel_rfl, rfl⟩
theorem c102 : Sw.Callable Try.prog 102 := ⟨_, Try.func102, by kernel_rfl, rfl⟩
theorem c103 : Sw.Callable Try.prog 103 := ⟨_, Try.func103, by kernel_rfl, rfl⟩
theorem c104 : Sw.Callable Try.prog 104 := ⟨_, Try.func104, by kernel_rfl, rfl⟩
theorem c105 : Sw.Callable Try.prog 105 := ⟨_, Try.func105, by kernel_rfl, rfl⟩
theorem c106 : Sw.Callable Try.prog 106 := ⟨_, Try.func106, by kernel_rfl, rfl⟩
theorem c107 : Sw.Callable Try.prog 107 := ⟨_, Try.func107, by kernel_rfl, rfl⟩
theorem c108 : Sw.Callable Try.prog 108 := ⟨_, Try.func108, by kernel_rfl, rfl⟩
theorem c109 : Sw.Callable Try.prog 109 := ⟨_, Try.func109, by kernel_rfl, rfl⟩
theorem c110 : Sw.Callable Try.prog 110 := ⟨_, Try.func110, by kernel_rfl, rfl⟩
theorem c111 : Sw.Callable Try.prog 111 := ⟨_, Try.func111, by kernel_rfl, rfl⟩
theorem c112 : Sw.Callable Try.prog 112 := ⟨_, Try.func112, by kernel_rfl, rfl⟩
theorem c113 : Sw.Callable Try.prog 113 := ⟨_, Try.func113, by kernel_rfl, rfl⟩
theorem c114 : Sw.Callable Try.prog 114 := ⟨_, Try.func114, by kernel_rfl, rfl⟩
theorem c115 : Sw.Callable Try.prog 115 := ⟨_, Try.func115, by kernel_rfl, rfl⟩
theorem c116 : Sw.Callable Try.prog 116 := ⟨_, Try.func116, by kernel_rfl, rfl⟩
theorem c117 : Sw.Callable Try.prog 117 := ⟨_, Try.func117, by kernel_rfl, rfl⟩
theorem c118 : Sw.Callable Try.prog 118 := ⟨_, Try.func118, by kernel_rfl, rfl⟩
theorem c119 : Sw.Callable Try.prog 119 := ⟨_, Try.func119, by kernel_rfl, rfl⟩
theorem c120 : Sw.Callable Try.prog 120 := ⟨_, Try.func120, by kernel_rfl, rfl⟩
theorem c121 : Sw.Callable Try.prog 121 := ⟨_, Try.func121, by kernel_rfl, rfl⟩
theorem c122 : Sw.Callable Try.prog 122 := ⟨_, Try.func122, by kernel_rfl, rfl⟩
end Go.Proofs.Ytiajhbbmgglmlaa
namespace Go.Proofs.Ytiajhbbmgglmlaa
open Sw
def n_schema_sameField_c1 (t2 t3 t9 t17 : Value) (C1 : World → Prop) (R : Ending → World → Prop) (w : World) : Prop :=
 pickK t9 t17 (.bool false) fun t18 =>
 joinK (fun (t24 : Value) (w : World) =>
 pickK t18 t24 (.bool false) fun t25 =>
 R (.returned t25) w) fun K3 =>
 guardP t18 true (
 qV Try.prog C1 (Instr.fieldAt 28 t2 11) fun t20 =>
 qV Try.prog C1 (Instr.loadAt 26 t20) fun t21 =>
 qV Try.prog C1 (Instr.fieldAt 28 t3 11) fun t22 =>
 qV Try.prog C1 (Instr.loadAt 26 t22) fun t23 =>
 callK Try.prog 69 #[t21, t23] (panK R) w fun t24 w =>
 C1 w ∧ (
 K3 t24 w)) (
 K3 undef w)
def n_schema_sameField_c2 (t2 t3 t6 t8 : Value) (C1 : World → Prop) (R : Ending → World → Prop) (w : World) : Prop :=
 qV Try.prog C1 (binS .eql 116 false t6 t8) fun t9 =>
 joinK (fun (t17 : Value) (w : World) =>
 n_schema_sameField_c1 t2 t3 t9 t17 C1 R w) fun K2 =>
 guardP t9 true (
 qV Try.prog C1 (Instr.fieldAt 28 t2 7) fun t11 =>
 qV Try.prog C1 (Instr.fieldAt 25 t11 1) fun t12 =>
 qV Try.prog C1 (Instr.loadAt 23 t12) fun t13 =>
 qV Try.prog C1 (Instr.fieldAt 28 t3 7) fun t14 =>
 qV Try.prog C1 (Instr.fieldAt 25 t14 1) fun t15 =>
 qV Try.prog C1 (Instr.loadAt 23 t15) fun t16 =>
 callK Try.prog 68 #[t13, t16] (panK R) w fun t17 w =>
 C1 w ∧ (
 K2 t17 w)) (
 K2 undef w)
def n_schema_sameField_c3 (t2 t3 : Value) (C1 : World → Prop) (R : Ending → World → Prop) (w : World) : Prop :=
 qV Try.prog C1 (Instr.loadAt 28 t2) fun t5 =>
 qV Try.prog C1 (Instr.loadAt 28 t3) fun t7 =>
 callK Try.prog 67 #[t5] (panK R) w fun t6 w =>
 C1 w ∧ (
 callK Try.prog 67 #[t7] (panK R) w fun t8 w =>
 C1 w ∧ (
 n_schema_sameField_c2 t2 t3 t6 t8 C1 R w))
def n_schema_sameField (t0 t1 : Value) (R : Ending → World → Prop) (w : World) : Prop :=
 opV Try.prog (Instr.box 28 t0) (panK R) w fun t2 w =>
 opV Try.prog (Instr.box 28 t1) (panK R) w fun t3 w =>
 drawK w fun C1 w =>
 n_schema_sameField_c3 t2 t3 C1 R w
set_option maxRecDepth 100000 in
set_option maxHeartbeats 4000000 in
theorem n_schema_sameField_sound {t0 t1 : Value} {R : Ending → World → Prop} {w : World} (h : n_schema_sameField t0 t1 R w) : Calls Try.prog 56 #[t0, t1] w R := by
  refine calls_of_den (args := [t0, t1]) Try.func56 rfl (Nat.le_of_ble_eq_true rfl) ?_
  unfold n_schema_sameField at h
  refine zs <| zr ?_
  refine zv h fun t2 w h => ?_
  refine zv h fun t3 w h => ?_
  refine zm <| zn <| zk <| zs ?_
  obtain ⟨C1, hC, h⟩ := h
  refine sim_draw [4, 5, 6, 7, 8, 9, 10, 11, 12, 13, 14, 15, 16, 17, 18, 19, 20, 21, 22, 23, 24, 25] (by kernel_rfl) (by kernel_rfl) C1 ?_
  refine ze 0 hC h fun t5 h => ?_
  refine ze 2 hC h fun t7 h => ?_
  refine sim_dloud 1 rfl (by kernel_rfl) (fun _ _ => rfl) ?_
  refine sim_call h c67 rfl (fun _ _ h _ _ => ⟨rfl, h⟩) ?_; intro t6 w h
  refine zn ?_
  obtain ⟨hC, h⟩ := h
  refine ⟨hC, ?_⟩
  refine sim_dloud 3 rfl (by kernel_rfl) (fun _ _ => rfl) ?_
  refine sim_call h c67 rfl (fun _ _ h _ _ => ⟨rfl, h⟩) ?_; intro t8 w h
  refine zn ?_
  obtain ⟨hC, h⟩ := h
  refine ⟨hC, ?_⟩
  obtain ⟨t9, hv, h⟩ := h
  refine sim_dsilent 4 hC rfl (by kernel_rfl) (by kernel_rfl) (fun _ _ => rfl) rfl (Sw.qV_bin rfl rfl rfl hv) ?_
  refine zw 5 hC ?_
  refine joinK_elim h (fun K2 hK h => ?_)
  refine sim_djoin 9 [12, 11, 10, 9, 8, 7, 6, 5, 4, 3, 1, 2, 0] [11, 12, 13, 14, 15, 16, 17] (fun ρ w => K2 (ρ 17) w) (fun _ hT => ?_) (fun σ w hC h => ?_)
  · rcases Sw.guardP_cases h with ⟨hb, h⟩ | ⟨hb, h⟩
    · obtain ⟨t11, hv, h⟩ := h
      refine sim_dsilent 6 hC rfl (by kernel_rfl) (by kernel_rfl) (fun _ _ => Sw.guardP_true hb) rfl (Sw.qV_run rfl hv) ?_
      obtain ⟨t12, hv, h⟩ := h
      refine sim_dsilent 7 hC rfl (by kernel_rfl) (by kernel_rfl) (fun _ _ => Sw.guardP_true hb) rfl (Sw.qV_run rfl hv) ?_
      obtain ⟨t13, hv, h⟩ := h
      refine sim_dsilent 8 hC rfl (by kernel_rfl) (by kernel_rfl) (fun _ _ => Sw.guardP_true hb) rfl (Sw.qV_run rfl hv) ?_
      obtain ⟨t14, hv, h⟩ := h
      refine sim_dsilent 9 hC rfl (by kernel_rfl) (by kernel_rfl) (fun _ _ => Sw.guardP_true hb) rfl (Sw.qV_run rfl hv) ?_
      obtain ⟨t15, hv, h⟩ := h
      refine sim_dsilent 10 hC rfl (by kernel_rfl) (by kernel_rfl) (fun _ _ => Sw.guardP_true hb) rfl (Sw.qV_run rfl hv) ?_
      obtain ⟨t16, hv, h⟩ := h
      refine sim_dsilent 11 hC rfl (by kernel_rfl) (by kernel_rfl) (fun _ _ => Sw.guardP_true hb) rfl (Sw.qV_run rfl hv) ?_
      refine sim_dloud 12 rfl (by kernel_rfl) (fun _ _ => Sw.guardP_true hb) ?_
      refine sim_call h c68 rfl (fun _ _ h _ _ => ⟨rfl, h⟩) ?_; intro t17 w h
      refine zn ?_
      obtain ⟨hC, h⟩ := h
      refine ⟨hC, ?_⟩
      exact hT _ _ (by repeat (first | exact Sw.Fr.refl _ _ | refine Sw.Fr.put rfl ?_ | refine Sw.Fr.put_none ?_ | refine Sw.Fr.mix rfl ?_ | refine Sw.Fr.skipAll rfl ?_)) hC h
    · refine sim_dskip 6 hC rfl (by kernel_rfl) (by kernel_rfl) (fun _ _ => Sw.guardP_false hb) ?_
      refine sim_dskip 7 hC rfl (by kernel_rfl) (by kernel_rfl) (fun _ _ => Sw.guardP_false hb) ?_
      refine sim_dskip 8 hC rfl (by kernel_rfl) (by kernel_rfl) (fun _ _ => Sw.guardP_false hb) ?_
      refine sim_dskip 9 hC rfl (by kernel_rfl) (by kernel_rfl) (fun _ _ => Sw.guardP_false hb) ?_
      refine sim_dskip 10 hC rfl (by kernel_rfl) (by kernel_rfl) (fun _ _ => Sw.guardP_false hb) ?_
      refine sim_dskip 11 hC rfl (by kernel_rfl) (by kernel_rfl) (fun _ _ => Sw.guardP_false hb) ?_
      refine sim_dskip 12 hC rfl (by kernel_rfl) (by kernel_rfl) (fun _ _ => Sw.guardP_false hb) ?_
      exact hT _ _ (by repeat (first | exact Sw.Fr.refl _ _ | refine Sw.Fr.put rfl ?_ | refine Sw.Fr.put_none ?_ | refine Sw.Fr.mix rfl ?_ | refine Sw.Fr.skipAll rfl ?_)) hC h
  subst hK
  obtain ⟨b18, hb18, h⟩ := Sw.pickK_elim h
  refine sim_dsilent 13 hC rfl (by kernel_rfl) (by kernel_rfl) (fun _ _ => rfl) rfl (Sw.pick_run hb18 rfl rfl) ?_
  refine zw 14 hC ?_
  refine joinK_elim h (fun K3 hK h => ?_)
  refine sim_djoin 2 [19, 18, 17, 16, 15, 14, 13, 12, 11, 10, 9, 8, 7, 6, 5, 4, 3, 1, 2, 0] [20, 21, 22, 23, 24] (fun ρ w => K3 (ρ 24) w) (fun _ hT => ?_) (fun σ w hC h => ?_)
  · rcases Sw.guardP_cases h with ⟨hb, h⟩ | ⟨hb, h⟩
    · obtain ⟨t20, hv, h⟩ := h
      refine sim_dsilent 15 hC rfl (by kernel_rfl) (by kernel_rfl) (fun _ _ => Sw.guardP_true hb) rfl (Sw.qV_run rfl hv) ?_
      obtain ⟨t21, hv, h⟩ := h
      refine sim_dsilent 16 hC rfl (by kernel_rfl) (by kernel_rfl) (fun _ _ => Sw.guardP_true hb) rfl (Sw.qV_run rfl hv) ?_
      obtain ⟨t22, hv, h⟩ := h
      refine sim_dsilent 17 hC rfl (by kernel_rfl) (by kernel_rfl) (fun _ _ => Sw.guardP_true hb) rfl (Sw.qV_run rfl hv) ?_
      obtain ⟨t23, hv, h⟩ := h
      refine sim_dsilent 18 hC rfl (by kernel_rfl) (by kernel_rfl) (fun _ _ => Sw.guardP_true hb) rfl (Sw.qV_run rfl hv) ?_
      refine sim_dloud 19 rfl (by kernel_rfl) (fun _ _ => Sw.guardP_true hb) ?_
      refine sim_call h c69 rfl (fun _ _ h _ _ => ⟨rfl, h⟩) ?_; intro t24 w h
      refine zn ?_
      obtain ⟨hC, h⟩ := h
      refine ⟨hC, ?_⟩
      exact hT _ _ (by repeat (first | exact Sw.Fr.refl _ _ | refine Sw.Fr.put rfl ?_ | refine Sw.Fr.put_none ?_ | refine Sw.Fr.mix rfl ?_ | refine Sw.Fr.skipAll rfl ?_)) hC h
    · refine sim_dskip 15 hC rfl (by kernel_rfl) (by kernel_rfl) (fun _ _ => Sw.guardP_false hb) ?_
      refine sim_dskip 16 hC rfl (by kernel_rfl) (by kernel_rfl) (fun _ _ => Sw.guardP_false hb) ?_
      refine sim_dskip 17 hC rfl (by kernel_rfl) (by kernel_rfl) (fun _ _ => Sw.guardP_false hb) ?_
      refine sim_dskip 18 hC rfl (by kernel_rfl) (by kernel_rfl) (fun _ _ => Sw.guardP_false hb) ?_
      refine sim_dskip 19 hC rfl (by kernel_rfl) (by kernel_rfl) (fun _ _ => Sw.guardP_false hb) ?_
      exact hT _ _ (by repeat (first | exact Sw.Fr.refl _ _ | refine Sw.Fr.put rfl ?_ | refine Sw.Fr.put_none ?_ | refine Sw.Fr.mix rfl ?_ | refine Sw.Fr.skipAll rfl ?_)) hC h
  subst hK
  obtain ⟨b25, hb25, h⟩ := Sw.pickK_elim h
  refine sim_dsilent 20 hC rfl (by kernel_rfl) (by kernel_rfl) (fun _ _ => rfl) rfl (Sw.pick_run hb25 rfl rfl) ?_
  refine zw 21 hC ?_
  refine sim_dend (by kernel_rfl) ?_
  refine zk <| sim_ret ?_
  exact body_ret1 rfl rfl h
def n_slices_IndexFunc_api_Message_c1 (t0 t1 t8 : Value) (next1 : Value → World → Prop) (R : Ending → World → Prop) (w : World) : Prop :=
 opV Try.prog (Instr.indexAt 42 t0 t8) (panK R) w fun t14 w =>
 opV Try.prog (Instr.loadAt 50 t14) (panK R) w fun t15 w =>
 callV Try.prog t1 #[t15] (panK R) w fun t16 w =>
 condP t16 (
 R (.returned t8) w) (
 opV Try.prog (binS .add 3 true t8 (.int .i64 1)) (panK R) w fun t18 w =>
 next1 t18 w)
def n_slices_IndexFunc_api_Message (t0 t1 : Value) (R : Ending → World → Prop) (w : World) : Prop :=
 opV Try.prog (Builtin.len_ #[42] 3 #[t0]) (panK R) w fun t7 w =>
 loop1 (fun t8 w next1 =>
 opV Try.prog (binS .lss 3 false t8 t7) (panK R) w fun t9 w =>
 condP t9 (
 n_slices_IndexFunc_api_Message_c1 t0 t1 t8 next1 R w) (
 R (.returned (.int .i64 (-1))) w)) (.int .i64 0) w
set_option maxRecDepth 100000 in
set_option maxHeartbeats 4000000 in
theorem n_slices_IndexFunc_api_Message_sound {t0 t1 : Value} {R : Ending → World → Prop} {w : World} (h : n_slices_IndexFunc_api_Message t0 t1 R w) : Calls Try.prog 58 #[t0, t1] w R := by
  refine calls_of_den (args := [t0, t1]) Try.func58 rfl (Nat.le_of_ble_eq_true rfl) ?_
  unfold n_slices_IndexFunc_api_Message at h
  refine zs <| zr <| zm <| zn <| zk <| zs <| zs <| zr <| zm ?_
  refine zx h fun t7 w h => ?_
  refine zm <| zn <| zk <| sim_block ?_
  obtain ⟨I, μ, h0, hr⟩ := h
  refine sim_loop [4, 5, 8, 9, 10, 11, 12, 13, 14, 15, 16, 17, 18] (by kernel_rfl) (fun ρ w => I (ρ 8) w) (fun ρ w => μ (ρ 8) w) h0 (fun σ w hI => ?_)
  have h := hr _ _ hI
  clear hr h0 hI
  refine zs <| zr ?_
  refine zb h fun t9 w h => ?_
  refine zn <| zk <| zs ?_
  refine sim_cond h rfl (fun h => ?_) (fun h => ?_)
  · refine sim_skip <| zk <| zs <| sim_block <| zs <| zr <| zm <| zm <| zn <| zk <| zs <| zr <| zm <| zm <| zm ?_
    refine zv h fun t14 w h => ?_
    refine zv h fun t15 w h => ?_
    refine sim_callV h rfl rfl (fun _ _ h => ⟨rfl, h⟩) ?_; intro t16 w h
    refine zn <| zk ?_
    refine sim_cond h rfl (fun h => ?_) (fun h => ?_)
    · refine zs <| zr <| zm <| zm <| zn <| zk <| sim_ret <| sim_block_ret <| sim_then_ret <| sim_then_ret <| sim_block_ret <| sim_then_ret ?_
      exact body_ret1 rfl rfl h
    · refine sim_skip <| sim_block_normal <| zk <| zr ?_
      refine zb h fun t18 w h => ?_
      refine zm <| zn <| zk ?_
      exact ⟨rfl, h⟩
  · refine sim_exit <| sim_then_exit <| sim_then_exit <| sim_block_hit <| zk <| zs <| zr <| zm <| zn <| zk <| sim_ret ?_
    exact body_ret1 rfl rfl h
end Go.Proofs.Ytiajhbbmgglmlaa
