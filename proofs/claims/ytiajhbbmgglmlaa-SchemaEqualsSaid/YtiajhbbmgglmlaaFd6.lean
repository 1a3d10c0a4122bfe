/-
  Lemmas for the claim.
-/
import Derived.Test.YtiajhbbmgglmlaaFd5
set_option linter.all false
namespace Go.Proofs.Ytiajhbbmgglmlaa
open Sw
open Go.RowKit (intOf Below)
set_option maxRecDepth 100000
def lastP {β : Type} (l : List (ByteArray × β)) (s : ByteArray) : Option β := (l.reverse.find? (fun p => decide (p.1 = s))).map (·.2)
theorem lastP_mem {β : Type} {ps : List (ByteArray × β)} {s : ByteArray} {v : β} (h : lastP ps s = some v) : (s, v) ∈ ps := by
  unfold lastP at h
  obtain ⟨q, hq, rfl⟩ := Option.map_eq_some_iff.1 h
  have h1 := List.find?_some hq
  have h2 := List.mem_of_find?_eq_some hq
  simp only [decide_eq_true_eq] at h1
  subst h1
  exact List.mem_reverse.1 h2
def vI (l : List (ByteArray × Int)) : List (ByteArray × Value) := l.map fun p => (p.1, .int .i64 p.2)
def vB (l : List (ByteArray × Bool)) : List (ByteArray × Value) := l.map fun p => (p.1, .bool p.2)
theorem lastOf_map {β : Type} (g : β → Value) (l : List (ByteArray × β)) (s : ByteArray) : lastOf (l.map fun p => (p.1, g p.2)) s = (lastP l s).map g := by
  unfold lastOf lastP
  rw [← List.map_reverse, List.find?_map]
  simp only [Option.map_map]
  rfl
theorem lastOf_vI (l : List (ByteArray × Int)) (s : ByteArray) : lastOf (vI l) s = (lastP l s).map fun n => .int .i64 n := lastOf_map _ l s
theorem lastOf_vB (l : List (ByteArray × Bool)) (s : ByteArray) : lastOf (vB l) s = (lastP l s).map Value.bool := lastOf_map _ l s
structure CkO (a0 w : World) (cb md ms : Nat) (deps : List (ByteArray × Int)) (strs : List (ByteArray × Bool)) (at_ fld : Int) (fs : List FieldD) : Prop where
  ext : Ext a0 w
  obj : ∃ dn mv ds mn fv, w.heap[cb]? = some (.cells #[.string dn, mv, .string ds, .map (some md), .map (some ms), .int .i64 at_, .int .i64 fld, .string mn, fv] 101 (0, 0)) ∧ FieldsOf a0 fv fs
  mdeps : MapOf w md (vI deps)
  mstrs : MapOf w ms (vB strs)
  lcb : a0.heap.size ≤ cb
  lmd : a0.heap.size ≤ md
  lms : a0.heap.size ≤ ms
  ne : md ≠ ms
section
variable {a0 w w' : World} {cb md ms : Nat} {deps : List (ByteArray × Int)} {strs : List (ByteArray × Bool)} {at_ fld : Int} {fs : List FieldD}
theorem CkO.chk (h : CkO a0 w cb md ms deps strs at_ fld fs) : Chk w cb md ms (vI deps) (vB strs) at_ fld fs := by
  obtain ⟨dn, mv, ds, mn, fv, h1, h2⟩ := h.obj
  refine ⟨⟨dn, mv, ds, mn, fv, h1, h2.ext h.ext⟩, h.mdeps, h.mstrs, fun k v hv => ?_, fun k v hv => ?_⟩
  · rw [lastOf_vI] at hv; obtain ⟨n, _, rfl⟩ := Option.map_eq_some_iff.1 hv; exact ⟨n, rfl⟩
  · rw [lastOf_vB] at hv; obtain ⟨n, _, rfl⟩ := Option.map_eq_some_iff.1 hv; exact ⟨n, rfl⟩
theorem CkO.nd (h : CkO a0 w cb md ms deps strs at_ fld fs) : cb ≠ md ∧ cb ≠ ms ∧ cb < w.heap.size ∧ md < w.heap.size ∧ ms < w.heap.size := by
  obtain ⟨dn, mv, ds, mn, fv, h1, h2⟩ := h.obj
  refine ⟨?_, ?_, (Array.getElem?_eq_some_iff.1 h1).1, h.mdeps.lt, h.mstrs.lt⟩
  · rintro rfl; have := h.mdeps.obj; rw [h1] at this; cases this
  · rintro rfl; have := h.mstrs.obj; rw [h1] at this; cases this
theorem CkO.go (h : CkO a0 w cb md ms deps strs at_ fld fs) (e : Ext w w') : CkO a0 w' cb md ms deps strs at_ fld fs := by
  obtain ⟨dn, mv, ds, mn, fv, h1, h2⟩ := h.obj
  exact ⟨h.ext.trans e, ⟨dn, mv, ds, mn, fv, e.obj h1, h2⟩, h.mdeps.ext e, h.mstrs.ext e, h.lcb, h.lmd, h.lms, h.ne⟩
theorem CkO.other (h : CkO a0 w cb md ms deps strs at_ fld fs) {b o : Nat} (hb : a0.heap.size ≤ b) (hn : b ≠ cb) (v : Value) : CkO a0 (w.setCell ⟨b, o, none⟩ v) cb md ms deps strs at_ fld fs := by
  obtain ⟨dn, mv, ds, mn, fv, h1, h2⟩ := h.obj
  refine ⟨h.ext.setCell hb v, ⟨dn, mv, ds, mn, fv, ?_, h2⟩, h.mdeps.setCell _ _, h.mstrs.setCell _ _, h.lcb, h.lmd, h.lms, h.ne⟩
  rw [Only.setCell w b o v cb (fun e => hn e.symm)]; exact h1
theorem CkO.setFld (h : CkO a0 w cb md ms deps strs at_ fld fs) (n : Int) : CkO a0 (w.setCell ⟨cb, 6, none⟩ (.int .i64 n)) cb md ms deps strs at_ n fs := by
  obtain ⟨dn, mv, ds, mn, fv, h1, h2⟩ := h.obj
  exact ⟨h.ext.setCell h.lcb _, ⟨dn, mv, ds, mn, fv, heap_set h1 _, h2⟩, h.mdeps.setCell _ _, h.mstrs.setCell _ _, h.lcb, h.lmd, h.lms, h.ne⟩
theorem CkO.setAt (h : CkO a0 w cb md ms deps strs at_ fld fs) (n : Int) : CkO a0 (w.setCell ⟨cb, 5, none⟩ (.int .i64 n)) cb md ms deps strs n fld fs := by
  obtain ⟨dn, mv, ds, mn, fv, h1, h2⟩ := h.obj
  exact ⟨h.ext.setCell h.lcb _, ⟨dn, mv, ds, mn, fv, heap_set h1 _, h2⟩, h.mdeps.setCell _ _, h.mstrs.setCell _ _, h.lcb, h.lmd, h.lms, h.ne⟩
theorem CkO.setMsg (h : CkO a0 w cb md ms deps strs at_ fld fs) (s : ByteArray) (fv' : Value) (fs' : List FieldD) (hf : FieldsOf a0 fv' fs') : CkO a0 ((w.setCell ⟨cb, 7, none⟩ (.string s)).setCell ⟨cb, 8, none⟩ fv') cb md ms deps strs at_ fld fs' := by
  obtain ⟨dn, mv, ds, mn, fv, h1, h2⟩ := h.obj
  exact ⟨(h.ext.setCell h.lcb _).setCell h.lcb _, ⟨dn, mv, ds, s, fv', heap_set (heap_set h1 _) _, hf⟩, (h.mdeps.setCell _ _).setCell _ _, (h.mstrs.setCell _ _).setCell _ _, h.lcb, h.lmd, h.lms, h.ne⟩
theorem CkO.putOther (h : CkO a0 w cb md ms deps strs at_ fld fs) {B : Nat} (o : Obj) (hB : a0.heap.size ≤ B) (h1 : B ≠ cb) (h2 : B ≠ md) (h3 : B ≠ ms) : CkO a0 (w.putObj B o) cb md ms deps strs at_ fld fs := by
  obtain ⟨dn, mv, ds, mn, fv, h4, h5⟩ := h.obj
  exact ⟨h.ext.putObj hB o, ⟨dn, mv, ds, mn, fv, (World.putObj_heap_other (fun e => h1 e.symm)).trans h4, h5⟩, MapB.putOther h.mdeps (fun e => h2 e.symm) o, MapB.putOther h.mstrs (fun e => h3 e.symm) o, h.lcb, h.lmd, h.lms, h.ne⟩
theorem CkO.unmark (h : CkO a0 w cb md ms deps strs at_ fld fs) {B : Nat} (hm : MarkAt B w) (hB : a0.heap.size ≤ B) : CkO a0 (w.putObj B (.deferred none)) cb md ms deps strs at_ fld fs := by
  obtain ⟨dn, mv, ds, mn, fv, h4, h5⟩ := h.obj
  refine h.putOther _ hB ?_ ?_ ?_
  · rintro rfl; unfold MarkAt at hm; rw [h4] at hm; cases hm
  · rintro rfl; unfold MarkAt at hm; have := h.mdeps.obj; rw [hm] at this; cases this
  · rintro rfl; unfold MarkAt at hm; have := h.mstrs.obj; rw [hm] at this; cases this
theorem CkO.lasts {B : Nat} (hB : a0.heap.size ≤ B) : Lasts B (fun w => CkO a0 w cb md ms deps strs at_ fld fs) := by
  refine ⟨fun w w' h e => h.go e, fun w l r r' hl h hr => ?_⟩
  obtain ⟨dn, mv, ds, mn, fv, h4, h5⟩ := h.obj
  refine h.putOther _ (by omega) ?_ ?_ ?_
  · rintro rfl; rw [h4] at hr; cases hr
  · rintro rfl; have := h.mdeps.obj; rw [hr] at this; cases this
  · rintro rfl; have := h.mstrs.obj; rw [hr] at this; cases this
theorem CkO.turn (h : CkO a0 w cb md ms deps strs at_ fld fs) {o : Obj} {r : Nat} (hr : r = md ∨ r = ms) : CkO a0 w cb md ms deps strs at_ fld fs := h
theorem StrsAt.lasts (B pb : Nat) (sv : Value) (l : List ByteArray) : Lasts B (fun w => StrsAt w pb sv l) :=
  Lasts.and (Lasts.cell B) (Lasts.and ⟨fun _ _ h e => h.ext keptStr e, fun _ _ _ _ _ h hl => SliceOf.putLoop (fun _ _ h => h) hl h⟩ (Lasts.const _ _))
theorem StrsAt.set {w : World} {pb : Nat} {sv : Value} {l : List ByteArray} (h : StrsAt w pb sv l) {b o : Nat} (hb : b < pb) (u : Value) : StrsAt (w.setCell ⟨b, o, none⟩ u) pb sv l :=
  ⟨by rw [cell_set_other (by omega)]; exact h.1, SliceOf.setOther h.2.1 u (fun A m c e => by have := h.2.2 A m c e; omega) (fun _ _ h => h), h.2.2⟩
end
def refsM (m : MsgD) : List ByteArray := dedupA [] (allRefs m.fields)
def fieldsP (deps : List (ByteArray × Int)) (strs : List (ByteArray × Bool)) (bef : List FieldD) : List FieldD → Int × Int
  | [] => (-1, 0)
  | f :: l => if examineC bef (vI deps) (vB strs) f = 0 then fieldsP deps strs (bef ++ [f]) l else (bef.length, examineC bef (vI deps) (vB strs) f)
def maxI (a b : Int) : Int := if b > a then b else a
def depthM (deps : List (ByteArray × Int)) (m : MsgD) : Int := (refsM m).foldl (fun d s => maxI d ((lastP deps s).getD 0)) 0
def strictM (strs : List (ByteArray × Bool)) (m : MsgD) : Bool := (m.fields.all fun f => !f.loose) && (refsM m).all fun s => (lastP strs s).getD false
def tailP (deps : List (ByteArray × Int)) (m : MsgD) (r : Int × Int) : Int × Int := if r.2 = 0 then (if depthM deps m < 16 then (-1, 0) else (-1, 10)) else r
def nextP (deps : List (ByteArray × Int)) (strs : List (ByteArray × Bool)) (m : MsgD) : Int × Int :=
  if nameB m.name then (if (lastP deps m.name).isSome then (-1, 2) else (if 1 ≤ m.fields.length ∧ m.fields.length ≤ 40 then tailP deps m (fieldsP deps strs [] m.fields) else (-1, 3))) else (-1, 1)
def nxtR (a0 : World) (at_ : Int) (r : Int × Int) (K : World → Prop) : Ending → World → Prop := fun e w' => Ext a0 w' ∧ (r.2 = 0 ∧ e = .returned (.tuple #[]) ∧ K w' ∨ r.2 ≠ 0 ∧ e = .panicked [flawEntry at_ r.1 r.2])
theorem nxtR_ret {a0 w' : World} {at_ : Int} {r : Int × Int} {K : World → Prop} (e : Ext a0 w') (h : r.2 = 0) (hK : K w') : nxtR a0 at_ r K (.returned (.tuple #[])) w' := ⟨e, .inl ⟨h, rfl, hK⟩⟩
theorem nxtR_pan {a0 w' : World} {at_ a b : Int} {r : Int × Int} {K : World → Prop} (e : Ext a0 w') (h : r = (a, b)) (h0 : b ≠ 0) : nxtR a0 at_ r K (.panicked [flawEntry at_ a b]) w' := by subst h; exact ⟨e, .inr ⟨h0, rfl⟩⟩
theorem qV_loadG {P : Program} {C : World → Prop} [ClassNe C] {T : TypeId} {a : Addr} {v : Value} {k : Value → Prop} (h : ∀ w', C w' → Loads P w' T a v) : qV P C (Instr.loadAt T (.pointer (some a))) k = k v :=
  qV_eqC fun w' e => run_of_op fun QP k => op_load (h w' e)
section
variable {a0 w : World} {cb md ms : Nat} {deps : List (ByteArray × Int)} {strs : List (ByteArray × Bool)} {at_ fld : Int} {fs : List FieldD}
theorem nxt_end (h : CkO a0 w cb md ms deps strs at_ (-1) fs) (p2 p3 p6 p9 B : Nat) (m : MsgD) (fv : Value) (st : Bool) (dp : Int) (hd0 : 0 ≤ dp) (hd1 : dp ≤ 1000)
    (o2 : w.heap[p2]? = some (.cells #[.pointer (some ⟨cb, 0, none⟩)] 93 (0, 0))) (o3 : w.heap[p3]? = some (.cells (msgCells m fv).toArray 50 (0, 0))) (o6 : w.heap[p6]? = some (.cells #[.bool st] 4 (0, 0))) (o9 : w.heap[p9]? = some (.cells #[.int .i64 dp] 3 (0, 0)))
    (hmk : MarkAt B w) (hB : a0.heap.size ≤ B) (r : Int × Int) (hr : r = if dp < 16 then (-1, 0) else (-1, 10)) (K : World → Prop)
    (hK : ∀ w', CkO a0 w' cb md ms (deps ++ [(m.name, dp + 1)]) (strs ++ [(m.name, st)]) at_ (-1) fs → K w') :
    drawK w fun C12 w => n_schema_checker_next_c8 (.pointer (some ⟨p2, 0, none⟩)) (.pointer (some ⟨p3, 0, none⟩)) (.pointer (some ⟨p6, 0, none⟩)) (.pointer (some ⟨p9, 0, none⟩)) C12 [Sw.mark B] (nxtR a0 at_ r K) w := by
  obtain ⟨n1, n2, l1, l2, l3⟩ := h.nd
  have hne := h.ne
  obtain ⟨dn, mv, ds, mn, fv', h1, h2⟩ := h.obj
  have m2 : p2 ≠ md := by rintro rfl; have := h.mdeps.obj; rw [o2] at this; cases this
  have m3 : p3 ≠ md := by rintro rfl; have := h.mdeps.obj; rw [o3] at this; cases this
  have m6 : p6 ≠ md := by rintro rfl; have := h.mdeps.obj; rw [o6] at this; cases this
  have m9 : p9 ≠ md := by rintro rfl; have := h.mdeps.obj; rw [o9] at this; cases this
  have q2 : p2 ≠ ms := by rintro rfl; have := h.mstrs.obj; rw [o2] at this; cases this
  have q3 : p3 ≠ ms := by rintro rfl; have := h.mstrs.obj; rw [o3] at this; cases this
  have q6 : p6 ≠ ms := by rintro rfl; have := h.mstrs.obj; rw [o6] at this; cases this
  have q9 : p9 ≠ ms := by rintro rfl; have := h.mstrs.obj; rw [o9] at this; cases this
  refine drawK_introB (w1 := w) md ms (fun _ _ _ _ => rfl) ?_
  unfold n_schema_checker_next_c8
  simp (disch := first | assumption | (simp only [ONE]; done) | rfl | (simp only [SZ]; done) | omega | (simp only [SZ] at *; omega)) only [↓PR, QR, Int.reduceBEq, Int.reduceBNe, Int.reduceLT, Int.reduceLE, Int.reduceGT, Int.reduceGE, Int.reduceNeg, (cells_of_heap h1).1, (cells_of_heap o2).1, (cells_of_heap o3).1, (cells_of_heap o6).1, (cells_of_heap o9).1]
  have eD : Ext w w.drew := (Ext.refl w).drew
  have hmd : MapOf w.drew md (vI deps) := h.mdeps.ext eD
  rw [op_mapEntryS Try.underlying98 Try.underlying9 ty3 hmd m.name]
  refine ⟨fun b hb b1 b2 => (World.putObj_heap_other b1), ?_⟩
  unfold n_schema_checker_next_c7
  simp (disch := first | assumption | (simp only [ONE]; done) | rfl | (simp only [SZ]; done) | omega | (simp only [SZ] at *; omega)) only [↓PR, QR, Int.reduceBEq, Int.reduceBNe, Int.reduceLT, Int.reduceLE, Int.reduceGT, Int.reduceGE, Int.reduceNeg]
  rw [op_entryStore (MapB.ent hmd m.name _) (hasK_ent _ _), ent_put, putObj_putObj]
  have hw1 : w.drew.putObj md (mapObj (fun s : ByteArray => Value.string s) (putL (bld (vI deps)).1 (bld (vI deps)).2 m.name (.int .i64 (IntKind.i64.wrap (dp + 1)))) (putC (bld (vI deps)).1 (bld (vI deps)).2 m.name)) = putW w.drew md (vI deps) m.name (.int .i64 (IntKind.i64.wrap (dp + 1))) := by
    unfold putW; rw [bld_snoc]
  rw [hw1]
  have hms : MapOf (putW w.drew md (vI deps) m.name (.int .i64 (IntKind.i64.wrap (dp + 1)))) ms (vB strs) := MapB.putOther (h.mstrs.ext eD) (fun e => hne e.symm) _
  refine ⟨fun b hb b1 b2 => (World.putObj_heap_other b1), ?_⟩
  rw [op_mapEntryS Try.underlying99 Try.underlying9 ty4 hms m.name]
  refine ⟨fun b hb b1 b2 => (World.putObj_heap_other b2).trans (World.putObj_heap_other b1), ?_⟩
  unfold n_schema_checker_next_c6
  simp (disch := first | assumption | (simp only [ONE]; done) | rfl | (simp only [SZ]; done) | omega | (simp only [SZ] at *; omega)) only [↓PR, QR, Int.reduceBEq, Int.reduceBNe, Int.reduceLT, Int.reduceLE, Int.reduceGT, Int.reduceGE, Int.reduceNeg]
  rw [op_entryStore (MapB.ent hms m.name _) (hasK_ent _ _), ent_put, putObj_putObj]
  have hw2 : (putW w.drew md (vI deps) m.name (.int .i64 (IntKind.i64.wrap (dp + 1)))).putObj ms (mapObj (fun s : ByteArray => Value.string s) (putL (bld (vB strs)).1 (bld (vB strs)).2 m.name (.bool st)) (putC (bld (vB strs)).1 (bld (vB strs)).2 m.name)) = putW (putW w.drew md (vI deps) m.name (.int .i64 (IntKind.i64.wrap (dp + 1)))) ms (vB strs) m.name (.bool st) := by
    unfold putW; rw [bld_snoc, bld_snoc]
  rw [hw2]
  have hwr : IntKind.i64.wrap (dp + 1) = dp + 1 := wrap_ok (by omega) (by omega)
  rw [hwr]
  have hC2 : CkO a0 (putW (putW w.drew md (vI deps) m.name (.int .i64 (dp + 1))) ms (vB strs) m.name (.bool st)) cb md ms (deps ++ [(m.name, dp + 1)]) (strs ++ [(m.name, st)]) at_ (-1) fs := by
    refine ⟨(h.ext.drew.putObj h.lmd _).putObj h.lms _, ⟨dn, mv, ds, mn, fv', ((World.putObj_heap_other n2).trans (World.putObj_heap_other n1)).trans h1, h2⟩, ?_, ?_, h.lcb, h.lmd, h.lms, hne⟩
    · have := MapB.putOther (hmd.put m.name (.int .i64 (dp + 1))) hne (mapObjS (bld (vB strs ++ [(m.name, .bool st)])).1 (bld (vB strs ++ [(m.name, .bool st)])).2)
      unfold vI at this ⊢
      rw [List.map_append]
      exact this
    · rw [hwr] at hms
      have := hms.put m.name (.bool st)
      unfold vB at this ⊢
      rw [List.map_append]
      exact this
  have hk2 : MarkAt B (putW (putW w.drew md (vI deps) m.name (.int .i64 (dp + 1))) ms (vB strs) m.name (.bool st)) := by
    have b1 : B ≠ md := by rintro rfl; have := h.mdeps.obj; unfold MarkAt at hmk; rw [hmk] at this; cases this
    have b2 : B ≠ ms := by rintro rfl; have := h.mstrs.obj; unfold MarkAt at hmk; rw [hmk] at this; cases this
    exact ((World.putObj_heap_other b2).trans (World.putObj_heap_other b1)).trans hmk
  have o2' : (putW (putW w.drew md (vI deps) m.name (.int .i64 (dp + 1))) ms (vB strs) m.name (.bool st)).heap[p2]? = some (.cells #[.pointer (some ⟨cb, 0, none⟩)] 93 (0, 0)) := ((World.putObj_heap_other q2).trans (World.putObj_heap_other m2)).trans o2
  have o9' : (putW (putW w.drew md (vI deps) m.name (.int .i64 (dp + 1))) ms (vB strs) m.name (.bool st)).heap[p9]? = some (.cells #[.int .i64 dp] 3 (0, 0)) := ((World.putObj_heap_other q9).trans (World.putObj_heap_other m9)).trans o9
  generalize putW (putW w.drew md (vI deps) m.name (.int .i64 (dp + 1))) ms (vB strs) m.name (.bool st) = W at hC2 hk2 o2' o9' ⊢
  refine turnK_intro ?_
  unfold n_schema_checker_next_c5
  simp (disch := first | assumption | (simp only [ONE]; done) | rfl | (simp only [SZ]; done) | omega | (simp only [SZ] at *; omega)) only [↓PR, QR, Int.reduceBEq, Int.reduceBNe, Int.reduceLT, Int.reduceLE, Int.reduceGT, Int.reduceGE, Int.reduceNeg, (cells_of_heap o2').1, (cells_of_heap o9').1]
  refine callK_flw (need_flw hC2.chk _ 10 (by decide)) (fun w' e h0 => ?_) (fun w' e h0 => ?_)
  · refine outX_mark (hk2.ext e) ?_
    rw [outX_nil]
    have hC3 := (hC2.go e).unmark (hk2.ext e) hB
    refine nxtR_ret hC3.ext ?_ (hK _ hC3)
    rw [hr]
    by_cases hdp : dp < 16
    · rw [if_pos hdp]
    · rw [decide_eq_false hdp] at h0; exact absurd h0 (by decide)
  · refine outQ_mark (hk2.ext e) ?_
    rw [outQ_nil]
    have hC3 := (hC2.go e).unmark (hk2.ext e) hB
    by_cases hdp : dp < 16
    · rw [decide_eq_true hdp] at h0; exact absurd rfl h0
    · rw [decide_eq_false hdp]
      rw [if_neg hdp] at hr
      exact nxtR_pan hC3.ext hr (by decide)
theorem maxI_le {a b c : Int} (h1 : a ≤ c) (h2 : b ≤ c) : maxI a b ≤ c := by unfold maxI; split <;> assumption
theorem le_maxI (a b : Int) : a ≤ maxI a b := by unfold maxI; split <;> omega
theorem foldl_maxI (g : ByteArray → Int) : ∀ (l : List ByteArray) (d : Int), 0 ≤ d → (∀ s ∈ l, 0 ≤ g s ∧ g s ≤ 16) → d ≤ 16 → 0 ≤ l.foldl (fun d s => maxI d (g s)) d ∧ l.foldl (fun d s => maxI d (g s)) d ≤ 16
  | [], d, h0, _, h1 => ⟨h0, h1⟩
  | s :: l, d, h0, h, h1 => foldl_maxI g l _ (Int.le_trans h0 (le_maxI _ _)) (fun u hu => h u (List.mem_cons_of_mem _ hu)) (maxI_le h1 (h s (List.mem_cons_self ..)).2)
def Low (deps : List (ByteArray × Int)) : Prop := ∀ p ∈ deps, 0 ≤ p.2 ∧ p.2 ≤ 16
theorem Low.get {deps : List (ByteArray × Int)} (h : Low deps) (s : ByteArray) : 0 ≤ (lastP deps s).getD 0 ∧ (lastP deps s).getD 0 ≤ 16 := by
  cases hl : lastP deps s with
  | none => exact ⟨by decide, by decide⟩
  | some n => exact h _ (lastP_mem hl)
theorem nxt_range (hlow : Low deps) (h : CkO a0 w cb md ms deps strs at_ fld fs) (p2 p3 p6 : Nat) (m : MsgD) (fv : Value) (st : Bool) (hst : st = m.fields.all fun f => !f.loose) (hF : FieldsOf a0 fv m.fields) (hb : (allRefs m.fields).length ≤ 1048576) (hp2 : a0.heap.size ≤ p2) (hp3 : a0.heap.size ≤ p3) (hp6 : a0.heap.size ≤ p6) (h26 : p2 < p6) (h36 : p3 < p6)
    (o2 : w.heap[p2]? = some (.cells #[.pointer (some ⟨cb, 0, none⟩)] 93 (0, 0))) (o3 : w.heap[p3]? = some (.cells (msgCells m fv).toArray 50 (0, 0))) (o6 : w.heap[p6]? = some (.cells #[.bool st] 4 (0, 0)))
    (r : Int × Int) (hr : r = if depthM deps m < 16 then (-1, 0) else (-1, 10)) (K : World → Prop)
    (hK : ∀ w', CkO a0 w' cb md ms (deps ++ [(m.name, depthM deps m + 1)]) (strs ++ [(m.name, strictM strs m)]) at_ (-1) fs → K w') :
    n_schema_checker_next_c10 (.pointer (some ⟨p2, 0, none⟩)) (.pointer (some ⟨p3, 0, none⟩)) (.pointer (some ⟨p6, 0, none⟩)) [] (nxtR a0 at_ r K) w := by
  obtain ⟨n1, n2, l1, l2, l3⟩ := h.nd
  obtain ⟨dn, mv, ds, mn, fv', h1, h2⟩ := h.obj
  have c2 : p2 ≠ cb := by rintro rfl; rw [o2] at h1; cases h1
  have c3 : p3 ≠ cb := by rintro rfl; rw [o3] at h1; cases h1
  have c6 : p6 ≠ cb := by rintro rfl; rw [o6] at h1; cases h1
  have lp6 : p6 < w.heap.size := (Array.getElem?_eq_some_iff.1 o6).1
  have lp3 : p3 < w.heap.size := (Array.getElem?_eq_some_iff.1 o3).1
  unfold n_schema_checker_next_c10
  simp (disch := first | assumption | (simp only [ONE]; done) | rfl | (simp only [SZ]; done) | omega | (simp only [SZ] at *; omega)) only [↓PR, QR, Int.reduceBEq, Int.reduceBNe, Int.reduceLT, Int.reduceLE, Int.reduceGT, Int.reduceGE, Int.reduceNeg, (cells_of_heap h1).1, (cells_of_heap h1).2, (cells_of_heap o2).1, (cells_of_heap o3).1]
  have hC1 := h.setFld (-1)
  have o2' : (w.setCell ⟨cb, 6, none⟩ (.int .i64 (-1))).heap[p2]? = some (.cells #[.pointer (some ⟨cb, 0, none⟩)] 93 (0, 0)) := by rw [Only.setCell w cb 6 _ p2 c2]; exact o2
  have o3' : (w.setCell ⟨cb, 6, none⟩ (.int .i64 (-1))).heap[p3]? = some (.cells (msgCells m fv).toArray 50 (0, 0)) := by rw [Only.setCell w cb 6 _ p3 c3]; exact o3
  have o6' : (w.setCell ⟨cb, 6, none⟩ (.int .i64 (-1))).heap[p6]? = some (.cells #[.bool st] 4 (0, 0)) := by rw [Only.setCell w cb 6 _ p6 c6]; exact o6
  simp only [World.size_setCell]
  have eW := hC1.go ((Ext.refl (w.setCell ⟨cb, 6, none⟩ (.int .i64 (-1)))).alloc (Obj.cells #[.int .i64 0] 3))
  have x2 := ((Ext.refl (w.setCell ⟨cb, 6, none⟩ (.int .i64 (-1)))).alloc (Obj.cells #[.int .i64 0] 3)).obj o2'
  have x3 := ((Ext.refl (w.setCell ⟨cb, 6, none⟩ (.int .i64 (-1)))).alloc (Obj.cells #[.int .i64 0] 3)).obj o3'
  have x6 := ((Ext.refl (w.setCell ⟨cb, 6, none⟩ (.int .i64 (-1)))).alloc (Obj.cells #[.int .i64 0] 3)).obj o6'
  have x9 := heap_new (w.setCell ⟨cb, 6, none⟩ (.int .i64 (-1))) #[.int .i64 0] 3
  rw [World.size_setCell] at x9
  generalize hW : World.alloc (w.setCell ⟨cb, 6, none⟩ (.int .i64 (-1))) _ = W at eW x2 x3 x6 x9
  have hsz : W.heap.size = w.heap.size + 1 := by rw [← hW]; simp only [World.size_alloc, World.size_setCell]
  clear hW hC1 o2 o3 o6 o2' o3' o6' h
  have lW : a0.heap.size ≤ W.heap.size := eW.ext.size
  refine callK_ret (Refers_ret W _ m ⟨fv, rfl, hF.ext eW.ext⟩ hb) ?_
  rintro _ w7 ⟨pb, sv, rfl, hS, hpb, e7⟩
  have s7 := e7.size
  unfold n_schema_checker_next_c9
  let rs := refsM m
  let I : Nat → World → Prop := fun k w' => CkO a0 w' cb md ms deps strs at_ (-1) fs ∧ StrsAt w' pb sv (allRefs m.fields) ∧ w'.heap[p2]? = some (.cells #[.pointer (some ⟨cb, 0, none⟩)] 93 (0, 0)) ∧ w'.heap[p3]? = some (.cells (msgCells m fv).toArray 50 (0, 0)) ∧
    w'.heap[p6]? = some (.cells #[.bool (st && (rs.take k).all fun s => (lastP strs s).getD false)] 4 (0, 0)) ∧ w'.heap[w.heap.size]? = some (.cells #[.int .i64 ((rs.take k).foldl (fun d s => maxI d ((lastP deps s).getD 0)) 0)] 3 (0, 0))
  have hLI : ∀ k, Lasts w7.heap.size (I k) := fun k => Lasts.and (CkO.lasts (by omega)) (Lasts.and (StrsAt.lasts _ _ _ _) (Lasts.and (Lasts.has _ (by simp)) (Lasts.and (Lasts.has _ (by simp)) (Lasts.and (Lasts.has _ (by simp)) (Lasts.has _ (by simp))))))
  refine ⟨_, _, rs.length, strX rs, fun w => StrsAt w pb sv (allRefs m.fields), I, fun _ _ => False, fun _ _ => False, rfl, c45, Refers_seq pb sv _, ⟨eW.go e7, hS, e7.obj x2, e7.obj x3, ?_, e7.obj x9⟩, fun k w h => h.2.1, hLI, fun _ => Lasts.const _ _, ?_, ?_, ?_, ?_⟩
  · have := e7.obj x6
    rw [this]; simp
  · intro rec j w3 hj hI3 hrec hready
    refine ⟨hready, fun w4 hbz => ?_⟩
    have hrec4 := hrec.busied hbz
    have hI4 := (hLI j).busied hbz (Nat.le_succ _) hI3
    clear hI3 hrec hready hbz
    obtain ⟨hC4, hS4, y2, y3, y6, y9⟩ := hI4
    obtain ⟨s, hx⟩ := getElem?_lt hj
    have hrs : rs[j]? = some s := hx
    rw [show strX rs j = .string s by unfold strX; rw [hrs]]
    obtain ⟨dn, mv, ds, mn, fv', h1, h2⟩ := hC4.obj
    have l9 : w.heap.size < w4.heap.size := (Array.getElem?_eq_some_iff.1 y9).1
    have hstep : rs.take (j + 1) = rs.take j ++ [s] := take_snoc hrs
    refine drawK_intro ?_
    unfold n_schema_checker_next_c4
    simp (disch := first | assumption | (simp only [ONE]; done) | rfl | (simp only [SZ]; done) | omega | (simp only [SZ] at *; omega)) only [↓PR, QR, Int.reduceBEq, Int.reduceBNe, Int.reduceLT, Int.reduceLE, Int.reduceGT, Int.reduceGE, Int.reduceNeg, (cells_of_heap y9).1, (cells_of_heap y2).1, (cells_of_heap h1).1]
    rw [qV_lookup1E Try.underlying98 Try.underlying9 ty3 (hC4.mdeps.ext ((Ext.refl w4).wdrew)) s]
    have hg : (lastOf (vI deps) s).getD (.int .i64 0) = .int .i64 ((lastP deps s).getD 0) := by rw [lastOf_vI]; cases lastP deps s <;> rfl
    rw [hg]
    simp (disch := first | assumption | (simp only [ONE]; done) | rfl | (simp only [SZ]; done) | omega | (simp only [SZ] at *; omega)) only [↓PR, QR, Int.reduceBEq, Int.reduceBNe, Int.reduceLT, Int.reduceLE, Int.reduceGT, Int.reduceGE, Int.reduceNeg, (cells_of_heap y9).1, (cells_of_heap y9).2]
    refine turnK_intro ?_
    have e4 : Ext w4 w4.drew := (Ext.refl w4).wdrew
    have hC5 := (hC4.go e4).other (b := w.heap.size) (o := 0) (by omega) (by omega) (.int .i64 (if (lastP deps s).getD 0 > (rs.take j).foldl (fun d s => maxI d ((lastP deps s).getD 0)) 0 then (lastP deps s).getD 0 else (rs.take j).foldl (fun d s => maxI d ((lastP deps s).getD 0)) 0))
    have hS5 : StrsAt (w4.drew.setCell ⟨w.heap.size, 0, none⟩ (.int .i64 (if (lastP deps s).getD 0 > (rs.take j).foldl (fun d s => maxI d ((lastP deps s).getD 0)) 0 then (lastP deps s).getD 0 else (rs.take j).foldl (fun d s => maxI d ((lastP deps s).getD 0)) 0))) pb sv (allRefs m.fields) := (hS4.ext e4).set (by omega) _
    have hrec5 : RecAt rec w7.heap.size (w4.drew.setCell ⟨w.heap.size, 0, none⟩ (.int .i64 (if (lastP deps s).getD 0 > (rs.take j).foldl (fun d s => maxI d ((lastP deps s).getD 0)) 0 then (lastP deps s).getD 0 else (rs.take j).foldl (fun d s => maxI d ((lastP deps s).getD 0)) 0))) := hrec4.drew.setCell _ _
    have z2 := (Only.setCell w4.drew w.heap.size 0 (.int .i64 (if (lastP deps s).getD 0 > (rs.take j).foldl (fun d s => maxI d ((lastP deps s).getD 0)) 0 then (lastP deps s).getD 0 else (rs.take j).foldl (fun d s => maxI d ((lastP deps s).getD 0)) 0)) p2 (by omega)).trans y2
    have z3 := (Only.setCell w4.drew w.heap.size 0 (.int .i64 (if (lastP deps s).getD 0 > (rs.take j).foldl (fun d s => maxI d ((lastP deps s).getD 0)) 0 then (lastP deps s).getD 0 else (rs.take j).foldl (fun d s => maxI d ((lastP deps s).getD 0)) 0)) p3 (by omega)).trans y3
    have z6 := (Only.setCell w4.drew w.heap.size 0 (.int .i64 (if (lastP deps s).getD 0 > (rs.take j).foldl (fun d s => maxI d ((lastP deps s).getD 0)) 0 then (lastP deps s).getD 0 else (rs.take j).foldl (fun d s => maxI d ((lastP deps s).getD 0)) 0)) p6 (by omega)).trans y6
    have z9 := heap_set (w := w4.drew) (o := 0) y9 (.int .i64 (if (lastP deps s).getD 0 > (rs.take j).foldl (fun d s => maxI d ((lastP deps s).getD 0)) 0 then (lastP deps s).getD 0 else (rs.take j).foldl (fun d s => maxI d ((lastP deps s).getD 0)) 0))
    rw [show (#[Value.int .i64 ((rs.take j).foldl (fun d s => maxI d ((lastP deps s).getD 0)) 0)] : Array Value).setIfInBounds 0 (.int .i64 (if (lastP deps s).getD 0 > (rs.take j).foldl (fun d s => maxI d ((lastP deps s).getD 0)) 0 then (lastP deps s).getD 0 else (rs.take j).foldl (fun d s => maxI d ((lastP deps s).getD 0)) 0)) = #[.int .i64 ((rs.take (j + 1)).foldl (fun d s => maxI d ((lastP deps s).getD 0)) 0)] from by rw [hstep, List.foldl_append]; rfl] at z9
    generalize w4.drew.setCell ⟨w.heap.size, 0, none⟩ _ = w5 at hC5 hS5 hrec5 z2 z3 z6 z9 ⊢
    clear hC4 hS4 hrec4 y2 y3 y6 y9 h1 hg
    obtain ⟨dn, mv, ds, mn, fv', h1, h2⟩ := hC5.obj
    have hall : (st && (rs.take (j + 1)).all fun s => (lastP strs s).getD false) = ((st && (rs.take j).all fun s => (lastP strs s).getD false) && (lastP strs s).getD false) := by
      rw [hstep, List.all_append, Bool.and_assoc]; simp
    have fin : ∀ b, b = (st && (rs.take (j + 1)).all fun s => (lastP strs s).getD false) → RecAt rec w7.heap.size (w5.setCell ⟨p6, 0, none⟩ (.bool b)) ∧ I (j + 1) (w5.setCell ⟨p6, 0, none⟩ (.bool b)) := by
      rintro b rfl
      refine ⟨hrec5.setCell _ _, hC5.other hp6 c6 _, hS5.set (by omega) _, (Only.setCell w5 p6 0 _ p2 (by omega)).trans z2, (Only.setCell w5 p6 0 _ p3 (by omega)).trans z3, ?_, (Only.setCell w5 p6 0 _ w.heap.size (by omega)).trans z9⟩
      have := heap_set (o := 0) z6 (.bool (st && (rs.take (j + 1)).all fun s => (lastP strs s).getD false))
      simpa using this
    rw [hall] at fin
    generalize (st && (rs.take j).all fun s => (lastP strs s).getD false) = sj at z6 fin
    unfold n_schema_checker_next_c3
    have hg : (lastOf (vB strs) s).getD (.bool false) = .bool ((lastP strs s).getD false) := by rw [lastOf_vB]; cases lastP strs s <;> rfl
    cases sj with
    | false =>
      simp (disch := first | assumption | (simp only [ONE]; done) | rfl | (simp only [SZ]; done) | omega | (simp only [SZ] at *; omega)) only [↓PR, QR, Int.reduceBEq, Int.reduceBNe, Int.reduceLT, Int.reduceLE, Int.reduceGT, Int.reduceGE, Int.reduceNeg, (cells_of_heap z6).1, (cells_of_heap z6).2, ↓n_schema_checker_next_c1, ↓n_schema_checker_next_c2, ↓n_schema_checker_next_c3, ↓n_schema_checker_next_c4, ↓n_schema_checker_next_c5, ↓n_schema_checker_next_c6, ↓n_schema_checker_next_c7, ↓n_schema_checker_next_c8, ↓n_schema_checker_next_c9, ↓n_schema_checker_next_c10, ↓n_schema_checker_next_c11, ↓n_schema_checker_next_c12, ↓n_schema_checker_next_c13, ↓n_schema_checker_next_c14, ↓n_schema_checker_next_c15, ↓n_schema_checker_next_c16, ↓n_schema_checker_next_c17, ↓n_schema_checker_next_c18]
      exact fin false rfl
    | true =>
      simp (disch := first | assumption | (simp only [ONE]; done) | rfl | (simp only [SZ]; done) | omega | (simp only [SZ] at *; omega)) only [↓PR, QR, Int.reduceBEq, Int.reduceBNe, Int.reduceLT, Int.reduceLE, Int.reduceGT, Int.reduceGE, Int.reduceNeg, (cells_of_heap z6).1, (cells_of_heap z6).2, (cells_of_heap z2).1, (cells_of_heap h1).1]
      rw [op_lookup1O Try.underlying99 Try.underlying9 ty4 hC5.mstrs s, hg]
      generalize (lastP strs s).getD false = b at fin
      simp (disch := first | assumption | (simp only [ONE]; done) | rfl | (simp only [SZ]; done) | omega | (simp only [SZ] at *; omega)) only [↓PR, QR, Int.reduceBEq, Int.reduceBNe, Int.reduceLT, Int.reduceLE, Int.reduceGT, Int.reduceGE, Int.reduceNeg, (cells_of_heap z6).1, (cells_of_heap z6).2, n_schema_checker_next_c1]
      exact fin b (by cases b <;> rfl)
  · rintro w3 hI3 hmk
    obtain ⟨hC3, hS3, y2, y3, y6, y9⟩ := hI3
    rw [List.take_length] at y6 y9
    have hfold := foldl_maxI (fun s => (lastP deps s).getD 0) rs 0 (by decide) (fun s _ => hlow.get s) (by decide)
    refine nxt_end hC3 p2 p3 p6 w.heap.size w7.heap.size m fv _ _ hfold.1 (by have := hfold.2; omega) y2 y3 y6 y9 hmk (by omega) r hr K ?_
    rw [hst]
    exact hK
  · rintro c w3 h
    exact h.elim
  · rintro ch w3 h
    exact h.elim
end
section
variable {a0 w : World} {cb md ms : Nat} {deps : List (ByteArray × Int)} {strs : List (ByteArray × Bool)} {at_ fld : Int} {m : MsgD}
theorem nxt_loop (hlow : Low deps) (h : CkO a0 w cb md ms deps strs at_ fld m.fields) (p2 p3 : Nat) (fv : Value) (hF : FieldsOf a0 fv m.fields) (hb : (allRefs m.fields).length ≤ 1048576) (ht : ∀ f ∈ m.fields, f.terms.length ≤ 1048576) (hp2 : a0.heap.size ≤ p2) (hp3 : a0.heap.size ≤ p3)
    (o2 : w.heap[p2]? = some (.cells #[.pointer (some ⟨cb, 0, none⟩)] 93 (0, 0))) (o3 : w.heap[p3]? = some (.cells (msgCells m fv).toArray 50 (0, 0)))
    (r : Int × Int) (hr : r = tailP deps m (fieldsP deps strs [] m.fields)) (K : World → Prop)
    (hK : ∀ w', CkO a0 w' cb md ms (deps ++ [(m.name, depthM deps m + 1)]) (strs ++ [(m.name, strictM strs m)]) at_ (-1) m.fields → K w') :
    n_schema_checker_next_c13 (.pointer (some ⟨p2, 0, none⟩)) (.pointer (some ⟨p3, 0, none⟩)) [] (nxtR a0 at_ r K) w := by
  obtain ⟨n1, n2, l1, l2, l3⟩ := h.nd
  have lp2 : p2 < w.heap.size := (Array.getElem?_eq_some_iff.1 o2).1
  have lp3 : p3 < w.heap.size := (Array.getElem?_eq_some_iff.1 o3).1
  have lw := h.ext.size
  obtain ⟨A, c, rfl, hlc, hcm, hlm, hel⟩ := SliceOf.open hF
  unfold n_schema_checker_next_c13
  simp (disch := first | assumption | (simp only [ONE]; done) | rfl | (simp only [SZ]; done) | omega | (simp only [SZ] at *; omega)) only [↓PR, QR, Int.reduceBEq, Int.reduceBNe, Int.reduceLT, Int.reduceLE, Int.reduceGT, Int.reduceGE, Int.reduceNeg, (cells_of_heap o3).1]
  refine loop1_intro (fun i w' => ∃ (k : Nat) (fld' : Int), i = .int .i64 k ∧ k ≤ m.fields.length ∧ CkO a0 w' cb md ms deps strs at_ fld' m.fields ∧ w'.heap[p2]? = some (.cells #[.pointer (some ⟨cb, 0, none⟩)] 93 (0, 0)) ∧ w'.heap[p3]? = some (.cells (msgCells m (.slice A m.fields.length c)).toArray 50 (0, 0)) ∧
    w'.heap[w.heap.size]? = some (.cells #[.bool ((m.fields.take k).all fun f => !f.loose)] 4 (0, 0)) ∧ r = tailP deps m (fieldsP deps strs (m.fields.take k) (m.fields.drop k))) (fun i _ => m.fields.length - (intOf i).toNat) ⟨0, fld, rfl, by omega, h.go ((Ext.refl _).alloc _), ((Ext.refl _).alloc _).obj o2, ((Ext.refl _).alloc _).obj o3, heap_new w #[.bool true] 4, hr⟩ ?_
  rintro i w' ⟨k, fld', rfl, hk, hC, y2, y3, y6, hrk⟩
  have l6 : w.heap.size < w'.heap.size := (Array.getElem?_eq_some_iff.1 y6).1
  have lw' := hC.ext.size
  obtain ⟨dn, mv, ds, mn, fv', h1, h2⟩ := hC.obj
  have c2 : p2 ≠ cb := by rintro rfl; rw [y2] at h1; cases h1
  have c3 : p3 ≠ cb := by rintro rfl; rw [y3] at h1; cases h1
  rcases drop_cases hk with ⟨x, hx, hd, hlt, hdec⟩ | ⟨hk, hd, hdec⟩
  · obtain ⟨b, o, cs, rfl, hl, hA, hE⟩ := hel k x hx
    obtain ⟨tv, cv, rfl, hT, hCa, ht1, hc1⟩ := hE.op
    have hA' := hA.ext hC.ext
    rw [hd] at hrk
    simp only [fieldsP] at hrk
    unfold n_schema_checker_next_c12
    simp (disch := first | assumption | (simp only [ONE]; done) | rfl | (simp only [SZ]; done) | omega | (simp only [SZ] at *; omega)) only [↓PR, QR, Int.reduceBEq, Int.reduceBNe, Int.reduceLT, Int.reduceLE, Int.reduceGT, Int.reduceGE, Int.reduceNeg, hdec]
    unfold n_schema_checker_next_c11
    rw [op_indexN Try.underlying48 ty28 _ _ _ _ _ k hlt, op_load (hA'.loads ty28 rfl)]
    simp (disch := first | assumption | (simp only [ONE]; done) | rfl | (simp only [SZ]; done) | omega | (simp only [SZ] at *; omega)) only [↓PR, QR, Int.reduceBEq, Int.reduceBNe, Int.reduceLT, Int.reduceLE, Int.reduceGT, Int.reduceGE, Int.reduceNeg, (cells_of_heap y2).1, (cells_of_heap h1).1, (cells_of_heap h1).2]
    have hCw := (hC.setFld (k : Int)).go ((Ext.refl _).alloc (Obj.cells (fieldCells x tv cv).toArray 28))
    have z2 := ((Ext.refl _).alloc (Obj.cells (fieldCells x tv cv).toArray 28)).obj ((Only.setCell w' cb 6 (.int .i64 (k : Int)) p2 c2).trans y2)
    have z3 := ((Ext.refl _).alloc (Obj.cells (fieldCells x tv cv).toArray 28)).obj ((Only.setCell w' cb 6 (.int .i64 (k : Int)) p3 c3).trans y3)
    have z6 := ((Ext.refl _).alloc (Obj.cells (fieldCells x tv cv).toArray 28)).obj ((Only.setCell w' cb 6 (.int .i64 (k : Int)) w.heap.size (by omega)).trans y6)
    have z8 := heap_new (w'.setCell ⟨cb, 6, none⟩ (.int .i64 (k : Int))) (fieldCells x tv cv).toArray 28
    rw [World.size_setCell] at z8
    generalize (World.alloc (w'.setCell ⟨cb, 6, none⟩ (.int .i64 (k : Int))) (Obj.cells (fieldCells x tv cv).toArray 28)) = W at hCw z2 z3 z6 z8 ⊢
    have hkt : (m.fields.take k).length = k := by rw [List.length_take]; omega
    refine callK_flw (examine_flw hCw.chk k rfl hlt _ x ⟨tv, cv, rfl, TermsOf.ext hT hCw.ext, CasesOf.ext hCa hCw.ext⟩ (ht x (List.mem_of_getElem? hx))) (fun w5 e5 h0 => ?_) (fun w5 e5 h0 => ?_)
    · rw [if_pos h0] at hrk
      have q6 := e5.obj z6
      have q8 := e5.obj z8
      have hC5 := hCw.go e5
      have l5 : w'.heap.size < w5.heap.size := (Array.getElem?_eq_some_iff.1 q8).1
      have htk := take_snoc hx
      rw [← htk] at hrk
      have hall : ((m.fields.take (k + 1)).all fun f => !f.loose) = (((m.fields.take k).all fun f => !f.loose) && !x.loose) := by rw [htk, List.all_append]; simp
      have fin : ∀ b' w6, Ext w5 w6 → b' = ((m.fields.take (k + 1)).all fun f => !f.loose) → (∃ (k' : Nat) (fld' : Int), Value.int .i64 ((k + 1 : Nat) : Int) = .int .i64 k' ∧ k' ≤ m.fields.length ∧ CkO a0 (w6.setCell ⟨w.heap.size, 0, none⟩ (.bool b')) cb md ms deps strs at_ fld' m.fields ∧ w6.heap[p2]? = some (.cells #[.pointer (some ⟨cb, 0, none⟩)] 93 (0, 0)) ∧ w6.heap[p3]? = some (.cells (msgCells m (.slice (some ⟨b, o, none⟩) m.fields.length c)).toArray 50 (0, 0)) ∧
          (w6.setCell ⟨w.heap.size, 0, none⟩ (.bool b')).heap[w.heap.size]? = some (.cells #[.bool ((m.fields.take k').all fun f => !f.loose)] 4 (0, 0)) ∧ r = tailP deps m (fieldsP deps strs (m.fields.take k') (m.fields.drop k'))) ∧ m.fields.length - (intOf (Value.int .i64 ((k + 1 : Nat) : Int))).toNat < m.fields.length - (intOf (Value.int IntKind.i64 k)).toNat := by
        rintro b' w6 e6 rfl
        refine ⟨⟨k + 1, k, rfl, by omega, (hC5.go e6).other (by omega) (by omega) _, e6.obj (e5.obj z2), e6.obj (e5.obj z3), ?_, hrk⟩, meas_lt hlt⟩
        have := heap_set (o := 0) (e6.obj q6) (.bool ((m.fields.take (k + 1)).all fun f => !f.loose))
        simpa using this
      unfold n_schema_checker_next_c2
      rw [hall] at fin
      generalize ((m.fields.take k).all fun f => !f.loose) = sj at q6 fin
      cases sj with
      | true =>
        generalize hxl : x.loose = xl at fin
        simp (disch := first | assumption | (simp only [ONE]; done) | rfl | (simp only [SZ]; done) | omega | (simp only [SZ] at *; omega)) only [↓PR, QR, Int.reduceBEq, Int.reduceBNe, Int.reduceLT, Int.reduceLE, Int.reduceGT, Int.reduceGE, Int.reduceNeg, (cells_of_heap q6).1, (cells_of_heap q6).2, (cells_of_heap q8).1, n_schema_checker_next_c1, hxl]
        simp only [Bool.true_and] at fin
        exact fin _ w5 (Ext.refl _) rfl
      | false =>
        simp (disch := first | assumption | (simp only [ONE]; done) | rfl | (simp only [SZ]; done) | omega | (simp only [SZ] at *; omega)) only [↓PR, QR, Int.reduceBEq, Int.reduceBNe, Int.reduceLT, Int.reduceLE, Int.reduceGT, Int.reduceGE, Int.reduceNeg, (cells_of_heap q6).1, (cells_of_heap q6).2, (cells_of_heap q8).1, n_schema_checker_next_c1]
        simp only [Bool.false_and] at fin
        exact fin _ w5 (Ext.refl _) rfl
    · rw [if_neg h0] at hrk
      have hr2 : r = ((k : Int), examineC (m.fields.take k) (vI deps) (vB strs) x) := by
        rw [hrk, hkt]; unfold tailP; rw [if_neg h0]
      show outQ _ _ _ _ _ _
      rw [outQ_nil]
      exact nxtR_pan (hCw.ext.trans e5) hr2 h0
  · subst hk
    rw [hd] at hrk
    rw [List.take_length] at y6
    unfold n_schema_checker_next_c12
    simp (disch := first | assumption | (simp only [ONE]; done) | rfl | (simp only [SZ]; done) | omega | (simp only [SZ] at *; omega)) only [↓PR, QR, Int.reduceBEq, Int.reduceBNe, Int.reduceLT, Int.reduceLE, Int.reduceGT, Int.reduceGE, Int.reduceNeg, hdec]
    refine nxt_range hlow hC p2 p3 w.heap.size m _ _ rfl hF hb hp2 hp3 lw lp2 lp3 y2 y3 y6 r ?_ K hK
    rw [hrk]
    rfl
theorem next_flw {w0 : World} {fs0 : List FieldD} (hlow : Low deps) (h : CkO a0 w0 cb md ms deps strs at_ fld fs0) (v : Value) (hm : MsgVal a0 v m) (hb : (allRefs m.fields).length ≤ 1048576) (ht : ∀ f ∈ m.fields, f.terms.length ≤ 1048576) (K : World → Prop)
    (hK : ∀ w', CkO a0 w' cb md ms (deps ++ [(m.name, depthM deps m + 1)]) (strs ++ [(m.name, strictM strs m)]) at_ (-1) m.fields → K w') :
    Calls Try.prog 64 #[.pointer (some ⟨cb, 0, none⟩), v] w0 (nxtR a0 at_ (nextP deps strs m) K) := by
  obtain ⟨fv, rfl, hF⟩ := hm
  obtain ⟨n1, n2, l1, l2, l3⟩ := h.nd
  have lw := h.ext.size
  have hf1 := SliceOf.oneCell hF
  refine n_schema_checker_next_sound ?_; unfold n_schema_checker_next
  simp (disch := first | assumption | (simp only [ONE]; done) | rfl | (simp only [SZ]; done) | omega | (simp only [SZ] at *; omega)) only [↓PR, QR, Int.reduceBEq, Int.reduceBNe, Int.reduceLT, Int.reduceLE, Int.reduceGT, Int.reduceGE, Int.reduceNeg]
  have hC := h.go (((Ext.refl w0).alloc (Obj.cells #[.pointer (some ⟨cb, 0, none⟩)] 93)).alloc (Obj.cells (msgCells m fv).toArray 50))
  have z3 := heap_new (w0.alloc (Obj.cells #[.pointer (some ⟨cb, 0, none⟩)] 93)) (msgCells m fv).toArray 50
  have z2 := ((Ext.refl (w0.alloc (Obj.cells #[.pointer (some ⟨cb, 0, none⟩)] 93))).alloc (Obj.cells (msgCells m fv).toArray 50)).obj (heap_new w0 _ _)
  simp only [World.size_alloc] at z3 ⊢
  generalize (World.alloc (World.alloc w0 _) _) = W at hC z2 z3 ⊢
  clear h
  obtain ⟨dn, mv, ds, mn, fv', h1, h2⟩ := hC.obj
  refine drawK_introB (w1 := W) cb cb (fun _ _ _ _ => rfl) ?_
  unfold n_schema_checker_next_c18
  simp (disch := first | assumption | (simp only [ONE]; done) | rfl | (simp only [SZ]; done) | omega | (simp only [SZ] at *; omega)) only [↓PR, QR, Int.reduceBEq, Int.reduceBNe, Int.reduceLT, Int.reduceLE, Int.reduceGT, Int.reduceGE, Int.reduceNeg, (cells_of_heap z2).1]
  have L3 : ∀ w', KB W cb cb w' → Loads Try.prog w' 50 ⟨w0.heap.size + 1, 0, none⟩ (.agg (msgCells m fv).toArray) := fun w' hw' => Loads.many ty50 rfl (fun j u hu => by
    rw [Addr.add_lit]
    exact KB.cell (b := w0.heap.size + 1) hw' (by omega) (by omega) (by rw [(cells_of_heap z3).1]; simpa using hu))
  rw [qV_loadG L3]
  simp (disch := first | assumption | (simp only [ONE]; done) | rfl | (simp only [SZ]; done) | omega | (simp only [SZ] at *; omega)) only [↓PR, QR, Int.reduceBEq, Int.reduceBNe, Int.reduceLT, Int.reduceLE, Int.reduceGT, Int.reduceGE, Int.reduceNeg, (cells_of_heap h1).1, (cells_of_heap h1).2]
  have eD : Ext W W.drew := (Ext.refl W).wdrew
  have hC1 := (hC.go eD).setMsg m.name fv m.fields hF
  have y2 := (Only.setCell (W.drew.setCell ⟨cb, 7, none⟩ (.string m.name)) cb 8 fv w0.heap.size (by omega)).trans ((Only.setCell W.drew cb 7 (.string m.name) w0.heap.size (by omega)).trans (eD.obj z2))
  have y3 := (Only.setCell (W.drew.setCell ⟨cb, 7, none⟩ (.string m.name)) cb 8 fv (w0.heap.size + 1) (by omega)).trans ((Only.setCell W.drew cb 7 (.string m.name) (w0.heap.size + 1) (by omega)).trans (eD.obj z3))
  refine ⟨fun b hb b1 _ => (Only.setCell _ cb 8 fv b b1).trans (Only.setCell W.drew cb 7 (.string m.name) b b1), ?_⟩
  show n_schema_checker_next_c17 _ _ _ _ _ _ ((W.drew.setCell ⟨cb, 7, none⟩ (.string m.name)).setCell ⟨cb, 8, none⟩ fv)
  generalize ((W.drew.setCell ⟨cb, 7, none⟩ (.string m.name)).setCell ⟨cb, 8, none⟩ fv) = W1 at hC1 y2 y3 ⊢
  clear hC z2 z3 h1
  obtain ⟨dn, mv, ds, mn, fv', h1, h2'⟩ := hC1.obj
  unfold n_schema_checker_next_c17
  simp (disch := first | assumption | (simp only [ONE]; done) | rfl | (simp only [SZ]; done) | omega | (simp only [SZ] at *; omega)) only [↓PR, QR, Int.reduceBEq, Int.reduceBNe, Int.reduceLT, Int.reduceLE, Int.reduceGT, Int.reduceGE, Int.reduceNeg, (cells_of_heap h1).1, (cells_of_heap h1).2]
  have hC2 := hC1.setFld (-1)
  have x2 := (Only.setCell W1 cb 6 (.int .i64 (-1)) w0.heap.size (by omega)).trans y2
  have x3 := (Only.setCell W1 cb 6 (.int .i64 (-1)) (w0.heap.size + 1) (by omega)).trans y3
  generalize (W1.setCell ⟨cb, 6, none⟩ (.int .i64 (-1))) = W2 at hC2 x2 x3 ⊢
  clear hC1 y2 y3 h1
  refine turnK_intro ?_
  refine drawK_intro ?_
  unfold n_schema_checker_next_c16
  simp (disch := first | assumption | (simp only [ONE]; done) | rfl | (simp only [SZ]; done) | omega | (simp only [SZ] at *; omega)) only [↓PR, QR, Int.reduceBEq, Int.reduceBNe, Int.reduceLT, Int.reduceLE, Int.reduceGT, Int.reduceGE, Int.reduceNeg, (cells_of_heap x2).1, (cells_of_heap x3).1]
  refine callK_ret (Name_ret _ m.name) ?_
  rintro _ w3 ⟨rfl, e3⟩
  have e3' : Ext W2 w3 := (Ext.refl W2).wdrew.trans e3
  refine ⟨e3, ?_⟩
  generalize hr : nextP deps strs m = r
  unfold nextP at hr
  refine callK_flw (need_flw (hC2.go e3').chk _ 1 (by decide)) (fun w4 e4 h0 => ?_) (fun w4 e4 h0 => ?_)
  · have e4' := e3'.trans e4
    have hn : nameB m.name = true := needC_zero (by decide) h0
    rw [if_pos hn] at hr
    refine ⟨e3.trans e4, ?_⟩
    have hC4 := hC2.go e4'
    have x2' := e4'.obj x2
    have x3' := e4'.obj x3
    obtain ⟨dn, mv, ds, mn, fv', h1, h2'⟩ := hC4.obj
    refine drawK_intro ?_
    unfold n_schema_checker_next_c15
    simp (disch := first | assumption | (simp only [ONE]; done) | rfl | (simp only [SZ]; done) | omega | (simp only [SZ] at *; omega)) only [↓PR, QR, Int.reduceBEq, Int.reduceBNe, Int.reduceLT, Int.reduceLE, Int.reduceGT, Int.reduceGE, Int.reduceNeg, (cells_of_heap x2').1, (cells_of_heap x3').1, (cells_of_heap h1).1]
    have eD4 : Ext w4 w4.drew := (Ext.refl w4).wdrew
    rw [qV_lookupE Try.underlying98 Try.underlying9 ty3 (hC4.mdeps.ext eD4) m.name]
    have hsome : (lastOf (vI deps) m.name).isSome = (lastP deps m.name).isSome := by rw [lastOf_vI, Option.isSome_map]
    rw [hsome]
    simp (disch := first | assumption | (simp only [ONE]; done) | rfl | (simp only [SZ]; done) | omega | (simp only [SZ] at *; omega)) only [↓PR, QR, Int.reduceBEq, Int.reduceBNe, Int.reduceLT, Int.reduceLE, Int.reduceGT, Int.reduceGE, Int.reduceNeg, (cells_of_heap x2').1]
    refine callK_flw (need_flw (hC4.go eD4).chk _ 2 (by decide)) (fun w5 e5 h0 => ?_) (fun w5 e5 h0 => ?_)
    · have hs : (lastP deps m.name).isSome = false := by have := needC_zero (by decide) h0; simpa using this
      rw [hs, if_neg (by simp)] at hr
      have hC5 := hC4.go (eD4.trans e5)
      have x2'' := (eD4.trans e5).obj x2'
      have x3'' := (eD4.trans e5).obj x3'
      have fin : ∀ b, b = decide (1 ≤ m.fields.length ∧ m.fields.length ≤ 40) → callK Try.prog 62 #[.pointer (some ⟨cb, 0, none⟩), .bool b, .int .i64 3] (outQ Try.prog [] [] (nxtR a0 at_ r K)) w5 (fun _ w => n_schema_checker_next_c13 (.pointer (some ⟨w0.heap.size, 0, none⟩)) (.pointer (some ⟨w0.heap.size + 1, 0, none⟩)) [] (nxtR a0 at_ r K) w) := by
        rintro b rfl
        refine callK_flw (need_flw hC5.chk _ 3 (by decide)) (fun w6 e6 h0 => ?_) (fun w6 e6 h0 => ?_)
        · have hl := needC_zero (by decide) h0
          simp only [decide_eq_true_eq] at hl
          rw [if_pos hl] at hr
          exact nxt_loop hlow (hC5.go e6) w0.heap.size (w0.heap.size + 1) fv hF hb ht (by omega) (by omega) (e6.obj x2'') (e6.obj x3'') r hr.symm K hK
        · by_cases hl : 1 ≤ m.fields.length ∧ m.fields.length ≤ 40
          · rw [decide_eq_true hl] at h0; exact absurd rfl h0
          · rw [if_neg hl] at hr
            rw [decide_eq_false hl]
            show outQ _ _ _ _ _ _
            rw [outQ_nil]
            exact nxtR_pan (hC5.ext.trans e6) hr.symm (by decide)
      obtain ⟨A, c, rfl, hlc, hcm, hlm, hel⟩ := SliceOf.open hF
      unfold n_schema_checker_next_c14
      by_cases h1l : 1 ≤ m.fields.length
      · have d1 : decide ((m.fields.length : Int) ≥ 1) = true := by simp; omega
        by_cases h2l : m.fields.length ≤ 40
        · have d2 : decide ((m.fields.length : Int) ≤ 40) = true := by simp; omega
          simp (disch := first | assumption | (simp only [ONE]; done) | rfl | (simp only [SZ]; done) | omega | (simp only [SZ] at *; omega)) only [↓PR, QR, Int.reduceBEq, Int.reduceBNe, Int.reduceLT, Int.reduceLE, Int.reduceGT, Int.reduceGE, Int.reduceNeg, (cells_of_heap x2'').1, (cells_of_heap x3'').1, d1, d2]
          exact fin _ (by simp [h1l, h2l])
        · have d2 : decide ((m.fields.length : Int) ≤ 40) = false := by simp; omega
          simp (disch := first | assumption | (simp only [ONE]; done) | rfl | (simp only [SZ]; done) | omega | (simp only [SZ] at *; omega)) only [↓PR, QR, Int.reduceBEq, Int.reduceBNe, Int.reduceLT, Int.reduceLE, Int.reduceGT, Int.reduceGE, Int.reduceNeg, (cells_of_heap x2'').1, (cells_of_heap x3'').1, d1, d2]
          exact fin _ (by simp [h2l])
      · have d1 : decide ((m.fields.length : Int) ≥ 1) = false := by simp; omega
        simp (disch := first | assumption | (simp only [ONE]; done) | rfl | (simp only [SZ]; done) | omega | (simp only [SZ] at *; omega)) only [↓PR, QR, Int.reduceBEq, Int.reduceBNe, Int.reduceLT, Int.reduceLE, Int.reduceGT, Int.reduceGE, Int.reduceNeg, (cells_of_heap x2'').1, (cells_of_heap x3'').1, d1]
        exact fin _ (by simp [h1l])
    · have hs : (lastP deps m.name).isSome = true := by
        cases hq : (lastP deps m.name).isSome with
        | true => rfl
        | false => rw [hq] at h0; exact absurd rfl h0
      rw [hs, if_pos rfl] at hr
      rw [hs]
      show outQ _ _ _ _ _ _
      rw [outQ_nil]
      exact nxtR_pan (hC4.ext.trans (eD4.trans e5)) hr.symm (by decide)
  · have hn : nameB m.name = false := by
      cases hq : nameB m.name with
      | false => rfl
      | true => rw [hq] at h0; exact absurd rfl h0
    rw [hn, if_neg (by simp)] at hr
    rw [hn]
    show outQ _ _ _ _ _ _
    rw [outQ_nil]
    exact nxtR_pan (hC2.ext.trans (e3'.trans e4)) hr.symm (by decide)
end
end Go.Proofs.Ytiajhbbmgglmlaa
namespace Go.Proofs.Ytiajhbbmgglmlaa
open Sw
open Go.RowKit (intOf Below)
set_option maxRecDepth 100000
structure Save (lo hi : Nat) (w w' : World) : Prop where
  os : w'.os = w.os
  tape : w'.tape = w.tape
  output : w'.output = w.output
  size : w.heap.size ≤ w'.heap.size
  block : ∀ k, k < w.heap.size → (k < lo ∨ hi ≤ k) → w'.heap[k]? = w.heap[k]?
section
variable {lo hi : Nat} {w w' w1 w2 : World}
theorem Save.refl (lo hi : Nat) (w : World) : Save lo hi w w := ⟨rfl, rfl, rfl, Nat.le_refl _, fun _ _ _ => rfl⟩
theorem Save.ext (h : Save lo hi w w1) (e : Ext w1 w2) : Save lo hi w w2 := ⟨e.os.trans h.os, e.tape.trans h.tape, e.output.trans h.output, Nat.le_trans h.size e.size, fun k hk hb => (e.block k (Nat.lt_of_lt_of_le hk h.size)).trans (h.block k hk hb)⟩
theorem Save.trans (h : Save lo hi w w1) (k : Save lo hi w1 w2) : Save lo hi w w2 := ⟨k.os.trans h.os, k.tape.trans h.tape, k.output.trans h.output, Nat.le_trans h.size k.size, fun i hi' hb => (k.block i (Nat.lt_of_lt_of_le hi' h.size) hb).trans (h.block i hi' hb)⟩
theorem Save.setCell (h : Save lo hi w w1) {b o : Nat} (h1 : lo ≤ b) (h2 : b < hi) (v : Value) : Save lo hi w (w1.setCell ⟨b, o, none⟩ v) :=
  ⟨h.os, h.tape, h.output, by rw [World.size_setCell]; exact h.size, fun k hk hb => (Only.setCell w1 b o v k (by omega)).trans (h.block k hk hb)⟩
theorem Save.to_ext {a : World} (h : Save lo hi w w') (e : Ext a w) (hl : a.heap.size ≤ lo) : Ext a w' := ⟨h.os.trans e.os, h.tape.trans e.tape, h.output.trans e.output, Nat.le_trans e.size h.size, fun k hk => (h.block k (Nat.lt_of_lt_of_le hk e.size) (.inl (by omega))).trans (e.block k hk)⟩
theorem Save.obj (h : Save lo hi w w') {b : Nat} {o : Obj} (hb : w.heap[b]? = some o) (hr : b < lo ∨ hi ≤ b) : w'.heap[b]? = some o := (h.block b (Array.getElem?_eq_some_iff.1 hb).1 hr).trans hb
theorem Save.cell (h : Save lo hi w w') {b o : Nat} {v : Value} (hb : w.cell? ⟨b, o, none⟩ = some v) (hr : b < lo ∨ hi ≤ b) : w'.cell? ⟨b, o, none⟩ = some v := (World.cell?_of_block (h.block b (World.block_lt_of_cell? w _ hb) hr)).trans hb
theorem Save.strs (h : Save lo hi w w') {pb : Nat} {sv : Value} {l : List ByteArray} (hs : StrsAt w pb sv l) (hp : hi ≤ pb) : StrsAt w' pb sv l := by
  obtain ⟨h1, ⟨A, c, hv, h2, h3, h4⟩, h5⟩ := hs
  refine ⟨h.cell h1 (.inr hp), ⟨A, c, hv, h2, h3, fun hne => ?_⟩, h5⟩
  obtain ⟨b, o, hA, hel⟩ := h4 hne
  refine ⟨b, o, hA, fun k x hx => ?_⟩
  obtain ⟨cs, a1, a2, a3⟩ := hel k x hx
  have hb : pb < b := h5 ⟨b, o, none⟩ _ _ (by rw [hv, hA])
  exact ⟨cs, a1, fun j v hv => h.cell (a2 j v hv) (.inr (by omega)), a3⟩
def ShapeC (w : World) (lo hi : Nat) (cv : Value) : Prop := cv = .slice none 0 0 ∨ ∃ g len cap cur, cv = .slice (some ⟨g, 0, none⟩) len cap ∧ lo ≤ g ∧ g < hi ∧ w.heap[g]? = some (.cells cur TC (0, 0)) ∧ len * 3 ≤ cur.size ∧ len ≤ 1048576
def ShapeF (w : World) (lo hi : Nat) (fv : Value) (n : Nat) : Prop := (fv = .slice none 0 0 ∧ n = 0) ∨ ∃ g cap cur, fv = .slice (some ⟨g, 0, none⟩) n cap ∧ lo ≤ g ∧ g < hi ∧ w.heap[g]? = some (.cells cur TF (0, 0)) ∧ n * 15 ≤ cur.size ∧ ∀ k, k < n → ∃ cv, cur[k * 15 + 12]? = some cv ∧ ShapeC w lo hi cv
theorem ShapeC.set {cv : Value} (h : ShapeC w lo hi cv) (b o : Nat) (v : Value) : ShapeC (w.setCell ⟨b, o, none⟩ v) lo hi cv := by
  rcases h with h | ⟨g, len, cap, cur, h1, h2, h3, h4, h5, h6⟩
  · exact .inl h
  · by_cases e : g = b
    · subst e
      exact .inr ⟨g, len, cap, _, h1, h2, h3, heap_set h4 v, by simpa using h5, h6⟩
    · exact .inr ⟨g, len, cap, cur, h1, h2, h3, (Only.setCell w b o v g e).trans h4, h5, h6⟩
theorem ShapeC.ext {cv : Value} (h : ShapeC w lo hi cv) (e : Ext w w') : ShapeC w' lo hi cv := by
  rcases h with h | ⟨g, len, cap, cur, h1, h2, h3, h4, h5, h6⟩
  · exact .inl h
  · exact .inr ⟨g, len, cap, cur, h1, h2, h3, e.obj h4, h5, h6⟩
theorem ShapeF.ext {fv : Value} {n : Nat} (h : ShapeF w lo hi fv n) (e : Ext w w') : ShapeF w' lo hi fv n := by
  rcases h with h | ⟨g, cap, cur, h1, h2, h3, h4, h5, h6⟩
  · exact .inl h
  · exact .inr ⟨g, cap, cur, h1, h2, h3, e.obj h4, h5, fun k hk => let ⟨cv, a, b⟩ := h6 k hk; ⟨cv, a, b.ext e⟩⟩
theorem ShapeF.set {fv : Value} {n : Nat} (h : ShapeF w lo hi fv n) (b o : Nat) (v : Value) (ho : ∀ T cur, w.heap[b]? = some (.cells cur T (0, 0)) → T = TF → o % 15 ≠ 12) : ShapeF (w.setCell ⟨b, o, none⟩ v) lo hi fv n := by
  rcases h with h | ⟨g, cap, cur, h1, h2, h3, h4, h5, h6⟩
  · exact .inl h
  · by_cases e : g = b
    · subst e
      refine .inr ⟨g, cap, _, h1, h2, h3, heap_set h4 v, by simpa using h5, fun k hk => ?_⟩
      obtain ⟨cv, a, hc⟩ := h6 k hk
      have := ho _ _ h4 rfl
      refine ⟨cv, ?_, hc.set _ _ _⟩
      rw [Array.getElem?_setIfInBounds_ne (by omega)]
      exact a
    · exact .inr ⟨g, cap, cur, h1, h2, h3, (Only.setCell w b o v g e).trans h4, h5, fun k hk => let ⟨cv, a, c⟩ := h6 k hk; ⟨cv, a, c.set _ _ _⟩⟩
theorem FieldsN.shape {fv : Value} {l : List FieldD} (h : FieldsN w lo hi fv l) (ht : ∀ f ∈ l, f.cases.length ≤ 1048576) : ShapeF w lo hi fv l.length := by
  obtain ⟨css, ⟨⟨h1, h2⟩, h3⟩, hm1, hm2⟩ := h
  rcases h2 with ⟨hv, h0⟩ | ⟨g, cap, cur, hv, hb, hc, hn, _, hsz, htake⟩
  · exact .inl ⟨hv, by rw [← hm1]; exact h0⟩
  · refine .inr ⟨g, cap, cur, by rw [hv, hm1], hb, h3 g (by rw [hv]; rfl), hc, by rw [hsz, ← hm1]; exact Nat.mul_le_mul_right _ hn, fun k hk => ?_⟩
    obtain ⟨x, hx⟩ := getElem?_lt hk
    obtain ⟨cs, hcs⟩ := getElem?_lt (l := css) (k := k) (by rw [hm1]; exact hk)
    obtain ⟨tv, cv, he, hT, hC⟩ := hm2 k x cs hx hcs
    refine ⟨cv, ?_, ?_⟩
    · have := flatMap_get (enc := (Subtype.val : Cs 15 → List Value)) (fun x => x.2) css k cs 12 cv hcs (by rw [he]; rfl)
      rw [← htake, List.getElem?_take] at this
      split at this
      · simpa using this
      · cases this
    · obtain ⟨⟨_, h2⟩, h3⟩ := hC
      rcases h2 with ⟨hv, _⟩ | ⟨g, cap, cur, hv, hb, hc, hn, _, hsz, _⟩
      · exact .inl hv
      · exact .inr ⟨g, _, cap, cur, hv, hb, h3 g (by rw [hv]; rfl), hc, by rw [hsz]; exact Nat.mul_le_mul_right _ hn, ht x (List.mem_of_getElem? hx)⟩
end
end Go.Proofs.Ytiajhbbmgglmlaa
namespace Go.Sw
open Go.ChangeShapes Go.WideShapes Go.RowKit Go.ChangeAt Go.Deep
theorem list_of {α : Type} {p : Nat → α → Prop} : ∀ (n : Nat), (∀ i, i < n → ∃ x, p i x) → ∃ l : List α, l.length = n ∧ ∀ k x, l[k]? = some x → p k x
  | 0, _ => ⟨[], rfl, fun k x h => by simp at h⟩
  | n + 1, h => by
    obtain ⟨l, hl, hp⟩ := list_of n (fun i hi => h i (by omega))
    obtain ⟨x, hx⟩ := h n (by omega)
    refine ⟨l ++ [x], by simp [hl], fun k y hy => ?_⟩
    rw [List.getElem?_append] at hy
    split at hy
    · exact hp k y hy
    · have hk : k = n := by
        have := (List.getElem?_eq_some_iff.1 hy).1
        simp at this
        omega
      subst hk
      simp [hl] at hy
      subst hy
      exact hx
section
variable {H : Type} {enc : TypeId × Value → H} {P : Program} {w : World} {base : Nat} {spare : Nat → Bool} {held : Bool}
theorem weightsAll_mem {e : TypeId} {m : Nat} {d : DataW H} : ∀ {l : List (DataW H)}, d ∈ l → m ∈ d.weights P e → m ∈ DataW.weightsAll P e l
  | [], h, _ => by cases h
  | a :: l, h, hm => by
    rw [DataW.weightsAll, List.mem_append]
    rcases List.mem_cons.1 h with rfl | h
    · exact .inl hm
    · exact .inr (weightsAll_mem h hm)
def Reached (P : Program) (t : TypeId) (d : DataW H) : Prop := ∀ m ∈ d.weights P t, m ≤ reachBytes
theorem reached_of {ts : List TypeId} {ds : List (DataW H)} (h : (DataW.weightsEach P ts ds).all (· ≤ reachBytes) = true) {j : Nat} {t : TypeId} {d : DataW H} (ht : ts[j]? = some t) (hd : ds[j]? = some d) : Reached P t d := fun m hm => by
  have := List.all_eq_true.1 h _ (DataW.weights_mem_each ht hd m hm)
  simpa using this
theorem slice_of_trod {α : Type} {E : World → List Value → α → Prop} {Q : α → Prop} {t e : TypeId} {n fuel : Nat} {cs : List Value} {x : DataW H × List MemPlace} (ht : P.underlying t = some (.slice e)) (hn : P.cellsOf e = n) (hb1 : 1 ≤ P.bytesOf e) (h0 : 0 < n)
    (hE : ∀ m cs' y, DataW.trod enc P w base spare held m e cs' = some y → Reached P e y.1 → ∃ x, E w cs' x ∧ Q x) (h : DataW.trod enc P w base spare held fuel t cs = some x) (hr : Reached P t x.1) : ∃ v l, cs = [v] ∧ SliceOf w n E v l ∧ (∀ x ∈ l, Q x) ∧ l.length ≤ 140737488355328 := by
  rcases open_slice ht h with ⟨rfl, _⟩ | ⟨a, len, cap, m, k, D, Pl, rfl, hb, hl, hm, hmm, hx, hel⟩
  · exact ⟨_, [], rfl, SliceOf.nil _ _ _, fun x hx => by (cases hx), Nat.zero_le _⟩
  · have hlm : len ≤ m := by rw [hmm]; split <;> omega
    subst hx
    have hw0 := hr ((len + (m - len)) * P.bytesOf e) (by simp only [DataW.weights, ht]; simp)
    have hlen : len ≤ 140737488355328 := by
      have : len * 1 ≤ (len + (m - len)) * P.bytesOf e := Nat.mul_le_mul (by omega) hb1
      simp only [reachBytes] at hw0
      omega
    have hD : ∀ i, i < len → Reached P e (D i) := fun i hi q hq => hr q (by
      simp only [DataW.weights, ht, List.mem_cons, List.mem_append]
      exact .inr (.inl (weightsAll_mem (List.mem_map.2 ⟨i, List.mem_range.2 hi, rfl⟩) hq)))
    obtain ⟨l, hll, hp⟩ := list_of (p := fun i (x : α) => ∃ cs', w.cells? base (a.add (i * n)) n = some cs' ∧ E w cs' x ∧ Q x) len (fun i hi => by
      obtain ⟨cs', h1, h2⟩ := hel i (by omega)
      rw [hn] at h1
      obtain ⟨x, hx⟩ := hE _ _ _ h2 (hD i hi)
      exact ⟨x, cs', h1, hx⟩)
    refine ⟨_, l, rfl, ⟨some a, cap, by rw [hll], by rw [hll]; exact hl, by simp only [maxLen] at hm; omega, fun hne => ?_⟩, fun x hx => ?_, by omega⟩
    · obtain ⟨b, o, spot⟩ := a
      have hspot : spot = none := by
        have : 0 < l.length := List.length_pos_iff.2 hne
        obtain ⟨y, hy⟩ := getElem?_lt this
        obtain ⟨cs', h1, _⟩ := hp 0 y hy
        obtain ⟨_, h2, h3⟩ := World.cells?_some h1
        have h4 := h3 0 h0
        rw [List.getElem?_eq_getElem (by omega)] at h4
        simpa [Addr.add] using World.cell?_spot h4
      subst hspot
      refine ⟨b, o, rfl, fun k x hx => ?_⟩
      obtain ⟨cs', h1, h2, _⟩ := hp k x hx
      obtain ⟨_, h3, h4⟩ := World.cells?_some h1
      refine ⟨cs', h3, fun j v hv => ?_, h2⟩
      have h5 := h4 j (by have := (List.getElem?_eq_some_iff.1 hv).1; omega)
      rw [hv] at h5
      simpa [Addr.add_lit] using h5
    · obtain ⟨k, hk⟩ := List.getElem?_of_mem hx
      obtain ⟨_, _, _, hq⟩ := hp k x hk
      exact hq
theorem struct_of_trod {fs : Array Field} {t : TypeId} {n fuel : Nat} {cs : List Value} {x : DataW H × List MemPlace} (ht : P.underlying t = some (.struct fs)) (hn : P.cellsOf t = n) (h : DataW.trod enc P w base spare held fuel t cs = some x) (hr : Reached P t x.1) :
    cs.length = n ∧ ∃ m, ∀ (i : Nat) (ty off k : Nat), (fs[i]?).map (fun f => (f.type, f.offset)) = some (ty, off) → P.cellsOf ty = k → ∃ y, DataW.trod enc P w base spare held m ty ((cs.drop off).take k) = some y ∧ Reached P ty y.1 := by
  obtain ⟨xs, m, _, rfl, hl, hlen, hf⟩ := DataW.trod_struct ht h
  refine ⟨hl.trans hn, m, fun i ty off k hi hk => ?_⟩
  obtain ⟨f, hfi, he⟩ := Option.map_eq_some_iff.1 hi
  injection he with h1 h2
  subst h1 h2 hk
  have hil : i < xs.length := by rw [hlen]; exact (Array.getElem?_eq_some_iff.1 hfi).1
  refine ⟨xs[i], (hf i f hfi).trans (List.getElem?_eq_getElem hil), fun q hq => hr q ?_⟩
  simp only [DataW.weights, ht]
  refine DataW.weights_mem_each (j := i) (t := f.type) (d := xs[i].1) ?_ ?_ q hq
  · rw [List.getElem?_map, Array.getElem?_toList, hfi]; rfl
  · rw [List.getElem?_map, List.getElem?_eq_getElem hil]; rfl
theorem trodAll_stays (hl : laidOutB P = true) {W W' : World} (he : Ext W W') : ∀ {ts : List TypeId} {vs : List Value} {ds : List (DataW H)} {ps : List MemPlace}, (∀ t ∈ ts, P.readableRec t = true ∧ t < P.types.size) → (∀ x ∈ ps, x.block < W.heap.size) →
    DataW.TrodAll enc P W 0 (fun _ => true) true ts vs ds ps → DataW.TrodAll enc P W' 0 (fun b => decide (b < W.heap.size)) true ts vs ds ps
  | [], _, _, _, _, _, h => by obtain ⟨rfl, rfl, rfl⟩ := trodAll_nil h; exact trodAll_mk0
  | t :: ts, _, _, _, hr, hlt, h => by
    obtain ⟨v, vs1, d, ds1, a, b, rfl, rfl, rfl, h1, h2⟩ := trodAll_cons h
    refine ⟨a, b, ?_, trodAll_stays hl he (fun t ht => hr t (List.mem_cons_of_mem _ ht)) (fun x hx => hlt x (List.mem_append_right _ hx)) h2, rfl⟩
    exact Below.trod hl (hr t (List.mem_cons_self ..)).1 (hr t (List.mem_cons_self ..)).2 h1 ⟨he.os, he.tape, he.output, he.size, he.block⟩ (fun x hx => hlt x (List.mem_append_left _ hx))
theorem law_post {f : Func} {s : ChangeSpec} {W W' : World} {args : Array Value} {ds gs : List (DataW H)} {before : List MemPlace} {tb : TypeId} (hl : laidOutB P = true) (hr : ∀ t ∈ f.params.toList, P.readableRec t = true ∧ t < P.types.size) (hs : s.vars = [])
    (hW : DataW.Whole enc P f.params.toList s.vars false W args.toList ds gs before) (he : Ext W W') (hres : f.resultTypes = #[tb]) (htb : P.underlying tb = some .bool) (hfn : (s.fn H ds).results = [.lit (.bool true)]) (hargs : (s.fn H ds).args = ds) (hvars : (s.fn H ds).vars = []) :
    s.post enc P f false true false false W args (.bool true) W' := by
  have hW' := hW
  obtain ⟨p, q, hA, hV, rfl, _, _⟩ := hW
  rw [hs] at hV
  obtain ⟨rfl, rfl⟩ := trodVars_none hV
  have hlt : ∀ x ∈ p, x.block < W.heap.size := fun x hx => hW'.lt x (by simpa using hx)
  rw [List.append_nil] at hW'
  refine ⟨ds, [], p, [], p, [], hW', ?_, ?_, ?_, Below.frame ⟨he.os, he.tape, he.output, he.size, he.block⟩ _, fun h => by cases h⟩
  · rw [List.append_nil, hfn, hres]
    exact trodAll_mk1 (shut_bool htb _)
  · rw [List.append_nil, hargs]
    exact trodAll_stays hl he hr hlt hA
  · rw [List.append_nil, hvars, hs]
    exact rfl
end
end Go.Sw
namespace Go.Proofs.Ytiajhbbmgglmlaa
open Sw
open Go.ChangeShapes Go.WideShapes Go.RowKit Go.ChangeAt Go.Deep
set_option maxRecDepth 100000
theorem cellsTerm : Try.prog.cellsOf 77 = 2 := by kernel_rfl
theorem cellsCase : Try.prog.cellsOf 62 = 3 := by kernel_rfl
theorem cellsSize : Try.prog.cellsOf 25 = 2 := by kernel_rfl
theorem cellsField : Try.prog.cellsOf 28 = 15 := by kernel_rfl
theorem cellsMessage : Try.prog.cellsOf 50 = 2 := by kernel_rfl
theorem cellsDefinition : Try.prog.cellsOf 44 = 3 := by kernel_rfl
theorem cellsString : Try.prog.cellsOf 9 = 1 := by kernel_rfl
theorem cellsInt : Try.prog.cellsOf 3 = 1 := by kernel_rfl
theorem cellsBool : Try.prog.cellsOf 4 = 1 := by kernel_rfl
theorem cellsKind : Try.prog.cellsOf 22 = 1 := by kernel_rfl
theorem cellsTerms : Try.prog.cellsOf 23 = 1 := by kernel_rfl
theorem cellsCases : Try.prog.cellsOf 26 = 1 := by kernel_rfl
theorem cellsFields : Try.prog.cellsOf 48 = 1 := by kernel_rfl
theorem bytesTerm : 1 ≤ Try.prog.bytesOf 77 := Nat.le_of_ble_eq_true (by kernel_rfl)
theorem bytesCase : 1 ≤ Try.prog.bytesOf 62 := Nat.le_of_ble_eq_true (by kernel_rfl)
theorem bytesField : 1 ≤ Try.prog.bytesOf 28 := Nat.le_of_ble_eq_true (by kernel_rfl)
theorem bytesMessage : 1 ≤ Try.prog.bytesOf 50 := Nat.le_of_ble_eq_true (by kernel_rfl)
def FieldSm (f : FieldD) : Prop := f.terms.length ≤ 140737488355328 ∧ f.cases.length ≤ 140737488355328 ∧ ∀ c ∈ f.cases, c.of.size ≤ 140737488355328
def MsgSm (m : MsgD) : Prop := m.fields.length ≤ 140737488355328 ∧ ∀ f ∈ m.fields, FieldSm f
def DefSm (d : DefD) : Prop := d.msgs.length ≤ 140737488355328 ∧ ∀ m ∈ d.msgs, MsgSm m
theorem cellsMessages : Try.prog.cellsOf 42 = 1 := by kernel_rfl
section
variable {H : Type} {enc : TypeId × Value → H} {w : World} {base : Nat} {spare : Nat → Bool} {held : Bool}
theorem term_of {m : Nat} {cs : List Value} {y : DataW H × List MemPlace} (h : DataW.trod enc Try.prog w base spare held m 77 cs = some y) (hr : Reached Try.prog 77 y.1) : ∃ x, ETerm w cs x := by
  obtain ⟨hl, n, hf⟩ := struct_of_trod Try.underlying77 cellsTerm h hr
  obtain ⟨y0, h0, r0⟩ := hf 0 9 0 1 rfl cellsString
  obtain ⟨y1, h1, r1⟩ := hf 1 3 1 1 rfl cellsInt
  match cs, hl with
  | [c0, c1], _ =>
    obtain ⟨s, e0, _⟩ := DataW.trod_string Try.underlying9 h0
    obtain ⟨k, e1, _⟩ := DataW.trod_int Try.underlying3 h1
    simp at e0 e1
    subst e0 e1
    exact ⟨⟨s, k⟩, rfl⟩
theorem case_of {m : Nat} {cs : List Value} {y : DataW H × List MemPlace} (h : DataW.trod enc Try.prog w base spare held m 62 cs = some y) (hr : Reached Try.prog 62 y.1) : ∃ x, ECase w cs x ∧ x.of.size ≤ 140737488355328 := by
  obtain ⟨hl, n, hf⟩ := struct_of_trod Try.underlying62 cellsCase h hr
  obtain ⟨y0, h0, r0⟩ := hf 0 3 0 1 rfl cellsInt
  obtain ⟨y1, h1, r1⟩ := hf 1 3 1 1 rfl cellsInt
  obtain ⟨y2, h2, r2⟩ := hf 2 9 2 1 rfl cellsString
  match cs, hl with
  | [c0, c1, c2], _ =>
    obtain ⟨a, e0, _⟩ := DataW.trod_int Try.underlying3 h0
    obtain ⟨b, e1, _⟩ := DataW.trod_int Try.underlying3 h1
    obtain ⟨s, e2, e3, _⟩ := DataW.trod_string Try.underlying9 h2
    simp at e0 e1 e2
    subst e0 e1 e2
    refine ⟨⟨a, b, s⟩, rfl, ?_⟩
    have := r2 s.data.toList.length (by rw [e3]; exact List.mem_singleton.2 rfl)
    simp only [reachBytes] at this
    have h4 : s.size = s.data.toList.length := Array.length_toList.symm
    show s.size ≤ _
    omega
theorem size_of {m : Nat} {cs : List Value} {y : DataW H × List MemPlace} (h : DataW.trod enc Try.prog w base spare held m 25 cs = some y) (hr : Reached Try.prog 25 y.1) : ∃ b tv ts, cs = [.int .i64 b, tv] ∧ TermsOf w tv ts ∧ ts.length ≤ 140737488355328 := by
  obtain ⟨hl, n, hf⟩ := struct_of_trod Try.underlying25 cellsSize h hr
  obtain ⟨y0, h0, r0⟩ := hf 0 3 0 1 rfl cellsInt
  obtain ⟨y1, h1, r1⟩ := hf 1 23 1 1 rfl cellsTerms
  match cs, hl with
  | [c0, c1], _ =>
    obtain ⟨a, e0, _⟩ := DataW.trod_int Try.underlying3 h0
    obtain ⟨v, l, e1, hS, _, hL⟩ := slice_of_trod (E := ETerm) (Q := fun _ => True) Try.underlying23 cellsTerm bytesTerm (by decide) (fun _ _ _ h hr => let ⟨x, hx⟩ := term_of h hr; ⟨x, hx, trivial⟩) h1 r1
    simp at e0 e1
    subst e0 e1
    exact ⟨a, _, l, rfl, hS, hL⟩
theorem field_of {m : Nat} {cs : List Value} {y : DataW H × List MemPlace} (h : DataW.trod enc Try.prog w base spare held m 28 cs = some y) (hr : Reached Try.prog 28 y.1) : ∃ x, EField w cs x ∧ FieldSm x := by
  obtain ⟨hl, n, hf⟩ := struct_of_trod Try.underlying28 cellsField h hr
  obtain ⟨y0, h0, r0⟩ := hf 0 9 0 1 rfl cellsString
  obtain ⟨y1, h1, r1⟩ := hf 1 22 1 1 rfl cellsKind
  obtain ⟨y2, h2, r2⟩ := hf 2 3 2 1 rfl cellsInt
  obtain ⟨y3, h3, r3⟩ := hf 3 4 3 1 rfl cellsBool
  obtain ⟨y4, h4, r4⟩ := hf 4 4 4 1 rfl cellsBool
  obtain ⟨y5, h5, r5⟩ := hf 5 3 5 1 rfl cellsInt
  obtain ⟨y6, h6, r6⟩ := hf 6 3 6 1 rfl cellsInt
  obtain ⟨y7, h7, r7⟩ := hf 7 25 7 2 rfl cellsSize
  obtain ⟨y8, h8, r8⟩ := hf 8 9 9 1 rfl cellsString
  obtain ⟨y9, h9, r9⟩ := hf 9 9 10 1 rfl cellsString
  obtain ⟨y10, h10, r10⟩ := hf 10 9 11 1 rfl cellsString
  obtain ⟨y11, h11, r11⟩ := hf 11 26 12 1 rfl cellsCases
  obtain ⟨y12, h12, r12⟩ := hf 12 3 13 1 rfl cellsInt
  obtain ⟨y13, h13, r13⟩ := hf 13 3 14 1 rfl cellsInt
  match cs, hl with
  | [c0, c1, c2, c3, c4, c5, c6, c7, c8, c9, c10, c11, c12, c13, c14], _ =>
    obtain ⟨x0, e0, _⟩ := DataW.trod_string Try.underlying9 h0
    obtain ⟨x1, e1, _⟩ := DataW.trod_int Try.underlying22 h1
    obtain ⟨x2, e2, _⟩ := DataW.trod_int Try.underlying3 h2
    obtain ⟨x3, e3, _⟩ := DataW.trod_bool Try.underlying4 h3
    obtain ⟨x4, e4, _⟩ := DataW.trod_bool Try.underlying4 h4
    obtain ⟨x5, e5, _⟩ := DataW.trod_int Try.underlying3 h5
    obtain ⟨x6, e6, _⟩ := DataW.trod_int Try.underlying3 h6
    obtain ⟨x7, tv, ts, e7, hT, hTl⟩ := size_of h7 r7
    obtain ⟨x9, e9, _⟩ := DataW.trod_string Try.underlying9 h8
    obtain ⟨x10, e10, _⟩ := DataW.trod_string Try.underlying9 h9
    obtain ⟨x11, e11, _⟩ := DataW.trod_string Try.underlying9 h10
    obtain ⟨cv, l, e12, hC, hCq, hCl⟩ := slice_of_trod (E := ECase) (Q := fun c => c.of.size ≤ 140737488355328) Try.underlying26 cellsCase bytesCase (by decide) (fun _ _ _ h hr => case_of h hr) h11 r11
    obtain ⟨x13, e13, _⟩ := DataW.trod_int Try.underlying3 h12
    obtain ⟨x14, e14, _⟩ := DataW.trod_int Try.underlying3 h13
    simp at e0 e1 e2 e3 e4 e5 e6 e7 e9 e10 e11 e12 e13 e14
    obtain ⟨e7, e8⟩ := e7
    subst e0 e1 e2 e3 e4 e5 e6 e7 e8 e9 e10 e11 e12 e13 e14
    exact ⟨⟨x0, x1, x2, x3, x4, x5, x6, x7, ts, x9, x10, x11, l, x13, x14⟩, ⟨_, _, rfl, hT, hC⟩, hTl, hCl, hCq⟩
theorem msg_of {m : Nat} {cs : List Value} {y : DataW H × List MemPlace} (h : DataW.trod enc Try.prog w base spare held m 50 cs = some y) (hr : Reached Try.prog 50 y.1) : ∃ x, EMsg w cs x ∧ MsgSm x := by
  obtain ⟨hl, n, hf⟩ := struct_of_trod Try.underlying50 cellsMessage h hr
  obtain ⟨y0, h0, r0⟩ := hf 0 9 0 1 rfl cellsString
  obtain ⟨y1, h1, r1⟩ := hf 1 48 1 1 rfl cellsFields
  match cs, hl with
  | [c0, c1], _ =>
    obtain ⟨a, e0, _⟩ := DataW.trod_string Try.underlying9 h0
    obtain ⟨v, l, e1, hS, hQ, hL⟩ := slice_of_trod (E := EField) (Q := FieldSm) Try.underlying48 cellsField bytesField (by decide) (fun _ _ _ h hr => field_of h hr) h1 r1
    simp at e0 e1
    subst e0 e1
    exact ⟨⟨a, l⟩, ⟨_, rfl, hS⟩, hL, hQ⟩
theorem def_of {m : Nat} {cs : List Value} {y : DataW H × List MemPlace} (h : DataW.trod enc Try.prog w base spare held m 44 cs = some y) (hr : Reached Try.prog 44 y.1) : ∃ d mv, cs = defCells d mv ∧ MsgsOf w mv d.msgs ∧ DefSm d := by
  obtain ⟨hl, n, hf⟩ := struct_of_trod Try.underlying44 cellsDefinition h hr
  obtain ⟨y0, h0, r0⟩ := hf 0 9 0 1 rfl cellsString
  obtain ⟨y1, h1, r1⟩ := hf 1 42 1 1 rfl cellsMessages
  obtain ⟨y2, h2, r2⟩ := hf 2 9 2 1 rfl cellsString
  match cs, hl with
  | [c0, c1, c2], _ =>
    obtain ⟨a, e0, _⟩ := DataW.trod_string Try.underlying9 h0
    obtain ⟨v, l, e1, hS, hQ, hL⟩ := slice_of_trod (E := EMsg) (Q := MsgSm) Try.underlying42 cellsMessage bytesMessage (by decide) (fun _ _ _ h hr => msg_of h hr) h1 r1
    obtain ⟨b, e2, _⟩ := DataW.trod_string Try.underlying9 h2
    simp at e0 e1 e2
    subst e0 e1 e2
    exact ⟨⟨a, l, b⟩, _, rfl, hS, hL, hQ⟩
theorem def_val {r : Reach} {b0 : Nat} {v : Value} {d : DataW H} {ps : List MemPlace} (hval : Value.okWide Try.prog w r b0 44 v) (h : DataW.Trod enc Try.prog w base spare held 44 v d ps) (hr : Reached Try.prog 44 d) : ∃ f, DefVal w v f ∧ DefSm f := by
  obtain ⟨cs, rfl, _⟩ := okWide_struct Try.underlying44 hval
  obtain ⟨fuel, hf⟩ := h
  obtain ⟨f, tv, h1, h2, hs⟩ := def_of hf hr
  exact ⟨f, ⟨tv, congrArg Value.agg (by rw [← h1, cells_agg]), h2⟩, hs⟩
end
end Go.Proofs.Ytiajhbbmgglmlaa
namespace Go.Proofs.Ytiajhbbmgglmlaa
open Sw
open Go.RowKit (intOf Below)
set_option maxRecDepth 100000
section
variable {lo hi B : Nat} {w w' : World}
def ShapeS (w : World) (lo hi B : Nat) (cv : Value) : Prop := cv = .slice none 0 0 ∨ ∃ g len cap cur, cv = .slice (some ⟨g, 0, none⟩) len cap ∧ lo ≤ g ∧ g < hi ∧ w.heap[g]? = some (.cells cur TC (0, 0)) ∧ len ≤ 50 ∧ ∀ j, j < len → ∃ s : ByteArray, cur[j * 3 + 2]? = some (.string s) ∧ s.size ≤ B
def ShapeT (w : World) (lo hi : Nat) (tv : Value) : Prop := tv = .slice none 0 0 ∨ ∃ g len cap cur, tv = .slice (some ⟨g, 0, none⟩) len cap ∧ lo ≤ g ∧ g < hi ∧ w.heap[g]? = some (.cells cur TT (0, 0)) ∧ len ≤ 10 ∧ ∀ j, j < len → ∃ n : Int, cur[j * 2 + 1]? = some (.int .i64 n)
def ShapeG (w : World) (lo hi B : Nat) (fv : Value) (n : Nat) : Prop := (fv = .slice none 0 0 ∧ n = 0) ∨ ∃ g cap cur, fv = .slice (some ⟨g, 0, none⟩) n cap ∧ lo ≤ g ∧ g < hi ∧ w.heap[g]? = some (.cells cur TF (0, 0)) ∧ (∀ j, j < n * 15 → ∃ u, cur[j]? = some u ∧ u.oneCell' = true) ∧ ∀ k, k < n → ∃ tv cv, cur[k * 15 + 8]? = some tv ∧ ShapeT w lo hi tv ∧ cur[k * 15 + 12]? = some cv ∧ ShapeS w lo hi B cv
def ShapeM (w : World) (lo hi B : Nat) (mv : Value) (n : Nat) : Prop := (mv = .slice none 0 0 ∧ n = 0) ∨ ∃ g cap cur, mv = .slice (some ⟨g, 0, none⟩) n cap ∧ lo ≤ g ∧ g < hi ∧ w.heap[g]? = some (.cells cur TM (0, 0)) ∧ n * 2 ≤ cur.size ∧ ∀ k, k < n → ∃ fv nf, cur[k * 2 + 1]? = some fv ∧ nf ≤ 400 ∧ ShapeG w lo hi B fv nf
def Fit (T : TypeId) (o : Nat) (v : Value) (B : Nat) : Prop := (T = TM → o % 2 = 0) ∧ (T = TF → o % 15 = 0 ∧ v.oneCell' = true) ∧ (T = TC → o % 3 = 2 ∧ ∃ s : ByteArray, v = .string s ∧ s.size ≤ B) ∧ (T = TT → o % 2 = 1 ∧ ∃ n : Int, v = .int .i64 n)
theorem get_set {cur : Array Value} {i j : Nat} {v u : Value} (h : cur[i]? = some u) : (cur.setIfInBounds j v)[i]? = some (if j = i then v else u) := by
  by_cases e : j = i
  · subst e
    rw [if_pos rfl, Array.getElem?_setIfInBounds_self]
    rw [if_pos (Array.getElem?_eq_some_iff.1 h).1]
  · rw [if_neg e, Array.getElem?_setIfInBounds_ne e, h]
variable {b o : Nat} {v : Value} {T : TypeId} {cur0 : Array Value} (hb : w.heap[b]? = some (.cells cur0 T (0, 0))) {B' : Nat} (hBB : B ≤ B') (hf : Fit T o v B')
 include hb hBB hf
theorem ShapeS.put {cv : Value} (h : ShapeS w lo hi B cv) : ShapeS (w.setCell ⟨b, o, none⟩ v) lo hi B' cv := by
  rcases h with h | ⟨g, len, cap, cur, h1, h2, h3, h4, h5, h6⟩
  · exact .inl h
  · by_cases e : g = b
    · subst e
      rw [hb] at h4
      injection h4 with h4
      injection h4 with h4 h4T
      subst h4 h4T
      refine .inr ⟨g, len, cap, _, h1, h2, h3, heap_set hb v, h5, fun j hj => ?_⟩
      obtain ⟨s, hs, hsz⟩ := h6 j hj
      rw [get_set hs]
      obtain ⟨_, s', hv, hs'⟩ := hf.2.2.1 rfl
      split
      · exact ⟨s', by rw [hv], hs'⟩
      · exact ⟨s, rfl, by omega⟩
    · exact .inr ⟨g, len, cap, cur, h1, h2, h3, (Only.setCell w b o v g e).trans h4, h5, fun j hj => let ⟨s, a, c⟩ := h6 j hj; ⟨s, a, by omega⟩⟩
 omit hBB in
theorem ShapeT.put {cv : Value} (h : ShapeT w lo hi cv) : ShapeT (w.setCell ⟨b, o, none⟩ v) lo hi cv := by
  rcases h with h | ⟨g, len, cap, cur, h1, h2, h3, h4, h5, h6⟩
  · exact .inl h
  · by_cases e : g = b
    · subst e
      rw [hb] at h4
      injection h4 with h4
      injection h4 with h4 h4T
      subst h4 h4T
      refine .inr ⟨g, len, cap, _, h1, h2, h3, heap_set hb v, h5, fun j hj => ?_⟩
      obtain ⟨s, hs⟩ := h6 j hj
      rw [get_set hs]
      obtain ⟨_, s', hv⟩ := hf.2.2.2 rfl
      split
      · exact ⟨s', by rw [hv]⟩
      · exact ⟨s, rfl⟩
    · exact .inr ⟨g, len, cap, cur, h1, h2, h3, (Only.setCell w b o v g e).trans h4, h5, h6⟩
theorem ShapeG.put {fv : Value} {n : Nat} (h : ShapeG w lo hi B fv n) : ShapeG (w.setCell ⟨b, o, none⟩ v) lo hi B' fv n := by
  rcases h with h | ⟨g, cap, cur, h1, h2, h3, h4, h5, h6⟩
  · exact .inl h
  · by_cases e : g = b
    · subst e
      have hb' := hb
      rw [hb] at h4
      injection h4 with h4
      injection h4 with h4 h4T
      subst h4 h4T
      obtain ⟨ho, hv⟩ := hf.2.1 rfl
      refine .inr ⟨g, cap, _, h1, h2, h3, heap_set hb v, fun j hj => ?_, fun k hk => ?_⟩
      · obtain ⟨u, hu, hu1⟩ := h5 j hj
        rw [get_set hu]
        split
        · exact ⟨v, rfl, hv⟩
        · exact ⟨u, rfl, hu1⟩
      · obtain ⟨tv, cv, a1, a2, a3, a4⟩ := h6 k hk
        refine ⟨tv, cv, ?_, a2.put hb' hf, ?_, a4.put hb' hBB hf⟩
        · rw [Array.getElem?_setIfInBounds_ne (by omega)]; exact a1
        · rw [Array.getElem?_setIfInBounds_ne (by omega)]; exact a3
    · exact .inr ⟨g, cap, cur, h1, h2, h3, (Only.setCell w b o v g e).trans h4, h5, fun k hk => let ⟨tv, cv, a1, a2, a3, a4⟩ := h6 k hk; ⟨tv, cv, a1, a2.put hb hf, a3, a4.put hb hBB hf⟩⟩
theorem ShapeM.put {mv : Value} {n : Nat} (h : ShapeM w lo hi B mv n) : ShapeM (w.setCell ⟨b, o, none⟩ v) lo hi B' mv n := by
  rcases h with h | ⟨g, cap, cur, h1, h2, h3, h4, h5, h6⟩
  · exact .inl h
  · by_cases e : g = b
    · subst e
      have hb' := hb
      rw [hb] at h4
      injection h4 with h4
      injection h4 with h4 h4T
      subst h4 h4T
      have ho := hf.1 rfl
      refine .inr ⟨g, cap, _, h1, h2, h3, heap_set hb v, by simpa using h5, fun k hk => ?_⟩
      obtain ⟨fv, nf, a1, a2, a3⟩ := h6 k hk
      refine ⟨fv, nf, ?_, a2, a3.put hb' hBB hf⟩
      rw [Array.getElem?_setIfInBounds_ne (by omega)]; exact a1
    · exact .inr ⟨g, cap, cur, h1, h2, h3, (Only.setCell w b o v g e).trans h4, h5, fun k hk => let ⟨fv, nf, a1, a2, a3⟩ := h6 k hk; ⟨fv, nf, a1, a2, a3.put hb hBB hf⟩⟩
end
section
variable {lo hi B : Nat} {w w' : World}
theorem ShapeS.ext {cv : Value} (h : ShapeS w lo hi B cv) (e : Ext w w') : ShapeS w' lo hi B cv := by
  rcases h with h | ⟨g, len, cap, cur, h1, h2, h3, h4, h5⟩
  · exact .inl h
  · exact .inr ⟨g, len, cap, cur, h1, h2, h3, e.obj h4, h5⟩
theorem ShapeT.ext {cv : Value} (h : ShapeT w lo hi cv) (e : Ext w w') : ShapeT w' lo hi cv := by
  rcases h with h | ⟨g, len, cap, cur, h1, h2, h3, h4, h5⟩
  · exact .inl h
  · exact .inr ⟨g, len, cap, cur, h1, h2, h3, e.obj h4, h5⟩
theorem ShapeG.ext {fv : Value} {n : Nat} (h : ShapeG w lo hi B fv n) (e : Ext w w') : ShapeG w' lo hi B fv n := by
  rcases h with h | ⟨g, cap, cur, h1, h2, h3, h4, h5, h6⟩
  · exact .inl h
  · exact .inr ⟨g, cap, cur, h1, h2, h3, e.obj h4, h5, fun k hk => let ⟨tv, cv, a1, a2, a3, a4⟩ := h6 k hk; ⟨tv, cv, a1, a2.ext e, a3, a4.ext e⟩⟩
theorem ShapeM.ext {mv : Value} {n : Nat} (h : ShapeM w lo hi B mv n) (e : Ext w w') : ShapeM w' lo hi B mv n := by
  rcases h with h | ⟨g, cap, cur, h1, h2, h3, h4, h5, h6⟩
  · exact .inl h
  · exact .inr ⟨g, cap, cur, h1, h2, h3, e.obj h4, h5, fun k hk => let ⟨fv, nf, a1, a2, a3⟩ := h6 k hk; ⟨fv, nf, a1, a2, a3.ext e⟩⟩
theorem row_cell {w : World} {lo hi n : Nat} {T : TypeId} {v : Value} {css : List (Cs n)} (h : OwnR w lo hi T n Subtype.val v css) : (v = .slice none 0 0 ∧ css = []) ∨ ∃ g cap cur, v = .slice (some ⟨g, 0, none⟩) css.length cap ∧ lo ≤ g ∧ g < hi ∧ w.heap[g]? = some (.cells cur T (0, 0)) ∧ css.length * n ≤ cur.size ∧ ∀ (k : Nat) (cs : Cs n) (j : Nat) (u : Value), css[k]? = some cs → cs.1[j]? = some u → cur[k * n + j]? = some u := by
  obtain ⟨⟨h1, h2⟩, h3⟩ := h
  rcases h2 with ⟨hv, h0⟩ | ⟨g, cap, cur, hv, hb, hc, hn, _, hsz, htake⟩
  · exact .inl ⟨hv, List.eq_nil_of_length_eq_zero h0⟩
  · refine .inr ⟨g, cap, cur, hv, hb, h3 g (by rw [hv]; rfl), hc, by rw [hsz]; exact Nat.mul_le_mul_right _ hn, fun k cs j u hk hu => ?_⟩
    have := flatMap_get (enc := (Subtype.val : Cs n → List Value)) (fun x => x.2) css k cs j u hk hu
    rw [← htake, List.getElem?_take] at this
    split at this
    · simpa using this
    · cases this
theorem row_enc {α : Type} {w : World} {lo hi n : Nat} {T : TypeId} {v : Value} {enc : α → List Value} {l : List α} (hn : ∀ x, (enc x).length = n) (h : OwnR w lo hi T n enc v l) : (v = .slice none 0 0 ∧ l = []) ∨ ∃ g cap cur, v = .slice (some ⟨g, 0, none⟩) l.length cap ∧ lo ≤ g ∧ g < hi ∧ w.heap[g]? = some (.cells cur T (0, 0)) ∧ ∀ (k : Nat) (x : α) (j : Nat) (u : Value), l[k]? = some x → (enc x)[j]? = some u → cur[k * n + j]? = some u := by
  obtain ⟨⟨h1, h2⟩, h3⟩ := h
  rcases h2 with ⟨hv, h0⟩ | ⟨g, cap, cur, hv, hb, hc, hle, _, hsz, htake⟩
  · exact .inl ⟨hv, List.eq_nil_of_length_eq_zero h0⟩
  · refine .inr ⟨g, cap, cur, hv, hb, h3 g (by rw [hv]; rfl), hc, fun k x j u hk hu => ?_⟩
    have := flatMap_get hn l k x j u hk hu
    rw [← htake, List.getElem?_take] at this
    split at this
    · simpa using this
    · cases this
def okG (B : Nat) (f : FieldD) : Prop := f.cases.length ≤ 50 ∧ f.terms.length ≤ 10 ∧ ∀ c ∈ f.cases, c.of.size ≤ B
theorem FieldsN.shapeG {fv : Value} {l : List FieldD} (h : FieldsN w lo hi fv l) (ht : ∀ f ∈ l, okG B f) : ShapeG w lo hi B fv l.length := by
  obtain ⟨css, hO, hm1, hm2⟩ := h
  rcases row_cell hO with ⟨hv, h0⟩ | ⟨g, cap, cur, hv, h1, h2, h3, h4, h5⟩
  · refine .inl ⟨hv, ?_⟩
    rw [h0] at hm1; exact hm1.symm
  · rw [hm1] at hv h4
    refine .inr ⟨g, cap, cur, hv, h1, h2, h3, fun j hj => ?_, fun k hk => ?_⟩
    · have hq : j / 15 < l.length := Nat.div_lt_of_lt_mul (by rw [Nat.mul_comm]; exact hj)
      obtain ⟨x, hx⟩ := getElem?_lt hq
      obtain ⟨cs, hcs⟩ := getElem?_lt (l := css) (k := j / 15) (by rw [hm1]; exact hq)
      have hr : j % 15 < cs.1.length := by rw [cs.2]; exact Nat.mod_lt _ (by decide)
      have := h5 (j / 15) cs (j % 15) _ hcs (List.getElem?_eq_getElem hr)
      rw [show j / 15 * 15 + j % 15 = j by omega] at this
      refine ⟨_, this, ?_⟩
      obtain ⟨tv, cv, he, hT, hC⟩ := hm2 _ x cs hx hcs
      have ho := EFieldN.plain ⟨tv, cv, he, hT, hC⟩
      have hT1 : tv.oneCell' = true := (OwnE.slice hT.1 (E := ETerm) (fun _ => rfl) (fun _ _ => rfl)).oneCell
      have hC1 : cv.oneCell' = true := (OwnE.slice hC.1 (E := ECase) (fun _ => rfl) (fun _ _ => rfl)).oneCell
      have hmem : cs.1[j % 15] ∈ fieldCells x tv cv := by rw [← he]; exact List.getElem_mem hr
      simp only [fieldCells, List.mem_cons, List.not_mem_nil, or_false] at hmem
      have : ∀ u, (u = .string x.name ∨ u = .int .i64 x.kind ∨ u = .int .i64 x.bits ∨ u = .bool x.little ∨ u = .bool x.loose ∨ u = .int .i64 x.low ∨ u = .int .i64 x.high ∨ u = .int .i64 x.base ∨ u = tv ∨ u = .string x.of ∨ u = .string x.tag ∨ u = .string x.fr ∨ u = cv ∨ u = .int .i64 x.check ∨ u = .int .i64 x.key) → u.oneCell' = true := by
        rintro u (rfl | rfl | rfl | rfl | rfl | rfl | rfl | rfl | rfl | rfl | rfl | rfl | rfl | rfl | rfl) <;> first | rfl | assumption
      exact this _ hmem
    · obtain ⟨x, hx⟩ := getElem?_lt hk
      obtain ⟨cs, hcs⟩ := getElem?_lt (l := css) (k := k) (by rw [hm1]; exact hk)
      obtain ⟨tv, cv, he, hT, hC⟩ := hm2 k x cs hx hcs
      have hx' := ht x (List.mem_of_getElem? hx)
      refine ⟨tv, cv, h5 k cs 8 tv hcs (by rw [he]; rfl), ?_, h5 k cs 12 cv hcs (by rw [he]; rfl), ?_⟩
      · rcases row_enc (enc := fun t : TermD => termCells t) (fun _ => rfl) hT with ⟨hv, h0⟩ | ⟨g, cap, cur, hv, h1, h2, h3, h4⟩
        · exact .inl hv
        · refine .inr ⟨g, _, cap, cur, hv, h1, h2, h3, hx'.2.1, fun j hj => ?_⟩
          obtain ⟨t, ht⟩ := getElem?_lt hj
          exact ⟨t.factor, h4 j t 1 _ ht rfl⟩
      · rcases row_enc (enc := fun t : CaseD => caseCells t) (fun _ => rfl) hC with ⟨hv, h0⟩ | ⟨g, cap, cur, hv, h1, h2, h3, h4⟩
        · exact .inl hv
        · refine .inr ⟨g, _, cap, cur, hv, h1, h2, h3, hx'.1, fun j hj => ?_⟩
          obtain ⟨t, ht⟩ := getElem?_lt hj
          exact ⟨t.of, h4 j t 2 _ ht rfl, hx'.2.2 t (List.mem_of_getElem? ht)⟩
theorem MsgsN.shapeM {mv : Value} {l : List MsgD} (h : MsgsN w lo hi mv l) (ht : ∀ m ∈ l, m.fields.length ≤ 400 ∧ ∀ f ∈ m.fields, okG B f) : ShapeM w lo hi B mv l.length := by
  obtain ⟨css, hO, hm1, hm2⟩ := h
  rcases row_cell hO with ⟨hv, h0⟩ | ⟨g, cap, cur, hv, h1, h2, h3, h4, h5⟩
  · refine .inl ⟨hv, ?_⟩
    rw [h0] at hm1; exact hm1.symm
  · rw [hm1] at hv h4
    refine .inr ⟨g, cap, cur, hv, h1, h2, h3, h4, fun k hk => ?_⟩
    obtain ⟨x, hx⟩ := getElem?_lt hk
    obtain ⟨cs, hcs⟩ := getElem?_lt (l := css) (k := k) (by rw [hm1]; exact hk)
    obtain ⟨fv, he, hF⟩ := hm2 k x cs hx hcs
    have hx' := ht x (List.mem_of_getElem? hx)
    exact ⟨fv, _, h5 k cs 1 fv hcs (by rw [he]; rfl), hx'.1, hF.shapeG hx'.2⟩
end
end Go.Proofs.Ytiajhbbmgglmlaa
namespace Go.Proofs.Ytiajhbbmgglmlaa
open Sw
def n_phrasebooklaw05_SchemaEquals_c1 (t10 t11 : Value) (C10 : World → Prop) (next9 : Value → World → Prop) (R : Ending → World → Prop) (w : World) : Prop :=
 qV Try.prog C10 (Instr.fieldAt 28 t10 11) fun t87 =>
 qV Try.prog C10 (Instr.loadAt 26 t87) fun t88 =>
 qV Try.prog C10 (Instr.fieldAt 28 t10 11) fun t90 =>
 qV Try.prog C10 (Instr.loadAt 26 t90) fun t91 =>
 qV Try.prog C10 (Instr.indexAt 26 t91 t11) fun t93 =>
 qV Try.prog C10 (Instr.fieldAt 62 t93 2) fun t94 =>
 qV Try.prog C10 (Instr.loadAt 9 t94) fun t95 =>
 qV Try.prog C10 (binS .add 9 true t95 (.string { data := #[120] })) fun t96 =>
 qV Try.prog C10 (Instr.indexAt 26 t88 t11) fun t97 =>
 qV Try.prog C10 (Instr.fieldAt 62 t97 2) fun t98 =>
 opU Try.prog (Instr.storeAt 9 t98 t96) (panK R) w fun w =>
 turnK w fun C11 w =>
 opV Try.prog (binS .add 3 true t11 (.int .i64 1)) (panK R) w fun t86 w =>
 next9 t86 w
def n_phrasebooklaw05_SchemaEquals_c2 (t6 t8 t9 : Value) (next8 : Value → World → Prop) (R : Ending → World → Prop) (w : World) : Prop :=
 opV Try.prog (Instr.fieldAt 44 t6 1) (panK R) w fun t117 w =>
 opV Try.prog (Instr.loadAt 42 t117) (panK R) w fun t118 w =>
 opV Try.prog (Instr.indexAt 42 t118 t8) (panK R) w fun t120 w =>
 opV Try.prog (Instr.fieldAt 50 t120 1) (panK R) w fun t121 w =>
 opV Try.prog (Instr.loadAt 48 t121) (panK R) w fun t122 w =>
 opV Try.prog (Instr.indexAt 48 t122 t9) (panK R) w fun t124 w =>
 opV Try.prog (Instr.fieldAt 28 t124 0) (panK R) w fun t125 w =>
 opU Try.prog (Instr.storeAt 9 t125 (.string { data := #[63] })) (panK R) w fun w =>
 opV Try.prog (binS .add 3 true t9 (.int .i64 1)) (panK R) w fun t70 w =>
 next8 t70 w
def n_phrasebooklaw05_SchemaEquals_c3 (t10 t12 : Value) (next12 : Value → World → Prop) (R : Ending → World → Prop) (w : World) : Prop :=
 opV Try.prog (Instr.fieldAt 28 t10 7) (panK R) w fun t107 w =>
 opV Try.prog (Instr.fieldAt 25 t107 1) (panK R) w fun t108 w =>
 opV Try.prog (Instr.loadAt 23 t108) (panK R) w fun t109 w =>
 opV Try.prog (Instr.indexAt 23 t109 t12) (panK R) w fun t111 w =>
 opV Try.prog (Instr.fieldAt 77 t111 1) (panK R) w fun t112 w =>
 opV Try.prog (Instr.loadAt 3 t112) (panK R) w fun t113 w =>
 opV Try.prog (binS .add 3 true t113 (.int .i64 1)) (panK R) w fun t114 w =>
 opV Try.prog (Instr.indexAt 23 t109 t12) (panK R) w fun t115 w =>
 opV Try.prog (Instr.fieldAt 77 t115 1) (panK R) w fun t116 w =>
 opU Try.prog (Instr.storeAt 3 t116 t114) (panK R) w fun w =>
 opV Try.prog (binS .add 3 true t12 (.int .i64 1)) (panK R) w fun t106 w =>
 next12 t106 w
def n_phrasebooklaw05_SchemaEquals_c4 (t6 t8 t9 t10 t12 : Value) (next12 : Value → World → Prop) (next8 : Value → World → Prop) (R : Ending → World → Prop) (w : World) : Prop :=
 opV Try.prog (Instr.fieldAt 28 t10 7) (panK R) w fun t100 w =>
 opV Try.prog (Instr.fieldAt 25 t100 1) (panK R) w fun t101 w =>
 opV Try.prog (Instr.loadAt 23 t101) (panK R) w fun t102 w =>
 opV Try.prog (Builtin.len_ #[23] 3 #[t102]) (panK R) w fun t103 w =>
 opV Try.prog (binS .lss 3 false t12 t103) (panK R) w fun t104 w =>
 condP t104 (
 n_phrasebooklaw05_SchemaEquals_c3 t10 t12 next12 R w) (
 n_phrasebooklaw05_SchemaEquals_c2 t6 t8 t9 next8 R w)
def n_phrasebooklaw05_SchemaEquals_c5 (t6 t8 t9 t10 t11 : Value) (next8 : Value → World → Prop) (next9 : Value → World → Prop) (R : Ending → World → Prop) (w : World) : Prop :=
 opV Try.prog (Instr.fieldAt 28 t10 11) (panK R) w fun t81 w =>
 opV Try.prog (Instr.loadAt 26 t81) (panK R) w fun t82 w =>
 opV Try.prog (Builtin.len_ #[26] 3 #[t82]) (panK R) w fun t83 w =>
 opV Try.prog (binS .lss 3 false t11 t83) (panK R) w fun t84 w =>
 condP t84 (
 drawK w fun C10 w =>
 n_phrasebooklaw05_SchemaEquals_c1 t10 t11 C10 next9 R w) (
 loop1 (fun t12 w next12 =>
 n_phrasebooklaw05_SchemaEquals_c4 t6 t8 t9 t10 t12 next12 next8 R w) (.int .i64 0) w)
def n_phrasebooklaw05_SchemaEquals_c6 (t6 t8 : Value) (next7 : Value → World → Prop) (R : Ending → World → Prop) (w : World) : Prop :=
 opV Try.prog (Instr.fieldAt 44 t6 1) (panK R) w fun t126 w =>
 opV Try.prog (Instr.loadAt 42 t126) (panK R) w fun t127 w =>
 opV Try.prog (Instr.indexAt 42 t127 t8) (panK R) w fun t129 w =>
 opV Try.prog (Instr.fieldAt 50 t129 0) (panK R) w fun t130 w =>
 opU Try.prog (Instr.storeAt 9 t130 (.string { data := #[63] })) (panK R) w fun w =>
 opV Try.prog (binS .add 3 true t8 (.int .i64 1)) (panK R) w fun t59 w =>
 next7 t59 w
def n_phrasebooklaw05_SchemaEquals_c7 (t6 t8 t9 : Value) (next8 : Value → World → Prop) (R : Ending → World → Prop) (w : World) : Prop :=
 opV Try.prog (Instr.fieldAt 44 t6 1) (panK R) w fun t71 w =>
 opV Try.prog (Instr.loadAt 42 t71) (panK R) w fun t72 w =>
 opV Try.prog (Instr.indexAt 42 t72 t8) (panK R) w fun t74 w =>
 opV Try.prog (Instr.fieldAt 50 t74 1) (panK R) w fun t75 w =>
 opV Try.prog (Instr.loadAt 48 t75) (panK R) w fun t76 w =>
 opV Try.prog (Instr.indexAt 48 t76 t9) (panK R) w fun t78 w =>
 opV Try.prog (Instr.loadAt 28 t78) (panK R) w fun t79 w =>
 opV Try.prog (Instr.alloc 28 true (.tuple #[])) (panK R) w fun t10 w =>
 opU Try.prog (Instr.storeAt 28 t10 t79) (panK R) w fun w =>
 loop1 (fun t11 w next9 =>
 n_phrasebooklaw05_SchemaEquals_c5 t6 t8 t9 t10 t11 next8 next9 R w) (.int .i64 0) w
def n_phrasebooklaw05_SchemaEquals_c8 (t6 t8 t9 : Value) (next7 : Value → World → Prop) (next8 : Value → World → Prop) (R : Ending → World → Prop) (w : World) : Prop :=
 opV Try.prog (Instr.fieldAt 44 t6 1) (panK R) w fun t61 w =>
 opV Try.prog (Instr.loadAt 42 t61) (panK R) w fun t62 w =>
 opV Try.prog (Instr.indexAt 42 t62 t8) (panK R) w fun t64 w =>
 opV Try.prog (Instr.fieldAt 50 t64 1) (panK R) w fun t65 w =>
 opV Try.prog (Instr.loadAt 48 t65) (panK R) w fun t66 w =>
 opV Try.prog (Builtin.len_ #[48] 3 #[t66]) (panK R) w fun t67 w =>
 opV Try.prog (binS .lss 3 false t9 t67) (panK R) w fun t68 w =>
 condP t68 (
 n_phrasebooklaw05_SchemaEquals_c7 t6 t8 t9 next8 R w) (
 n_phrasebooklaw05_SchemaEquals_c6 t6 t8 next7 R w)
def n_phrasebooklaw05_SchemaEquals_c9 (t133 : Value) (R : Ending → World → Prop) (w : World) : Prop :=
 joinK (fun (t135 : Value) (w : World) =>
 pickK t133 t135 (.bool false) fun t136 =>
 R (.returned t136) w) fun K13 =>
 guardP t133 true (
 callK Try.prog 8 #[] (panK R) w fun t135 w =>
 K13 t135 w) (
 K13 undef w)
def n_phrasebooklaw05_SchemaEquals_c10 (t2 t7 : Value) (R : Ending → World → Prop) (w : World) : Prop :=
 opV Try.prog (Instr.loadAt 44 t2) (panK R) w fun t131 w =>
 opV Try.prog (Instr.loadAt 44 t7) (panK R) w fun t132 w =>
 callK Try.prog 30 #[t131, t132] (panK R) w fun t133 w =>
 n_phrasebooklaw05_SchemaEquals_c9 t133 R w
def n_phrasebooklaw05_SchemaEquals_c11 (t2 t6 t7 t8 : Value) (next7 : Value → World → Prop) (R : Ending → World → Prop) (w : World) : Prop :=
 opV Try.prog (Instr.fieldAt 44 t6 1) (panK R) w fun t54 w =>
 opV Try.prog (Instr.loadAt 42 t54) (panK R) w fun t55 w =>
 opV Try.prog (Builtin.len_ #[42] 3 #[t55]) (panK R) w fun t56 w =>
 opV Try.prog (binS .lss 3 false t8 t56) (panK R) w fun t57 w =>
 condP t57 (
 loop1 (fun t9 w next8 =>
 n_phrasebooklaw05_SchemaEquals_c8 t6 t8 t9 next7 next8 R w) (.int .i64 0) w) (
 n_phrasebooklaw05_SchemaEquals_c10 t2 t7 R w)
def n_phrasebooklaw05_SchemaEquals_c12 (t2 t6 t7 t40 t45 : Value) (R : Ending → World → Prop) (w : World) : Prop :=
 pickK t40 (.bool true) t45 fun t46 =>
 joinK (fun (t51 : Value) (w : World) =>
 pickK t46 (.bool true) t51 fun t52 =>
 condP t52 (
 R (.returned (.bool false)) w) (
 loop1 (fun t8 w next7 =>
 n_phrasebooklaw05_SchemaEquals_c11 t2 t6 t7 t8 next7 R w) (.int .i64 0) w)) fun K6 =>
 guardP t46 false (
 opV Try.prog (Instr.loadAt 44 t2) (panK R) w fun t48 w =>
 opV Try.prog (Instr.loadAt 44 t6) (panK R) w fun t49 w =>
 callK Try.prog 30 #[t48, t49] (panK R) w fun t50 w =>
 opV Try.prog (Op.unary .not t50) (panK R) w fun t51 w =>
 K6 t51 w) (
 K6 undef w)
def n_phrasebooklaw05_SchemaEquals_c13 (t2 t6 t7 t33 t39 : Value) (R : Ending → World → Prop) (w : World) : Prop :=
 pickK t33 (.bool true) t39 fun t40 =>
 joinK (fun (t45 : Value) (w : World) =>
 n_phrasebooklaw05_SchemaEquals_c12 t2 t6 t7 t40 t45 R w) fun K5 =>
 guardP t40 false (
 opV Try.prog (Instr.loadAt 44 t2) (panK R) w fun t42 w =>
 opV Try.prog (Instr.loadAt 44 t6) (panK R) w fun t43 w =>
 callK Try.prog 31 #[t42, t43] (panK R) w fun t44 w =>
 opV Try.prog (Op.unary .not t44) (panK R) w fun t45 w =>
 K5 t45 w) (
 K5 undef w)
def n_phrasebooklaw05_SchemaEquals_c14 (t2 t3 t6 t7 t24 t31 : Value) (R : Ending → World → Prop) (w : World) : Prop :=
 opV Try.prog (binS .neq 4 false t31 t24) (panK R) w fun t33 w =>
 joinK (fun (t39 : Value) (w : World) =>
 n_phrasebooklaw05_SchemaEquals_c13 t2 t6 t7 t33 t39 R w) fun K4 =>
 guardP t33 false (
 opV Try.prog (Instr.loadAt 44 t3) (panK R) w fun t35 w =>
 opV Try.prog (Instr.loadAt 44 t2) (panK R) w fun t36 w =>
 callK Try.prog 31 #[t35, t36] (panK R) w fun t37 w =>
 opV Try.prog (binS .neq 4 false t37 t24) (panK R) w fun t39 w =>
 K4 t39 w) (
 K4 undef w)
def n_phrasebooklaw05_SchemaEquals_c15 (t2 t3 t6 t7 t24 : Value) (R : Ending → World → Prop) (w : World) : Prop :=
 opV Try.prog (Instr.loadAt 44 t2) (panK R) w fun t29 w =>
 opV Try.prog (Instr.loadAt 44 t3) (panK R) w fun t30 w =>
 callK Try.prog 31 #[t29, t30] (panK R) w fun t31 w =>
 n_phrasebooklaw05_SchemaEquals_c14 t2 t3 t6 t7 t24 t31 R w
def n_phrasebooklaw05_SchemaEquals_c16 (t6 t26 t28 : Value) (C2 : World → Prop) (K3 : Value → Value → World → Prop) (R : Ending → World → Prop) (w : World) : Prop :=
 opV Try.prog (Instr.alloc 44 true (.tuple #[])) (panK R) w fun t7 w =>
 C2 w ∧ (
 opU Try.prog (Instr.storeAt 44 t6 t26) (panK R) w fun w =>
 turnK w fun C14 w =>
 opU Try.prog (Instr.storeAt 44 t7 t28) (panK R) w fun w =>
 turnK w fun C15 w =>
 K3 t6 t7 w)
def n_phrasebooklaw05_SchemaEquals_c17 (t7 t26 t28 : Value) (C2 : World → Prop) (K3 : Value → Value → World → Prop) (R : Ending → World → Prop) (w : World) : Prop :=
 opV Try.prog (Instr.alloc 44 true (.tuple #[])) (panK R) w fun t6 w =>
 C2 w ∧ (
 opU Try.prog (Instr.storeAt 44 t6 t26) (panK R) w fun w =>
 turnK w fun C16 w =>
 opU Try.prog (Instr.storeAt 44 t7 t28) (panK R) w fun w =>
 turnK w fun C17 w =>
 K3 t6 t7 w)
def n_phrasebooklaw05_SchemaEquals_c18 (t26 t28 : Value) (C2 : World → Prop) (K3 : Value → Value → World → Prop) (R : Ending → World → Prop) (w : World) : Prop :=
 (
 opV Try.prog (Instr.alloc 44 true (.tuple #[])) (panK R) w fun t6 w =>
 C2 w ∧ (
 n_phrasebooklaw05_SchemaEquals_c16 t6 t26 t28 C2 K3 R w)) ∧ (
 opV Try.prog (Instr.alloc 44 true (.tuple #[])) (panK R) w fun t7 w =>
 C2 w ∧ (
 n_phrasebooklaw05_SchemaEquals_c17 t7 t26 t28 C2 K3 R w))
def n_phrasebooklaw05_SchemaEquals_c19 (t6 t26 t28 : Value) (C2 : World → Prop) (K3 : Value → Value → World → Prop) (R : Ending → World → Prop) (w : World) : Prop :=
 opV Try.prog (Instr.alloc 44 true (.tuple #[])) (panK R) w fun t7 w =>
 C2 w ∧ (
 opU Try.prog (Instr.storeAt 44 t6 t26) (panK R) w fun w =>
 turnK w fun C18 w =>
 opU Try.prog (Instr.storeAt 44 t7 t28) (panK R) w fun w =>
 turnK w fun C19 w =>
 K3 t6 t7 w)
def n_phrasebooklaw05_SchemaEquals_c20 (t6 t7 t26 t27 : Value) (C2 : World → Prop) (K3 : Value → Value → World → Prop) (R : Ending → World → Prop) (w : World) : Prop :=
 callK Try.prog 23 #[t27] (panK R) w fun t28 w =>
 C2 w ∧ (
 opU Try.prog (Instr.storeAt 44 t6 t26) (panK R) w fun w =>
 turnK w fun C20 w =>
 opU Try.prog (Instr.storeAt 44 t7 t28) (panK R) w fun w =>
 turnK w fun C21 w =>
 K3 t6 t7 w)
def n_phrasebooklaw05_SchemaEquals_c21 (t6 t26 t27 : Value) (C2 : World → Prop) (K3 : Value → Value → World → Prop) (R : Ending → World → Prop) (w : World) : Prop :=
 (
 callK Try.prog 23 #[t27] (panK R) w fun t28 w =>
 C2 w ∧ (
 n_phrasebooklaw05_SchemaEquals_c19 t6 t26 t28 C2 K3 R w)) ∧ (
 opV Try.prog (Instr.alloc 44 true (.tuple #[])) (panK R) w fun t7 w =>
 C2 w ∧ (
 n_phrasebooklaw05_SchemaEquals_c20 t6 t7 t26 t27 C2 K3 R w))
def n_phrasebooklaw05_SchemaEquals_c22 (t7 t26 t28 : Value) (C2 : World → Prop) (K3 : Value → Value → World → Prop) (R : Ending → World → Prop) (w : World) : Prop :=
 opV Try.prog (Instr.alloc 44 true (.tuple #[])) (panK R) w fun t6 w =>
 C2 w ∧ (
 opU Try.prog (Instr.storeAt 44 t6 t26) (panK R) w fun w =>
 turnK w fun C22 w =>
 opU Try.prog (Instr.storeAt 44 t7 t28) (panK R) w fun w =>
 turnK w fun C23 w =>
 K3 t6 t7 w)
def n_phrasebooklaw05_SchemaEquals_c23 (t6 t7 t26 t27 : Value) (C2 : World → Prop) (K3 : Value → Value → World → Prop) (R : Ending → World → Prop) (w : World) : Prop :=
 callK Try.prog 23 #[t27] (panK R) w fun t28 w =>
 C2 w ∧ (
 opU Try.prog (Instr.storeAt 44 t6 t26) (panK R) w fun w =>
 turnK w fun C24 w =>
 opU Try.prog (Instr.storeAt 44 t7 t28) (panK R) w fun w =>
 turnK w fun C25 w =>
 K3 t6 t7 w)
def n_phrasebooklaw05_SchemaEquals_c24 (t7 t26 t27 : Value) (C2 : World → Prop) (K3 : Value → Value → World → Prop) (R : Ending → World → Prop) (w : World) : Prop :=
 (
 callK Try.prog 23 #[t27] (panK R) w fun t28 w =>
 C2 w ∧ (
 n_phrasebooklaw05_SchemaEquals_c22 t7 t26 t28 C2 K3 R w)) ∧ (
 opV Try.prog (Instr.alloc 44 true (.tuple #[])) (panK R) w fun t6 w =>
 C2 w ∧ (
 n_phrasebooklaw05_SchemaEquals_c23 t6 t7 t26 t27 C2 K3 R w))
def n_phrasebooklaw05_SchemaEquals_c25 (t26 t27 : Value) (C2 : World → Prop) (K3 : Value → Value → World → Prop) (R : Ending → World → Prop) (w : World) : Prop :=
 (
 callK Try.prog 23 #[t27] (panK R) w fun t28 w =>
 C2 w ∧ (
 n_phrasebooklaw05_SchemaEquals_c18 t26 t28 C2 K3 R w)) ∧ (
 opV Try.prog (Instr.alloc 44 true (.tuple #[])) (panK R) w fun t6 w =>
 C2 w ∧ (
 n_phrasebooklaw05_SchemaEquals_c21 t6 t26 t27 C2 K3 R w)) ∧ (
 opV Try.prog (Instr.alloc 44 true (.tuple #[])) (panK R) w fun t7 w =>
 C2 w ∧ (
 n_phrasebooklaw05_SchemaEquals_c24 t7 t26 t27 C2 K3 R w))
def n_phrasebooklaw05_SchemaEquals_c26 (t6 t26 t28 : Value) (C2 : World → Prop) (K3 : Value → Value → World → Prop) (R : Ending → World → Prop) (w : World) : Prop :=
 opV Try.prog (Instr.alloc 44 true (.tuple #[])) (panK R) w fun t7 w =>
 C2 w ∧ (
 opU Try.prog (Instr.storeAt 44 t6 t26) (panK R) w fun w =>
 turnK w fun C26 w =>
 opU Try.prog (Instr.storeAt 44 t7 t28) (panK R) w fun w =>
 turnK w fun C27 w =>
 K3 t6 t7 w)
def n_phrasebooklaw05_SchemaEquals_c27 (t6 t7 t26 t27 : Value) (C2 : World → Prop) (K3 : Value → Value → World → Prop) (R : Ending → World → Prop) (w : World) : Prop :=
 callK Try.prog 23 #[t27] (panK R) w fun t28 w =>
 C2 w ∧ (
 opU Try.prog (Instr.storeAt 44 t6 t26) (panK R) w fun w =>
 turnK w fun C28 w =>
 opU Try.prog (Instr.storeAt 44 t7 t28) (panK R) w fun w =>
 turnK w fun C29 w =>
 K3 t6 t7 w)
def n_phrasebooklaw05_SchemaEquals_c28 (t6 t26 t27 : Value) (C2 : World → Prop) (K3 : Value → Value → World → Prop) (R : Ending → World → Prop) (w : World) : Prop :=
 (
 callK Try.prog 23 #[t27] (panK R) w fun t28 w =>
 C2 w ∧ (
 n_phrasebooklaw05_SchemaEquals_c26 t6 t26 t28 C2 K3 R w)) ∧ (
 opV Try.prog (Instr.alloc 44 true (.tuple #[])) (panK R) w fun t7 w =>
 C2 w ∧ (
 n_phrasebooklaw05_SchemaEquals_c27 t6 t7 t26 t27 C2 K3 R w))
def n_phrasebooklaw05_SchemaEquals_c29 (t6 t7 t26 t27 : Value) (C2 : World → Prop) (K3 : Value → Value → World → Prop) (R : Ending → World → Prop) (w : World) : Prop :=
 callK Try.prog 23 #[t27] (panK R) w fun t28 w =>
 C2 w ∧ (
 opU Try.prog (Instr.storeAt 44 t6 t26) (panK R) w fun w =>
 turnK w fun C30 w =>
 opU Try.prog (Instr.storeAt 44 t7 t28) (panK R) w fun w =>
 turnK w fun C31 w =>
 K3 t6 t7 w)
def n_phrasebooklaw05_SchemaEquals_c30 (t6 t25 t27 : Value) (C2 : World → Prop) (K3 : Value → Value → World → Prop) (R : Ending → World → Prop) (w : World) : Prop :=
 (
 callK Try.prog 23 #[t25] (panK R) w fun t26 w =>
 C2 w ∧ (
 n_phrasebooklaw05_SchemaEquals_c28 t6 t26 t27 C2 K3 R w)) ∧ (
 opV Try.prog (Instr.alloc 44 true (.tuple #[])) (panK R) w fun t7 w =>
 C2 w ∧ (
 callK Try.prog 23 #[t25] (panK R) w fun t26 w =>
 C2 w ∧ (
 n_phrasebooklaw05_SchemaEquals_c29 t6 t7 t26 t27 C2 K3 R w)))
def n_phrasebooklaw05_SchemaEquals_c31 (t7 t26 t28 : Value) (C2 : World → Prop) (K3 : Value → Value → World → Prop) (R : Ending → World → Prop) (w : World) : Prop :=
 opV Try.prog (Instr.alloc 44 true (.tuple #[])) (panK R) w fun t6 w =>
 C2 w ∧ (
 opU Try.prog (Instr.storeAt 44 t6 t26) (panK R) w fun w =>
 turnK w fun C32 w =>
 opU Try.prog (Instr.storeAt 44 t7 t28) (panK R) w fun w =>
 turnK w fun C33 w =>
 K3 t6 t7 w)
def n_phrasebooklaw05_SchemaEquals_c32 (t6 t7 t26 t27 : Value) (C2 : World → Prop) (K3 : Value → Value → World → Prop) (R : Ending → World → Prop) (w : World) : Prop :=
 callK Try.prog 23 #[t27] (panK R) w fun t28 w =>
 C2 w ∧ (
 opU Try.prog (Instr.storeAt 44 t6 t26) (panK R) w fun w =>
 turnK w fun C34 w =>
 opU Try.prog (Instr.storeAt 44 t7 t28) (panK R) w fun w =>
 turnK w fun C35 w =>
 K3 t6 t7 w)
def n_phrasebooklaw05_SchemaEquals_c33 (t7 t26 t27 : Value) (C2 : World → Prop) (K3 : Value → Value → World → Prop) (R : Ending → World → Prop) (w : World) : Prop :=
 (
 callK Try.prog 23 #[t27] (panK R) w fun t28 w =>
 C2 w ∧ (
 n_phrasebooklaw05_SchemaEquals_c31 t7 t26 t28 C2 K3 R w)) ∧ (
 opV Try.prog (Instr.alloc 44 true (.tuple #[])) (panK R) w fun t6 w =>
 C2 w ∧ (
 n_phrasebooklaw05_SchemaEquals_c32 t6 t7 t26 t27 C2 K3 R w))
def n_phrasebooklaw05_SchemaEquals_c34 (t6 t7 t26 t27 : Value) (C2 : World → Prop) (K3 : Value → Value → World → Prop) (R : Ending → World → Prop) (w : World) : Prop :=
 callK Try.prog 23 #[t27] (panK R) w fun t28 w =>
 C2 w ∧ (
 opU Try.prog (Instr.storeAt 44 t6 t26) (panK R) w fun w =>
 turnK w fun C36 w =>
 opU Try.prog (Instr.storeAt 44 t7 t28) (panK R) w fun w =>
 turnK w fun C37 w =>
 K3 t6 t7 w)
def n_phrasebooklaw05_SchemaEquals_c35 (t7 t25 t27 : Value) (C2 : World → Prop) (K3 : Value → Value → World → Prop) (R : Ending → World → Prop) (w : World) : Prop :=
 (
 callK Try.prog 23 #[t25] (panK R) w fun t26 w =>
 C2 w ∧ (
 n_phrasebooklaw05_SchemaEquals_c33 t7 t26 t27 C2 K3 R w)) ∧ (
 opV Try.prog (Instr.alloc 44 true (.tuple #[])) (panK R) w fun t6 w =>
 C2 w ∧ (
 callK Try.prog 23 #[t25] (panK R) w fun t26 w =>
 C2 w ∧ (
 n_phrasebooklaw05_SchemaEquals_c34 t6 t7 t26 t27 C2 K3 R w)))
def n_phrasebooklaw05_SchemaEquals_c36 (t2 t3 t24 : Value) (C2 : World → Prop) (R : Ending → World → Prop) (w : World) : Prop :=
 qV Try.prog C2 (Instr.loadAt 44 t2) fun t25 =>
 qV Try.prog C2 (Instr.loadAt 44 t2) fun t27 =>
 joinK (fun (t6 : Value) (t7 : Value) (w : World) =>
 n_phrasebooklaw05_SchemaEquals_c15 t2 t3 t6 t7 t24 R w) fun K3 =>
 (
 callK Try.prog 23 #[t25] (panK R) w fun t26 w =>
 C2 w ∧ (
 n_phrasebooklaw05_SchemaEquals_c25 t26 t27 C2 K3 R w)) ∧ (
 opV Try.prog (Instr.alloc 44 true (.tuple #[])) (panK R) w fun t6 w =>
 C2 w ∧ (
 n_phrasebooklaw05_SchemaEquals_c30 t6 t25 t27 C2 K3 R w)) ∧ (
 opV Try.prog (Instr.alloc 44 true (.tuple #[])) (panK R) w fun t7 w =>
 C2 w ∧ (
 n_phrasebooklaw05_SchemaEquals_c35 t7 t25 t27 C2 K3 R w))
def n_phrasebooklaw05_SchemaEquals_c37 (t2 t3 : Value) (R : Ending → World → Prop) (w : World) : Prop :=
 opV Try.prog (Instr.loadAt 44 t2) (panK R) w fun t22 w =>
 opV Try.prog (Instr.loadAt 44 t3) (panK R) w fun t23 w =>
 callK Try.prog 30 #[t22, t23] (panK R) w fun t24 w =>
 drawK w fun C2 w =>
 n_phrasebooklaw05_SchemaEquals_c36 t2 t3 t24 C2 R w
def n_phrasebooklaw05_SchemaEquals_c38 (t2 t3 t14 : Value) (R : Ending → World → Prop) (w : World) : Prop :=
 opV Try.prog (Op.unary .not t14) (panK R) w fun t15 w =>
 joinK (fun (t19 : Value) (w : World) =>
 pickK t15 (.bool true) t19 fun t20 =>
 condP t20 (
 callK Try.prog 8 #[] (panK R) w fun t21 w =>
 R (.returned t21) w) (
 n_phrasebooklaw05_SchemaEquals_c37 t2 t3 R w)) fun K1 =>
 guardP t15 false (
 opV Try.prog (Instr.loadAt 44 t3) (panK R) w fun t17 w =>
 callK Try.prog 17 #[t17] (panK R) w fun t18 w =>
 opV Try.prog (Op.unary .not t18) (panK R) w fun t19 w =>
 K1 t19 w) (
 K1 undef w)
def n_phrasebooklaw05_SchemaEquals (t0 t1 : Value) (R : Ending → World → Prop) (w : World) : Prop :=
 opV Try.prog (Instr.box 44 t0) (panK R) w fun t2 w =>
 opV Try.prog (Instr.box 44 t1) (panK R) w fun t3 w =>
 opV Try.prog (Instr.loadAt 44 t2) (panK R) w fun t13 w =>
 callK Try.prog 17 #[t13] (panK R) w fun t14 w =>
 n_phrasebooklaw05_SchemaEquals_c38 t2 t3 t14 R w
set_option maxRecDepth 100000 in
set_option maxHeartbeats 40000000 in
theorem n_phrasebooklaw05_SchemaEquals_sound {t0 t1 : Value} {R : Ending → World → Prop} {w : World} (h : n_phrasebooklaw05_SchemaEquals t0 t1 R w) : Calls Try.prog 7 #[t0, t1] w R := by
  refine calls_of_den (args := [t0, t1]) Try.func7 rfl (Nat.le_of_ble_eq_true rfl) ?_
  unfold n_phrasebooklaw05_SchemaEquals at h
  refine zs <| zr ?_
  refine zv h fun t2 w h => ?_
  refine zv h fun t3 w h => ?_
  refine zm <| zn <| zk <| zs <| zs <| sim_regionG ?_
  refine sim_seg 4 rfl ?_
  refine zv h fun t13 w h => ?_
  refine zc h c17 fun t14 w h => ?_
  refine zv h fun t15 w h => ?_
  refine zm <| zn ?_
  refine joinK_elim h (fun K1 hK h => ?_)
  refine sim_groupJ 3 3 false [17, 18, 19] (fun ρ w => K1 (ρ 19) w) rfl rfl (fun T hT => guardP_mono h (fun h => ?_) (fun h => ?_)) (fun σ w h => ?_)
  · refine zv h fun t17 w h => ?_
    refine zc h c17 fun t18 w h => ?_
    refine zv h fun t19 w h => ?_
    refine zn ?_
    exact zt hT h
  · exact zt hT h
  subst hK
  refine sim_seg 1 rfl ?_
  refine sim_pick h rfl rfl rfl ?_; intro t20 h
  refine zn <| sim_end <| zk ?_
  refine sim_cond h rfl (fun h => ?_) (fun h => ?_)
  · refine zs <| zr ?_
    refine zc h c8 fun t21 w h => ?_
    refine zm <| zn <| zk <| sim_ret <| sim_then_ret ?_
    exact body_ret1 rfl rfl h
  · refine sim_skip <| zk <| zs <| zr ?_
    refine zv h fun t22 w h => ?_
    refine zv h fun t23 w h => ?_
    refine zc h c30 fun t24 w h => ?_
    refine zm <| zn <| zk <| zs ?_
    obtain ⟨C2, hC, h⟩ := h
    refine sim_draw [6, 7, 25, 26, 27, 28] (by kernel_rfl) (by kernel_rfl) C2 ?_
    refine ze 0 hC h fun t25 h => ?_
    refine ze 2 hC h fun t27 h => ?_
    refine joinK_elim h (fun K3 hK h => ?_)
    refine sim_dmeet [6, 7, 26, 28] (fun ρ w => K3 (ρ 6) (ρ 7) w) (fun T hT => ?_) (fun σ w h => ?_)
    · obtain ⟨h0, h1, h2⟩ := h
      refine sim_dloud3 1 4 5 rfl rfl rfl (by kernel_rfl) (fun _ _ => rfl) (fun _ _ => rfl) (fun _ _ => rfl) ?_ ?_ ?_
      · have h := h0
        refine sim_call h c23 rfl (fun _ _ h _ _ => ⟨rfl, h⟩) ?_; intro t26 w h
        refine zn ?_
        obtain ⟨hC, h⟩ := h
        refine ⟨_, fun _ h => h, hC, ?_⟩
        obtain ⟨h0, h1, h2⟩ := h
        refine sim_dloud3 3 4 5 rfl rfl rfl (by kernel_rfl) (fun _ _ => rfl) (fun _ _ => rfl) (fun _ _ => rfl) ?_ ?_ ?_
        · have h := h0
          refine sim_call h c23 rfl (fun _ _ h _ _ => ⟨rfl, h⟩) ?_; intro t28 w h
          refine zn ?_
          obtain ⟨hC, h⟩ := h
          refine ⟨_, fun _ h => h, hC, ?_⟩
          obtain ⟨h0, h1⟩ := h
          refine sim_dloud2 4 5 rfl rfl (by kernel_rfl) (fun _ _ => rfl) (fun _ _ => rfl) ?_ ?_
          · have h := h0
            refine sim_val h rfl rfl (fun _ _ h _ _ => ⟨rfl, h⟩) ?_; intro t6 w h
            refine zn ?_
            obtain ⟨hC, h⟩ := h
            refine ⟨_, fun _ h => h, hC, ?_⟩
            refine sim_dloud 5 rfl (by kernel_rfl) (fun _ _ => rfl) ?_
            refine sim_val h rfl rfl (fun _ _ h _ _ => ⟨rfl, h⟩) ?_; intro t7 w h
            refine zn ?_
            obtain ⟨hC, h⟩ := h
            refine ⟨hC, ?_⟩
            refine sim_dturn 6 2 rfl (by kernel_rfl) (by kernel_rfl) (fun _ _ => rfl) ?_
            refine sim_unit h rfl rfl (fun _ _ h _ _ => ⟨rfl, h⟩) ?_; intro w h
            refine zn ?_
            obtain ⟨C14, hC, h⟩ := h
            refine ⟨C14, hC, ?_⟩
            refine sim_dturn 7 1 rfl (by kernel_rfl) (by kernel_rfl) (fun _ _ => rfl) ?_
            refine sim_unit h rfl rfl (fun _ _ h _ _ => ⟨rfl, h⟩) ?_; intro w h
            refine zn ?_
            obtain ⟨C15, hC, h⟩ := h
            refine ⟨C15, hC, ?_⟩
            refine sim_dend (by kernel_rfl) ?_
            exact zt hT h
          · have h := h1
            refine sim_val h rfl rfl (fun _ _ h _ _ => ⟨rfl, h⟩) ?_; intro t7 w h
            refine zn ?_
            obtain ⟨hC, h⟩ := h
            refine ⟨_, fun _ h => h, hC, ?_⟩
            refine sim_dloud 4 rfl (by kernel_rfl) (fun _ _ => rfl) ?_
            refine sim_val h rfl rfl (fun _ _ h _ _ => ⟨rfl, h⟩) ?_; intro t6 w h
            refine zn ?_
            obtain ⟨hC, h⟩ := h
            refine ⟨hC, ?_⟩
            refine sim_dturn 6 2 rfl (by kernel_rfl) (by kernel_rfl) (fun _ _ => rfl) ?_
            refine sim_unit h rfl rfl (fun _ _ h _ _ => ⟨rfl, h⟩) ?_; intro w h
            refine zn ?_
            obtain ⟨C16, hC, h⟩ := h
            refine ⟨C16, hC, ?_⟩
            refine sim_dturn 7 1 rfl (by kernel_rfl) (by kernel_rfl) (fun _ _ => rfl) ?_
            refine sim_unit h rfl rfl (fun _ _ h _ _ => ⟨rfl, h⟩) ?_; intro w h
            refine zn ?_
            obtain ⟨C17, hC, h⟩ := h
            refine ⟨C17, hC, ?_⟩
            refine sim_dend (by kernel_rfl) ?_
            exact zt hT h
        · have h := h1
          refine sim_val h rfl rfl (fun _ _ h _ _ => ⟨rfl, h⟩) ?_; intro t6 w h
          refine zn ?_
          obtain ⟨hC, h⟩ := h
          refine ⟨_, fun _ h => h, hC, ?_⟩
          obtain ⟨h0, h1⟩ := h
          refine sim_dloud2 3 5 rfl rfl (by kernel_rfl) (fun _ _ => rfl) (fun _ _ => rfl) ?_ ?_
          · have h := h0
            refine sim_call h c23 rfl (fun _ _ h _ _ => ⟨rfl, h⟩) ?_; intro t28 w h
            refine zn ?_
            obtain ⟨hC, h⟩ := h
            refine ⟨_, fun _ h => h, hC, ?_⟩
            refine sim_dloud 5 rfl (by kernel_rfl) (fun _ _ => rfl) ?_
            refine sim_val h rfl rfl (fun _ _ h _ _ => ⟨rfl, h⟩) ?_; intro t7 w h
            refine zn ?_
            obtain ⟨hC, h⟩ := h
            refine ⟨hC, ?_⟩
            refine sim_dturn 6 2 rfl (by kernel_rfl) (by kernel_rfl) (fun _ _ => rfl) ?_
            refine sim_unit h rfl rfl (fun _ _ h _ _ => ⟨rfl, h⟩) ?_; intro w h
            refine zn ?_
            obtain ⟨C18, hC, h⟩ := h
            refine ⟨C18, hC, ?_⟩
            refine sim_dturn 7 1 rfl (by kernel_rfl) (by kernel_rfl) (fun _ _ => rfl) ?_
            refine sim_unit h rfl rfl (fun _ _ h _ _ => ⟨rfl, h⟩) ?_; intro w h
            refine zn ?_
            obtain ⟨C19, hC, h⟩ := h
            refine ⟨C19, hC, ?_⟩
            refine sim_dend (by kernel_rfl) ?_
            exact zt hT h
          · have h := h1
            refine sim_val h rfl rfl (fun _ _ h _ _ => ⟨rfl, h⟩) ?_; intro t7 w h
            refine zn ?_
            obtain ⟨hC, h⟩ := h
            refine ⟨_, fun _ h => h, hC, ?_⟩
            refine sim_dloud 3 rfl (by kernel_rfl) (fun _ _ => rfl) ?_
            refine sim_call h c23 rfl (fun _ _ h _ _ => ⟨rfl, h⟩) ?_; intro t28 w h
            refine zn ?_
            obtain ⟨hC, h⟩ := h
            refine ⟨hC, ?_⟩
            refine sim_dturn 6 2 rfl (by kernel_rfl) (by kernel_rfl) (fun _ _ => rfl) ?_
            refine sim_unit h rfl rfl (fun _ _ h _ _ => ⟨rfl, h⟩) ?_; intro w h
            refine zn ?_
            obtain ⟨C20, hC, h⟩ := h
            refine ⟨C20, hC, ?_⟩
            refine sim_dturn 7 1 rfl (by kernel_rfl) (by kernel_rfl) (fun _ _ => rfl) ?_
            refine sim_unit h rfl rfl (fun _ _ h _ _ => ⟨rfl, h⟩) ?_; intro w h
            refine zn ?_
            obtain ⟨C21, hC, h⟩ := h
            refine ⟨C21, hC, ?_⟩
            refine sim_dend (by kernel_rfl) ?_
            exact zt hT h
        · have h := h2
          refine sim_val h rfl rfl (fun _ _ h _ _ => ⟨rfl, h⟩) ?_; intro t7 w h
          refine zn ?_
          obtain ⟨hC, h⟩ := h
          refine ⟨_, fun _ h => h, hC, ?_⟩
          obtain ⟨h0, h1⟩ := h
          refine sim_dloud2 3 4 rfl rfl (by kernel_rfl) (fun _ _ => rfl) (fun _ _ => rfl) ?_ ?_
          · have h := h0
            refine sim_call h c23 rfl (fun _ _ h _ _ => ⟨rfl, h⟩) ?_; intro t28 w h
            refine zn ?_
            obtain ⟨hC, h⟩ := h
            refine ⟨_, fun _ h => h, hC, ?_⟩
            refine sim_dloud 4 rfl (by kernel_rfl) (fun _ _ => rfl) ?_
            refine sim_val h rfl rfl (fun _ _ h _ _ => ⟨rfl, h⟩) ?_; intro t6 w h
            refine zn ?_
            obtain ⟨hC, h⟩ := h
            refine ⟨hC, ?_⟩
            refine sim_dturn 6 2 rfl (by kernel_rfl) (by kernel_rfl) (fun _ _ => rfl) ?_
            refine sim_unit h rfl rfl (fun _ _ h _ _ => ⟨rfl, h⟩) ?_; intro w h
            refine zn ?_
            obtain ⟨C22, hC, h⟩ := h
            refine ⟨C22, hC, ?_⟩
            refine sim_dturn 7 1 rfl (by kernel_rfl) (by kernel_rfl) (fun _ _ => rfl) ?_
            refine sim_unit h rfl rfl (fun _ _ h _ _ => ⟨rfl, h⟩) ?_; intro w h
            refine zn ?_
            obtain ⟨C23, hC, h⟩ := h
            refine ⟨C23, hC, ?_⟩
            refine sim_dend (by kernel_rfl) ?_
            exact zt hT h
          · have h := h1
            refine sim_val h rfl rfl (fun _ _ h _ _ => ⟨rfl, h⟩) ?_; intro t6 w h
            refine zn ?_
            obtain ⟨hC, h⟩ := h
            refine ⟨_, fun _ h => h, hC, ?_⟩
            refine sim_dloud 3 rfl (by kernel_rfl) (fun _ _ => rfl) ?_
            refine sim_call h c23 rfl (fun _ _ h _ _ => ⟨rfl, h⟩) ?_; intro t28 w h
            refine zn ?_
            obtain ⟨hC, h⟩ := h
            refine ⟨hC, ?_⟩
            refine sim_dturn 6 2 rfl (by kernel_rfl) (by kernel_rfl) (fun _ _ => rfl) ?_
            refine sim_unit h rfl rfl (fun _ _ h _ _ => ⟨rfl, h⟩) ?_; intro w h
            refine zn ?_
            obtain ⟨C24, hC, h⟩ := h
            refine ⟨C24, hC, ?_⟩
            refine sim_dturn 7 1 rfl (by kernel_rfl) (by kernel_rfl) (fun _ _ => rfl) ?_
            refine sim_unit h rfl rfl (fun _ _ h _ _ => ⟨rfl, h⟩) ?_; intro w h
            refine zn ?_
            obtain ⟨C25, hC, h⟩ := h
            refine ⟨C25, hC, ?_⟩
            refine sim_dend (by kernel_rfl) ?_
            exact zt hT h
      · have h := h1
        refine sim_val h rfl rfl (fun _ _ h _ _ => ⟨rfl, h⟩) ?_; intro t6 w h
        refine zn ?_
        obtain ⟨hC, h⟩ := h
        refine ⟨_, fun _ h => h, hC, ?_⟩
        obtain ⟨h0, h1⟩ := h
        refine sim_dloud2 1 5 rfl rfl (by kernel_rfl) (fun _ _ => rfl) (fun _ _ => rfl) ?_ ?_
        · have h := h0
          refine sim_call h c23 rfl (fun _ _ h _ _ => ⟨rfl, h⟩) ?_; intro t26 w h
          refine zn ?_
          obtain ⟨hC, h⟩ := h
          refine ⟨_, fun _ h => h, hC, ?_⟩
          obtain ⟨h0, h1⟩ := h
          refine sim_dloud2 3 5 rfl rfl (by kernel_rfl) (fun _ _ => rfl) (fun _ _ => rfl) ?_ ?_
          · have h := h0
            refine sim_call h c23 rfl (fun _ _ h _ _ => ⟨rfl, h⟩) ?_; intro t28 w h
            refine zn ?_
            obtain ⟨hC, h⟩ := h
            refine ⟨_, fun _ h => h, hC, ?_⟩
            refine sim_dloud 5 rfl (by kernel_rfl) (fun _ _ => rfl) ?_
            refine sim_val h rfl rfl (fun _ _ h _ _ => ⟨rfl, h⟩) ?_; intro t7 w h
            refine zn ?_
            obtain ⟨hC, h⟩ := h
            refine ⟨hC, ?_⟩
            refine sim_dturn 6 2 rfl (by kernel_rfl) (by kernel_rfl) (fun _ _ => rfl) ?_
            refine sim_unit h rfl rfl (fun _ _ h _ _ => ⟨rfl, h⟩) ?_; intro w h
            refine zn ?_
            obtain ⟨C26, hC, h⟩ := h
            refine ⟨C26, hC, ?_⟩
            refine sim_dturn 7 1 rfl (by kernel_rfl) (by kernel_rfl) (fun _ _ => rfl) ?_
            refine sim_unit h rfl rfl (fun _ _ h _ _ => ⟨rfl, h⟩) ?_; intro w h
            refine zn ?_
            obtain ⟨C27, hC, h⟩ := h
            refine ⟨C27, hC, ?_⟩
            refine sim_dend (by kernel_rfl) ?_
            exact zt hT h
          · have h := h1
            refine sim_val h rfl rfl (fun _ _ h _ _ => ⟨rfl, h⟩) ?_; intro t7 w h
            refine zn ?_
            obtain ⟨hC, h⟩ := h
            refine ⟨_, fun _ h => h, hC, ?_⟩
            refine sim_dloud 3 rfl (by kernel_rfl) (fun _ _ => rfl) ?_
            refine sim_call h c23 rfl (fun _ _ h _ _ => ⟨rfl, h⟩) ?_; intro t28 w h
            refine zn ?_
            obtain ⟨hC, h⟩ := h
            refine ⟨hC, ?_⟩
            refine sim_dturn 6 2 rfl (by kernel_rfl) (by kernel_rfl) (fun _ _ => rfl) ?_
            refine sim_unit h rfl rfl (fun _ _ h _ _ => ⟨rfl, h⟩) ?_; intro w h
            refine zn ?_
            obtain ⟨C28, hC, h⟩ := h
            refine ⟨C28, hC, ?_⟩
            refine sim_dturn 7 1 rfl (by kernel_rfl) (by kernel_rfl) (fun _ _ => rfl) ?_
            refine sim_unit h rfl rfl (fun _ _ h _ _ => ⟨rfl, h⟩) ?_; intro w h
            refine zn ?_
            obtain ⟨C29, hC, h⟩ := h
            refine ⟨C29, hC, ?_⟩
            refine sim_dend (by kernel_rfl) ?_
            exact zt hT h
        · have h := h1
          refine sim_val h rfl rfl (fun _ _ h _ _ => ⟨rfl, h⟩) ?_; intro t7 w h
          refine zn ?_
          obtain ⟨hC, h⟩ := h
          refine ⟨_, fun _ h => h, hC, ?_⟩
          refine sim_dloud 1 rfl (by kernel_rfl) (fun _ _ => rfl) ?_
          refine sim_call h c23 rfl (fun _ _ h _ _ => ⟨rfl, h⟩) ?_; intro t26 w h
          refine zn ?_
          obtain ⟨hC, h⟩ := h
          refine ⟨hC, ?_⟩
          refine sim_dloud 3 rfl (by kernel_rfl) (fun _ _ => rfl) ?_
          refine sim_call h c23 rfl (fun _ _ h _ _ => ⟨rfl, h⟩) ?_; intro t28 w h
          refine zn ?_
          obtain ⟨hC, h⟩ := h
          refine ⟨hC, ?_⟩
          refine sim_dturn 6 2 rfl (by kernel_rfl) (by kernel_rfl) (fun _ _ => rfl) ?_
          refine sim_unit h rfl rfl (fun _ _ h _ _ => ⟨rfl, h⟩) ?_; intro w h
          refine zn ?_
          obtain ⟨C30, hC, h⟩ := h
          refine ⟨C30, hC, ?_⟩
          refine sim_dturn 7 1 rfl (by kernel_rfl) (by kernel_rfl) (fun _ _ => rfl) ?_
          refine sim_unit h rfl rfl (fun _ _ h _ _ => ⟨rfl, h⟩) ?_; intro w h
          refine zn ?_
          obtain ⟨C31, hC, h⟩ := h
          refine ⟨C31, hC, ?_⟩
          refine sim_dend (by kernel_rfl) ?_
          exact zt hT h
      · have h := h2
        refine sim_val h rfl rfl (fun _ _ h _ _ => ⟨rfl, h⟩) ?_; intro t7 w h
        refine zn ?_
        obtain ⟨hC, h⟩ := h
        refine ⟨_, fun _ h => h, hC, ?_⟩
        obtain ⟨h0, h1⟩ := h
        refine sim_dloud2 1 4 rfl rfl (by kernel_rfl) (fun _ _ => rfl) (fun _ _ => rfl) ?_ ?_
        · have h := h0
          refine sim_call h c23 rfl (fun _ _ h _ _ => ⟨rfl, h⟩) ?_; intro t26 w h
          refine zn ?_
          obtain ⟨hC, h⟩ := h
          refine ⟨_, fun _ h => h, hC, ?_⟩
          obtain ⟨h0, h1⟩ := h
          refine sim_dloud2 3 4 rfl rfl (by kernel_rfl) (fun _ _ => rfl) (fun _ _ => rfl) ?_ ?_
          · have h := h0
            refine sim_call h c23 rfl (fun _ _ h _ _ => ⟨rfl, h⟩) ?_; intro t28 w h
            refine zn ?_
            obtain ⟨hC, h⟩ := h
            refine ⟨_, fun _ h => h, hC, ?_⟩
            refine sim_dloud 4 rfl (by kernel_rfl) (fun _ _ => rfl) ?_
            refine sim_val h rfl rfl (fun _ _ h _ _ => ⟨rfl, h⟩) ?_; intro t6 w h
            refine zn ?_
            obtain ⟨hC, h⟩ := h
            refine ⟨hC, ?_⟩
            refine sim_dturn 6 2 rfl (by kernel_rfl) (by kernel_rfl) (fun _ _ => rfl) ?_
            refine sim_unit h rfl rfl (fun _ _ h _ _ => ⟨rfl, h⟩) ?_; intro w h
            refine zn ?_
            obtain ⟨C32, hC, h⟩ := h
            refine ⟨C32, hC, ?_⟩
            refine sim_dturn 7 1 rfl (by kernel_rfl) (by kernel_rfl) (fun _ _ => rfl) ?_
            refine sim_unit h rfl rfl (fun _ _ h _ _ => ⟨rfl, h⟩) ?_; intro w h
            refine zn ?_
            obtain ⟨C33, hC, h⟩ := h
            refine ⟨C33, hC, ?_⟩
            refine sim_dend (by kernel_rfl) ?_
            exact zt hT h
          · have h := h1
            refine sim_val h rfl rfl (fun _ _ h _ _ => ⟨rfl, h⟩) ?_; intro t6 w h
            refine zn ?_
            obtain ⟨hC, h⟩ := h
            refine ⟨_, fun _ h => h, hC, ?_⟩
            refine sim_dloud 3 rfl (by kernel_rfl) (fun _ _ => rfl) ?_
            refine sim_call h c23 rfl (fun _ _ h _ _ => ⟨rfl, h⟩) ?_; intro t28 w h
            refine zn ?_
            obtain ⟨hC, h⟩ := h
            refine ⟨hC, ?_⟩
            refine sim_dturn 6 2 rfl (by kernel_rfl) (by kernel_rfl) (fun _ _ => rfl) ?_
            refine sim_unit h rfl rfl (fun _ _ h _ _ => ⟨rfl, h⟩) ?_; intro w h
            refine zn ?_
            obtain ⟨C34, hC, h⟩ := h
            refine ⟨C34, hC, ?_⟩
            refine sim_dturn 7 1 rfl (by kernel_rfl) (by kernel_rfl) (fun _ _ => rfl) ?_
            refine sim_unit h rfl rfl (fun _ _ h _ _ => ⟨rfl, h⟩) ?_; intro w h
            refine zn ?_
            obtain ⟨C35, hC, h⟩ := h
            refine ⟨C35, hC, ?_⟩
            refine sim_dend (by kernel_rfl) ?_
            exact zt hT h
        · have h := h1
          refine sim_val h rfl rfl (fun _ _ h _ _ => ⟨rfl, h⟩) ?_; intro t6 w h
          refine zn ?_
          obtain ⟨hC, h⟩ := h
          refine ⟨_, fun _ h => h, hC, ?_⟩
          refine sim_dloud 1 rfl (by kernel_rfl) (fun _ _ => rfl) ?_
          refine sim_call h c23 rfl (fun _ _ h _ _ => ⟨rfl, h⟩) ?_; intro t26 w h
          refine zn ?_
          obtain ⟨hC, h⟩ := h
          refine ⟨hC, ?_⟩
          refine sim_dloud 3 rfl (by kernel_rfl) (fun _ _ => rfl) ?_
          refine sim_call h c23 rfl (fun _ _ h _ _ => ⟨rfl, h⟩) ?_; intro t28 w h
          refine zn ?_
          obtain ⟨hC, h⟩ := h
          refine ⟨hC, ?_⟩
          refine sim_dturn 6 2 rfl (by kernel_rfl) (by kernel_rfl) (fun _ _ => rfl) ?_
          refine sim_unit h rfl rfl (fun _ _ h _ _ => ⟨rfl, h⟩) ?_; intro w h
          refine zn ?_
          obtain ⟨C36, hC, h⟩ := h
          refine ⟨C36, hC, ?_⟩
          refine sim_dturn 7 1 rfl (by kernel_rfl) (by kernel_rfl) (fun _ _ => rfl) ?_
          refine sim_unit h rfl rfl (fun _ _ h _ _ => ⟨rfl, h⟩) ?_; intro w h
          refine zn ?_
          obtain ⟨C37, hC, h⟩ := h
          refine ⟨C37, hC, ?_⟩
          refine sim_dend (by kernel_rfl) ?_
          exact zt hT h
    subst hK
    refine zk <| zs <| zs <| sim_regionG ?_
    refine sim_seg 6 rfl ?_
    refine zv h fun t29 w h => ?_
    refine zv h fun t30 w h => ?_
    refine zc h c31 fun t31 w h => ?_
    refine zm ?_
    refine zb h fun t33 w h => ?_
    refine zm <| zn ?_
    refine joinK_elim h (fun K4 hK h => ?_)
    refine sim_groupJ 5 5 false [35, 36, 37, 38, 39] (fun ρ w => K4 (ρ 39) w) rfl rfl (fun T hT => guardP_mono h (fun h => ?_) (fun h => ?_)) (fun σ w h => ?_)
    · refine zv h fun t35 w h => ?_
      refine zv h fun t36 w h => ?_
      refine zc h c31 fun t37 w h => ?_
      refine zm ?_
      refine zb h fun t39 w h => ?_
      refine zn ?_
      exact zt hT h
    · exact zt hT h
    subst hK
    refine sim_seg 2 rfl ?_
    refine sim_pick h rfl rfl rfl ?_; intro t40 h
    refine zm <| zn ?_
    refine joinK_elim h (fun K5 hK h => ?_)
    refine sim_groupJ 4 12 false [42, 43, 44, 45] (fun ρ w => K5 (ρ 45) w) rfl rfl (fun T hT => guardP_mono h (fun h => ?_) (fun h => ?_)) (fun σ w h => ?_)
    · refine zv h fun t42 w h => ?_
      refine zv h fun t43 w h => ?_
      refine zc h c31 fun t44 w h => ?_
      refine zv h fun t45 w h => ?_
      refine zn ?_
      exact zt hT h
    · exact zt hT h
    subst hK
    refine sim_seg 2 rfl ?_
    refine sim_pick h rfl rfl rfl ?_; intro t46 h
    refine zm <| zn ?_
    refine joinK_elim h (fun K6 hK h => ?_)
    refine sim_groupJ 4 18 false [48, 49, 50, 51] (fun ρ w => K6 (ρ 51) w) rfl rfl (fun T hT => guardP_mono h (fun h => ?_) (fun h => ?_)) (fun σ w h => ?_)
    · refine zv h fun t48 w h => ?_
      refine zv h fun t49 w h => ?_
      refine zc h c30 fun t50 w h => ?_
      refine zv h fun t51 w h => ?_
      refine zn ?_
      exact zt hT h
    · exact zt hT h
    subst hK
    refine sim_seg 1 rfl ?_
    refine sim_pick h rfl rfl rfl ?_; intro t52 h
    refine zn <| sim_end <| zk ?_
    refine sim_cond h rfl (fun h => ?_) (fun h => ?_)
    · refine zs <| zr <| zm <| zn <| zk <| sim_ret <| sim_then_ret ?_
      exact body_ret1 rfl rfl h
    · refine sim_skip <| zk <| zs <| zs <| zr <| zm <| zn <| zk <| sim_block ?_
      obtain ⟨I, μ, h0, hr⟩ := h
      refine sim_loop [8, 9, 10, 11, 12, 53, 54, 55, 56, 57, 58, 59, 60, 61, 62, 63, 64, 65, 66, 67, 68, 69, 70, 71, 72, 73, 74, 75, 76, 77, 78, 79, 80, 81, 82, 83, 84, 85, 86, 87, 88, 89, 90, 91, 92, 93, 94, 95, 96, 97, 98, 99, 100, 101, 102, 103, 104, 105, 106, 107, 108, 109, 110, 111, 112, 113, 114, 115, 116, 117, 118, 119, 120, 121, 122, 123, 124, 125, 126, 127, 128, 129, 130] (by kernel_rfl) (fun ρ w => I (ρ 8) w) (fun ρ w => μ (ρ 8) w) h0 (fun σ w hI => ?_)
      have h := hr _ _ hI
      clear hr h0 hI
      refine zs <| zs <| zr <| zm ?_
      refine zv h fun t54 w h => ?_
      refine zv h fun t55 w h => ?_
      refine zx h fun t56 w h => ?_
      refine zb h fun t57 w h => ?_
      refine zn <| zk ?_
      refine sim_cond h rfl (fun h => ?_) (fun h => ?_)
      · refine sim_skip <| zk <| zs <| sim_block <| zs <| zs <| zr <| zm <| zn <| zk <| sim_block ?_
        obtain ⟨I, μ, h0, hr⟩ := h
        refine sim_loop [9, 10, 11, 12, 60, 61, 62, 63, 64, 65, 66, 67, 68, 69, 70, 71, 72, 73, 74, 75, 76, 77, 78, 79, 80, 81, 82, 83, 84, 85, 86, 87, 88, 89, 90, 91, 92, 93, 94, 95, 96, 97, 98, 99, 100, 101, 102, 103, 104, 105, 106, 107, 108, 109, 110, 111, 112, 113, 114, 115, 116, 117, 118, 119, 120, 121, 122, 123, 124, 125] (by kernel_rfl) (fun ρ w => I (ρ 9) w) (fun ρ w => μ (ρ 9) w) h0 (fun σ w hI => ?_)
        have h := hr _ _ hI
        clear hr h0 hI
        refine zs <| zs <| zr <| zm ?_
        refine zv h fun t61 w h => ?_
        refine zv h fun t62 w h => ?_
        refine zm ?_
        refine zv h fun t64 w h => ?_
        refine zv h fun t65 w h => ?_
        refine zv h fun t66 w h => ?_
        refine zx h fun t67 w h => ?_
        refine zb h fun t68 w h => ?_
        refine zn <| zk ?_
        refine sim_cond h rfl (fun h => ?_) (fun h => ?_)
        · refine sim_skip <| zk <| zs <| sim_block <| zs <| zr ?_
          refine zv h fun t71 w h => ?_
          refine zv h fun t72 w h => ?_
          refine zm ?_
          refine zv h fun t74 w h => ?_
          refine zv h fun t75 w h => ?_
          refine zv h fun t76 w h => ?_
          refine zm ?_
          refine zv h fun t78 w h => ?_
          refine zv h fun t79 w h => ?_
          refine zv h fun t10 w h => ?_
          refine zu h fun w h => ?_
          refine zn <| zk <| zs <| zs <| zr <| zm <| zn <| zk <| sim_block ?_
          obtain ⟨I, μ, h0, hr⟩ := h
          refine sim_loop [11, 80, 81, 82, 83, 84, 85, 86, 87, 88, 89, 90, 91, 92, 93, 94, 95, 96, 97, 98] (by kernel_rfl) (fun ρ w => I (ρ 11) w) (fun ρ w => μ (ρ 11) w) h0 (fun σ w hI => ?_)
          have h := hr _ _ hI
          clear hr h0 hI
          refine zs <| zs <| zr <| zm ?_
          refine zv h fun t81 w h => ?_
          refine zv h fun t82 w h => ?_
          refine zx h fun t83 w h => ?_
          refine zb h fun t84 w h => ?_
          refine zn <| zk ?_
          refine sim_cond h rfl (fun h => ?_) (fun h => ?_)
          · refine sim_skip <| zk <| zs <| sim_block ?_
            obtain ⟨C10, hC, h⟩ := h
            refine sim_draw [87, 88, 89, 90, 91, 92, 93, 94, 95, 96, 97, 98] (by kernel_rfl) (by kernel_rfl) C10 ?_
            refine ze 0 hC h fun t87 h => ?_
            refine ze 1 hC h fun t88 h => ?_
            refine zw 2 hC ?_
            refine ze 3 hC h fun t90 h => ?_
            refine ze 4 hC h fun t91 h => ?_
            refine zw 5 hC ?_
            refine ze 6 hC h fun t93 h => ?_
            refine ze 7 hC h fun t94 h => ?_
            refine ze 8 hC h fun t95 h => ?_
            obtain ⟨t96, hv, h⟩ := h
            refine sim_dsilent 9 hC rfl (by kernel_rfl) (by kernel_rfl) (fun _ _ => rfl) rfl (Sw.qV_bin rfl rfl rfl hv) ?_
            refine ze 10 hC h fun t97 h => ?_
            refine ze 11 hC h fun t98 h => ?_
            refine sim_dturn 12 2 rfl (by kernel_rfl) (by kernel_rfl) (fun _ _ => rfl) ?_
            refine sim_unit h rfl rfl (fun _ _ h _ _ => ⟨rfl, h⟩) ?_; intro w h
            refine zn ?_
            obtain ⟨C11, hC, h⟩ := h
            refine ⟨C11, hC, ?_⟩
            refine sim_dend (by kernel_rfl) ?_
            refine sim_block_normal <| zk <| zr <| zm ?_
            refine zb h fun t86 w h => ?_
            refine zm <| zn <| zk ?_
            exact ⟨rfl, h⟩
          · refine sim_exit <| sim_then_exit <| sim_then_exit <| sim_block_hit <| zk <| zs <| zs <| zr <| zm <| zn <| zk <| sim_block ?_
            obtain ⟨I, μ, h0, hr⟩ := h
            refine sim_loop [12, 99, 100, 101, 102, 103, 104, 105, 106, 107, 108, 109, 110, 111, 112, 113, 114, 115, 116] (by kernel_rfl) (fun ρ w => I (ρ 12) w) (fun ρ w => μ (ρ 12) w) h0 (fun σ w hI => ?_)
            have h := hr _ _ hI
            clear hr h0 hI
            refine zs <| zs <| zr <| zm ?_
            refine zv h fun t100 w h => ?_
            refine zv h fun t101 w h => ?_
            refine zv h fun t102 w h => ?_
            refine zx h fun t103 w h => ?_
            refine zb h fun t104 w h => ?_
            refine zn <| zk ?_
            refine sim_cond h rfl (fun h => ?_) (fun h => ?_)
            · refine sim_skip <| zk <| zs <| sim_block <| zr ?_
              refine zv h fun t107 w h => ?_
              refine zv h fun t108 w h => ?_
              refine zv h fun t109 w h => ?_
              refine zm ?_
              refine zv h fun t111 w h => ?_
              refine zv h fun t112 w h => ?_
              refine zv h fun t113 w h => ?_
              refine zb h fun t114 w h => ?_
              refine zv h fun t115 w h => ?_
              refine zv h fun t116 w h => ?_
              refine zu h fun w h => ?_
              refine zn <| sim_block_normal <| zk <| zr <| zm ?_
              refine zb h fun t106 w h => ?_
              refine zm <| zn <| zk ?_
              exact ⟨rfl, h⟩
            · refine sim_exit <| sim_then_exit <| sim_then_exit <| sim_block_hit <| zk <| zr ?_
              refine zv h fun t117 w h => ?_
              refine zv h fun t118 w h => ?_
              refine zm ?_
              refine zv h fun t120 w h => ?_
              refine zv h fun t121 w h => ?_
              refine zv h fun t122 w h => ?_
              refine zm ?_
              refine zv h fun t124 w h => ?_
              refine zv h fun t125 w h => ?_
              refine zu h fun w h => ?_
              refine zn <| sim_block_normal <| zk <| zr <| zm ?_
              refine zb h fun t70 w h => ?_
              refine zm <| zn <| zk ?_
              exact ⟨rfl, h⟩
        · refine sim_exit <| sim_then_exit <| sim_then_exit <| sim_block_hit <| zk <| zr ?_
          refine zv h fun t126 w h => ?_
          refine zv h fun t127 w h => ?_
          refine zm ?_
          refine zv h fun t129 w h => ?_
          refine zv h fun t130 w h => ?_
          refine zu h fun w h => ?_
          refine zn <| sim_block_normal <| zk <| zr <| zm ?_
          refine zb h fun t59 w h => ?_
          refine zm <| zn <| zk ?_
          exact ⟨rfl, h⟩
      · refine sim_exit <| sim_then_exit <| sim_then_exit <| sim_block_hit <| zk <| zs <| sim_regionG ?_
        refine sim_seg 4 rfl ?_
        refine zv h fun t131 w h => ?_
        refine zv h fun t132 w h => ?_
        refine zc h c30 fun t133 w h => ?_
        refine zm <| zn ?_
        refine joinK_elim h (fun K13 hK h => ?_)
        refine sim_groupJ 1 3 true [135] (fun ρ w => K13 (ρ 135) w) rfl rfl (fun T hT => guardP_mono h (fun h => ?_) (fun h => ?_)) (fun σ w h => ?_)
        · refine zc h c8 fun t135 w h => ?_
          refine zn ?_
          exact zt hT h
        · exact zt hT h
        subst hK
        refine sim_seg 2 rfl ?_
        refine sim_pick h rfl rfl rfl ?_; intro t136 h
        refine zm <| zn <| sim_end <| zk <| sim_ret ?_
        exact body_ret1 rfl rfl h
end Go.Proofs.Ytiajhbbmgglmlaa
namespace Go.Proofs.Ytiajhbbmgglmlaa
open Sw
open Go.RowKit (intOf Below)
set_option maxRecDepth 100000
theorem op_sadd {w : World} {QP : List PanicEntry → World → Prop} {k : Value → World → Prop} (t : TypeId) (c : Bool) (a b : ByteArray) (h : a.size + b.size ≤ 9223372036854775807) : opV Try.prog (binS .add t c (.string a) (.string b)) QP w k = k (.string (a ++ b)) w := opV_ok (by
  have h1 : ¬ (((a.size + b.size : Nat) : Int) > IntKind.i64.max) := by
    have : IntKind.i64.max = 9223372036854775807 := rfl
    omega
  simp [binS, binOp, Op.stringOp, h1]
  omega)
theorem slice_len {A A' : Option Addr} {n n' c c' : Nat} (h : Value.slice A n c = .slice A' n' c') : n = n' := by injection h
section
variable {R : Ending → World → Prop} {W : World} {lo hi n B0 p2 p6 p7 : Nat} {mv s1 s2 : Value}
structure Mid (W w : World) (lo hi n B : Nat) (mv fv : Value) (g k : Nat) : Prop where
  save : Save lo hi W w
  shape : ShapeM w lo hi B mv n
  at_ : ∃ cur, w.heap[g]? = some (.cells cur TM (0, 0)) ∧ cur[k * 2 + 1]? = some fv
theorem Mid.put {w : World} {B B' : Nat} {fv v : Value} {g k b o : Nat} {T : TypeId} {cur : Array Value} (h : Mid W w lo hi n B mv fv g k) (hb : w.heap[b]? = some (.cells cur T (0, 0))) (h1 : lo ≤ b) (h2 : b < hi) (hBB : B ≤ B') (hf : Fit T o v B') : Mid W (w.setCell ⟨b, o, none⟩ v) lo hi n B' mv fv g k := by
  refine ⟨h.save.setCell h1 h2 v, h.shape.put hb hBB hf, ?_⟩
  obtain ⟨cm, h3, h4⟩ := h.at_
  by_cases e : g = b
  · subst e
    rw [hb] at h3
    injection h3 with h3
    injection h3 with h3 h3T
    subst h3 h3T
    have := hf.1 rfl
    exact ⟨_, heap_set hb v, by rw [Array.getElem?_setIfInBounds_ne (by omega)]; exact h4⟩
  · exact ⟨cm, (Only.setCell w b o v g e).trans h3, h4⟩
theorem Mid.go {w w' : World} {B : Nat} {fv : Value} {g k : Nat} (h : Mid W w lo hi n B mv fv g k) (e : Ext w w') : Mid W w' lo hi n B mv fv g k := ⟨h.save.ext e, h.shape.ext e, let ⟨c, a, b⟩ := h.at_; ⟨c, e.obj a, b⟩⟩
theorem Mid.fields {w : World} {B : Nat} {fv : Value} {g cap k : Nat} (h : Mid W w lo hi n B (.slice (some ⟨g, 0, none⟩) n cap) fv g k) (hk : k < n) : ∃ nf, nf ≤ 400 ∧ ShapeG w lo hi B fv nf := by
  rcases h.shape with ⟨h0, _⟩ | ⟨g', cap', cur, h1, _, _, h4, _, h6⟩
  · cases h0
  · injection h1 with h1 _ _
    injection h1 with h1
    injection h1 with h1
    subst h1
    obtain ⟨cm, h7, h8⟩ := h.at_
    rw [h4] at h7
    injection h7 with h7
    injection h7 with h7 _
    subst h7
    obtain ⟨fv', nf, a1, a2, a3⟩ := h6 k hk
    rw [h8] at a1
    injection a1 with a1
    subst a1
    exact ⟨nf, a2, a3⟩
theorem leq_terms {w : World} {g cap k q nf B : Nat} {fv tv : Value} {p10 : Nat} {next8 : Value → World → Prop} {cells : List Value} (hM : Mid W w lo hi n B (.slice (some ⟨g, 0, none⟩) n cap) fv g k) (hT : ShapeT w lo hi tv) (hg : lo ≤ g) (hgh : g < hi)
    (o10 : w.heap[p10]? = some (.cells cells.toArray TF (0, 0))) (h8 : cells[8]? = some tv) (hp10 : hi ≤ p10)
    (hK : ∀ w', Mid W w' lo hi n B (.slice (some ⟨g, 0, none⟩) n cap) fv g k → n_phrasebooklaw05_SchemaEquals_c2 (.pointer (some ⟨p6, 0, none⟩)) (.int .i64 (k : Int)) (.int .i64 (q : Int)) next8 R w') :
    loop1 (fun t12 w next12 => n_phrasebooklaw05_SchemaEquals_c4 (.pointer (some ⟨p6, 0, none⟩)) (.int .i64 (k : Int)) (.int .i64 (q : Int)) (.pointer (some ⟨p10, 0, none⟩)) t12 next12 next8 R w) (.int .i64 0) w := by
  obtain ⟨len, hlen, hlen10⟩ : ∃ len : Nat, (∃ A cc, tv = .slice A len cc) ∧ len ≤ 10 := by
    rcases hT with rfl | ⟨gc, len, cc, cur, rfl, _, _, _, h, _⟩
    · exact ⟨0, ⟨_, _, rfl⟩, by omega⟩
    · exact ⟨len, ⟨_, _, rfl⟩, h⟩
  refine loop1_intro (fun i w' => ∃ j : Nat, i = .int .i64 j ∧ j ≤ len ∧ Mid W w' lo hi n B (.slice (some ⟨g, 0, none⟩) n cap) fv g k ∧ ShapeT w' lo hi tv ∧ w'.heap[p10]? = some (.cells cells.toArray TF (0, 0))) (fun i _ => len - (intOf i).toNat) ⟨0, rfl, by omega, hM, hT, o10⟩ ?_
  rintro _ w1 ⟨j, rfl, hj, hM1, hT1, y10⟩
  have a8 : w1.cell? ⟨p10, 8, none⟩ = some tv := by rw [(cells_of_heap y10).1]; simpa using h8
  unfold n_phrasebooklaw05_SchemaEquals_c4
  by_cases hjl : j < len
  · rcases hT1 with rfl | ⟨gt, len', cc, cur, rfl, h1, h2, h3, h4, h5⟩
    · obtain ⟨A, cc, h⟩ := hlen
      have := slice_len h
      omega
    · obtain ⟨A, cc', h⟩ := hlen
      have := slice_len h
      subst this
      obtain ⟨m, hm⟩ := h5 j hjl
      have a1 : w1.cell? ⟨gt, j * 2 + 1, none⟩ = some (.int .i64 m) := by rw [(cells_of_heap h3).1]; exact hm
      have d1 : decide ((j : Int) < (len' : Int)) = true := by simp; omega
      simp (disch := first | assumption | (simp only [ONE]; done) | rfl | (simp only [SZ]; done) | omega | (simp only [SZ] at *; omega)) only [↓PR, QR, Int.reduceBEq, Int.reduceBNe, Int.reduceLT, Int.reduceLE, Int.reduceGT, Int.reduceGE, Int.reduceNeg, a8, d1]
      unfold n_phrasebooklaw05_SchemaEquals_c3
      simp (disch := first | assumption | (simp only [ONE]; done) | rfl | (simp only [SZ]; done) | omega | (simp only [SZ] at *; omega)) only [↓PR, QR, Int.reduceBEq, Int.reduceBNe, Int.reduceLT, Int.reduceLE, Int.reduceGT, Int.reduceGE, Int.reduceNeg, a8, a1, (cells_of_heap h3).2]
      have hfit : Fit TT (j * 2 + 1) (.int .i64 (IntKind.i64.wrap (m + 1))) B := ⟨fun h => absurd h (by decide), fun h => absurd h (by decide), fun h => absurd h (by decide), fun _ => ⟨by omega, _, rfl⟩⟩
      refine ⟨⟨j + 1, rfl, by omega, hM1.put h3 h1 h2 (Nat.le_refl _) hfit, ShapeT.put h3 hfit (.inr ⟨gt, _, cc, cur, rfl, h1, h2, h3, h4, h5⟩), ?_⟩, meas_lt hjl⟩
      first | exact y10 | exact (Only.setCell w1 gt _ _ p10 (by omega)).trans y10
  · obtain ⟨A, cc, rfl⟩ := hlen
    have d1 : decide ((j : Int) < (len : Int)) = false := by simp; omega
    simp (disch := first | assumption | (simp only [ONE]; done) | rfl | (simp only [SZ]; done) | omega | (simp only [SZ] at *; omega)) only [↓PR, QR, Int.reduceBEq, Int.reduceBNe, Int.reduceLT, Int.reduceLE, Int.reduceGT, Int.reduceGE, Int.reduceNeg, a8, d1]
    exact hK w1 hM1
theorem leq_cases {w : World} {g cap k q nf B : Nat} {fv tv cv : Value} {p10 : Nat} {next8 : Value → World → Prop} {cells : List Value} (hM : Mid W w lo hi n B (.slice (some ⟨g, 0, none⟩) n cap) fv g k) (hB : B ≤ 4611686018427387904) (hT : ShapeT w lo hi tv) (hS : ShapeS w lo hi B cv) (hg : lo ≤ g) (hgh : g < hi)
    (o10 : w.heap[p10]? = some (.cells cells.toArray TF (0, 0))) (h8 : cells[8]? = some tv) (h12 : cells[12]? = some cv) (hp10 : hi ≤ p10)
    (hK : ∀ w' B', B' ≤ B + 50 → Mid W w' lo hi n B' (.slice (some ⟨g, 0, none⟩) n cap) fv g k → n_phrasebooklaw05_SchemaEquals_c2 (.pointer (some ⟨p6, 0, none⟩)) (.int .i64 (k : Int)) (.int .i64 (q : Int)) next8 R w') :
    loop1 (fun t11 w next9 => n_phrasebooklaw05_SchemaEquals_c5 (.pointer (some ⟨p6, 0, none⟩)) (.int .i64 (k : Int)) (.int .i64 (q : Int)) (.pointer (some ⟨p10, 0, none⟩)) t11 next8 next9 R w) (.int .i64 0) w := by
  obtain ⟨len, hlen, hlen50⟩ : ∃ len : Nat, (∃ A cc, cv = .slice A len cc) ∧ len ≤ 50 := by
    rcases hS with rfl | ⟨gc, len, cc, cur, rfl, _, _, _, h, _⟩
    · exact ⟨0, ⟨_, _, rfl⟩, by omega⟩
    · exact ⟨len, ⟨_, _, rfl⟩, h⟩
  refine loop1_intro (fun i w' => ∃ (j B' : Nat), i = .int .i64 j ∧ j ≤ len ∧ B' ≤ B + j ∧ Mid W w' lo hi n B' (.slice (some ⟨g, 0, none⟩) n cap) fv g k ∧ ShapeT w' lo hi tv ∧ ShapeS w' lo hi B' cv ∧ w'.heap[p10]? = some (.cells cells.toArray TF (0, 0))) (fun i _ => len - (intOf i).toNat) ⟨0, B, rfl, by omega, by omega, hM, hT, hS, o10⟩ ?_
  rintro _ w1 ⟨j, B1, rfl, hj, hB1, hM1, hT1, hS1, y10⟩
  have a12 : w1.cell? ⟨p10, 12, none⟩ = some cv := by rw [(cells_of_heap y10).1]; simpa using h12
  unfold n_phrasebooklaw05_SchemaEquals_c5
  by_cases hjl : j < len
  · rcases hS1 with rfl | ⟨gc, len', cc, cur, rfl, h1, h2, h3, h4, h5⟩
    · obtain ⟨A, cc, h⟩ := hlen
      have := slice_len h
      omega
    · obtain ⟨A, cc', h⟩ := hlen
      have := slice_len h
      subst this
      obtain ⟨s, hs, hsz⟩ := h5 j hjl
      have a1 : w1.cell? ⟨gc, j * 3 + 2, none⟩ = some (.string s) := by rw [(cells_of_heap h3).1]; exact hs
      have d1 : decide ((j : Int) < (len' : Int)) = true := by simp; omega
      simp (disch := first | assumption | (simp only [ONE]; done) | rfl | (simp only [SZ]; done) | omega | (simp only [SZ] at *; omega)) only [↓PR, QR, Int.reduceBEq, Int.reduceBNe, Int.reduceLT, Int.reduceLE, Int.reduceGT, Int.reduceGE, Int.reduceNeg, a12, d1]
      refine drawK_intro ?_
      have hadd : ∀ {k : Value → Prop}, qV Try.prog (EC w1.drew) (binS .add 9 true (.string s) (.string ⟨#[120]⟩)) k = k (.string (s ++ ⟨#[120]⟩)) := fun {k} => qV_of fun QP w' k => op_sadd _ _ s _ (by have : (⟨#[120]⟩ : ByteArray).size = 1 := rfl; omega)
      unfold n_phrasebooklaw05_SchemaEquals_c1
      have y10' : w1.drew.heap[p10]? = some (.cells cells.toArray TF (0, 0)) := y10
      have h3' : w1.drew.heap[gc]? = some (.cells cur TC (0, 0)) := h3
      simp (disch := first | assumption | (simp only [ONE]; done) | rfl | (simp only [SZ]; done) | omega | (simp only [SZ] at *; omega)) only [↓PR, QR, Int.reduceBEq, Int.reduceBNe, Int.reduceLT, Int.reduceLE, Int.reduceGT, Int.reduceGE, Int.reduceNeg, a12, a1, (cells_of_heap h3).2, hadd]
      have hfit : Fit TC (j * 3 + 2) (.string (s ++ ⟨#[120]⟩)) (B1 + 1) := ⟨fun h => absurd h (by decide), fun h => absurd h (by decide), fun _ => ⟨by omega, _, rfl, by rw [ByteArray.size_append]; have : (⟨#[120]⟩ : ByteArray).size = 1 := rfl; omega⟩, fun h => absurd h (by decide)⟩
      have eD : Ext w1 w1.drew := (Ext.refl w1).wdrew
      refine turnK_intro ?_
      simp (disch := first | assumption | (simp only [ONE]; done) | rfl | (simp only [SZ]; done) | omega | (simp only [SZ] at *; omega)) only [↓PR, QR, Int.reduceBEq, Int.reduceBNe, Int.reduceLT, Int.reduceLE, Int.reduceGT, Int.reduceGE, Int.reduceNeg]
      refine ⟨⟨j + 1, B1 + 1, rfl, by omega, by omega, (hM1.go eD).put h3' h1 h2 (by omega) hfit, (hT1.ext eD).put h3' hfit, ShapeS.put h3' (by omega) hfit (.inr ⟨gc, _, cc, cur, rfl, h1, h2, h3', h4, h5⟩), ?_⟩, meas_lt hjl⟩
      first | exact y10' | exact (Only.setCell w1.drew gc _ _ p10 (by omega)).trans y10'
  · obtain ⟨A, cc, rfl⟩ := hlen
    have d1 : decide ((j : Int) < (len : Int)) = false := by simp; omega
    simp (disch := first | assumption | (simp only [ONE]; done) | rfl | (simp only [SZ]; done) | omega | (simp only [SZ] at *; omega)) only [↓PR, QR, Int.reduceBEq, Int.reduceBNe, Int.reduceLT, Int.reduceLE, Int.reduceGT, Int.reduceGE, Int.reduceNeg, a12, d1]
    exact leq_terms (nf := nf) hM1 hT1 hg hgh y10 h8 hp10 (fun w' h => hK w' B1 (by omega) h)
theorem leq_fields {w : World} {d : DefD} {g cap k B : Nat} {fv : Value} {next7 : Value → World → Prop} (hM : Mid W w lo hi n B (.slice (some ⟨g, 0, none⟩) n cap) fv g k) (hk : k < n) (hn : n ≤ 70) (hB : B ≤ 4600000000000000000) (hg : lo ≤ g) (hgh : g < hi)
    (o6 : W.heap[p6]? = some (.cells (defCells d (.slice (some ⟨g, 0, none⟩) n cap)).toArray 44 (0, 0))) (h6 : p6 < lo ∨ hi ≤ p6) (hhi : hi ≤ W.heap.size)
    (hK : ∀ w' B', B' ≤ B + 40000 → Mid W w' lo hi n B' (.slice (some ⟨g, 0, none⟩) n cap) fv g k → n_phrasebooklaw05_SchemaEquals_c6 (.pointer (some ⟨p6, 0, none⟩)) (.int .i64 (k : Int)) next7 R w') :
    loop1 (fun t9 w next8 => n_phrasebooklaw05_SchemaEquals_c8 (.pointer (some ⟨p6, 0, none⟩)) (.int .i64 (k : Int)) t9 next7 next8 R w) (.int .i64 0) w := by
  obtain ⟨nf, hnf, hG0⟩ := hM.fields hk
  have hfv : ∃ A cc, fv = .slice A nf cc := by
    rcases hG0 with ⟨h, rfl⟩ | ⟨g2, cc, cur, h, _⟩
    · exact ⟨_, _, h⟩
    · exact ⟨_, _, h⟩
  refine loop1_intro (fun i w' => ∃ (q B' : Nat), i = .int .i64 q ∧ q ≤ nf ∧ B' ≤ B + q * 100 ∧ Mid W w' lo hi n B' (.slice (some ⟨g, 0, none⟩) n cap) fv g k) (fun i _ => nf - (intOf i).toNat) ⟨0, B, rfl, by omega, by omega, hM⟩ ?_
  clear hG0
  rintro _ w1 ⟨q, B1, rfl, hq, hB1, hM1⟩
  have dk : (k : Int) < (n : Int) := by omega
  have y6 := hM1.save.obj o6 h6
  have a6 : w1.cell? ⟨p6, 1, none⟩ = some (.slice (some ⟨g, 0, none⟩) n cap) := by rw [(cells_of_heap y6).1]; rfl
  obtain ⟨cm, hcm, hcmk⟩ := hM1.at_
  have a1 : w1.cell? ⟨g, k * 2 + 1, none⟩ = some fv := by rw [(cells_of_heap hcm).1]; exact hcmk
  have hfv1 : fv.oneCell' = true := by obtain ⟨A, cc, rfl⟩ := hfv; rfl
  obtain ⟨nf', hnf', hG⟩ := hM1.fields hk
  unfold n_phrasebooklaw05_SchemaEquals_c8
  by_cases hqn : q < nf
  · rcases hG with ⟨rfl, _⟩ | ⟨g2, cc, cur, rfl, h1, h2, h3, h4, h5⟩
    · obtain ⟨A, cc, h⟩ := hfv
      have := slice_len h
      omega
    · obtain ⟨A, cc', h⟩ := hfv
      have := slice_len h
      subst this
      have d1 : decide ((q : Int) < (nf' : Int)) = true := by simp; omega
      simp (disch := first | assumption | (simp only [ONE]; done) | rfl | (simp only [SZ]; done) | omega | (simp only [SZ] at *; omega)) only [↓PR, QR, Int.reduceBEq, Int.reduceBNe, Int.reduceLT, Int.reduceLE, Int.reduceGT, Int.reduceGE, Int.reduceNeg, a6, a1, d1]
      unfold n_phrasebooklaw05_SchemaEquals_c7
      obtain ⟨tv, cv, b1, hT, b2, hS⟩ := h5 q hqn
      have hcell : ∀ j, j < 15 → ∃ u, cur[q * 15 + j]? = some u ∧ u.oneCell' = true := fun j hj => h4 (q * 15 + j) (by omega)
      obtain ⟨u0, x0, z0⟩ := hcell 0 (by omega)
      obtain ⟨u1, x1, z1⟩ := hcell 1 (by omega)
      obtain ⟨u2, x2, z2⟩ := hcell 2 (by omega)
      obtain ⟨u3, x3, z3⟩ := hcell 3 (by omega)
      obtain ⟨u4, x4, z4⟩ := hcell 4 (by omega)
      obtain ⟨u5, x5, z5⟩ := hcell 5 (by omega)
      obtain ⟨u6, x6, z6⟩ := hcell 6 (by omega)
      obtain ⟨u7, x7, z7⟩ := hcell 7 (by omega)
      obtain ⟨u8, x8, z8⟩ := hcell 8 (by omega)
      obtain ⟨u9, x9, z9⟩ := hcell 9 (by omega)
      obtain ⟨u10, x10, z10⟩ := hcell 10 (by omega)
      obtain ⟨u11, x11, z11⟩ := hcell 11 (by omega)
      obtain ⟨u12, x12, z12⟩ := hcell 12 (by omega)
      obtain ⟨u13, x13, z13⟩ := hcell 13 (by omega)
      obtain ⟨u14, x14, z14⟩ := hcell 14 (by omega)
      clear hcell
      rw [b1] at x8; injection x8 with x8; subst x8
      rw [b2] at x12; injection x12 with x12; subst x12
      have hc : ∀ {j u}, cur[q * 15 + j]? = some u → w1.cell? ⟨g2, q * 15 + j, none⟩ = some u := fun h => by rw [(cells_of_heap h3).1]; exact h
      have h0 : w1.cell? ⟨g2, q * 15, none⟩ = some u0 := hc x0
      simp (disch := first | assumption | (simp only [ONE]; done) | rfl | (simp only [SZ]; done) | omega | (simp only [SZ] at *; omega)) only [↓PR, QR, Int.reduceBEq, Int.reduceBNe, Int.reduceLT, Int.reduceLE, Int.reduceGT, Int.reduceGE, Int.reduceNeg, a6, a1, h0, hc x1, hc x2, hc x3, hc x4, hc x5, hc x6, hc x7, hc b1, hc x9, hc x10, hc x11, hc b2, hc x13, hc x14]
      have eD : Ext w1 (w1.alloc (Obj.cells [u0, u1, u2, u3, u4, u5, u6, u7, tv, u9, u10, u11, cv, u13, u14].toArray TF)) := ee
      have o10 := heap_new w1 [u0, u1, u2, u3, u4, u5, u6, u7, tv, u9, u10, u11, cv, u13, u14].toArray TF
      have sz1 := hM1.save.size
      have hp : hi ≤ w1.heap.size := by omega
      have hM2 := hM1.go eD
      have hT2 := hT.ext eD
      have hS2 := hS.ext eD
      show loop1 _ _ (w1.alloc (Obj.cells [u0, u1, u2, u3, u4, u5, u6, u7, tv, u9, u10, u11, cv, u13, u14].toArray TF))
      generalize hW : (w1.alloc (Obj.cells [u0, u1, u2, u3, u4, u5, u6, u7, tv, u9, u10, u11, cv, u13, u14].toArray TF)) = w2 at eD o10 hM2 hT2 hS2 ⊢
      refine leq_cases (nf := nf') hM2 (by omega) hT2 hS2 hg hgh o10 rfl rfl hp (fun w3 B3 hB3 hM3 => ?_)
      have y6 := hM3.save.obj o6 h6
      have a6 : w3.cell? ⟨p6, 1, none⟩ = some (.slice (some ⟨g, 0, none⟩) n cap) := by rw [(cells_of_heap y6).1]; rfl
      obtain ⟨cm, hcm, hcmk⟩ := hM3.at_
      have a1 : w3.cell? ⟨g, k * 2 + 1, none⟩ = some (.slice (some ⟨g2, 0, none⟩) nf' cc) := by rw [(cells_of_heap hcm).1]; exact hcmk
      obtain ⟨nf3, hnf3, hG3⟩ := hM3.fields hk
      rcases hG3 with ⟨h, _⟩ | ⟨g3, cc3, cur3, hv3, c1, c2, c3, c4, c5⟩
      · cases h
      injection hv3 with hv3 hv4 _
      injection hv3 with hv3
      injection hv3 with hv3
      subst hv3 hv4
      have dq : (q : Int) < (nf' : Int) := by omega
      unfold n_phrasebooklaw05_SchemaEquals_c2
      obtain ⟨u, hu, _⟩ := c4 (q * 15) (by omega)
      have a0 : w3.cell? ⟨g2, q * 15, none⟩ = some u := by rw [(cells_of_heap c3).1]; exact hu
      simp (disch := first | assumption | (simp only [ONE]; done) | rfl | (simp only [SZ]; done) | omega | (simp only [SZ] at *; omega)) only [↓PR, QR, Int.reduceBEq, Int.reduceBNe, Int.reduceLT, Int.reduceLE, Int.reduceGT, Int.reduceGE, Int.reduceNeg, a6, a1, a0, (cells_of_heap c3).2]
      have hfit : Fit TF (q * 15) (.string ⟨#[63]⟩) B3 := ⟨fun h => absurd h (by decide), fun _ => ⟨by omega, rfl⟩, fun h => absurd h (by decide), fun h => absurd h (by decide)⟩
      exact ⟨⟨q + 1, B3, rfl, by omega, by omega, hM3.put c3 c1 c2 (Nat.le_refl _) hfit⟩, meas_lt hqn⟩
  · obtain ⟨A, cc, rfl⟩ := hfv
    have d1 : decide ((q : Int) < (nf : Int)) = false := by simp; omega
    simp (disch := first | assumption | (simp only [ONE]; done) | rfl | (simp only [SZ]; done) | omega | (simp only [SZ] at *; omega)) only [↓PR, QR, Int.reduceBEq, Int.reduceBNe, Int.reduceLT, Int.reduceLE, Int.reduceGT, Int.reduceGE, Int.reduceNeg, a6, a1, d1]
    exact hK w1 B1 (by have : q ≤ 400 := by omega
                       omega) hM1
theorem leq_msgs {w : World} {d : DefD} {B : Nat} {mv : Value} {t2 t7 : Value} (hS : ShapeM w lo hi B mv n) (hn : n ≤ 70) (hB : B ≤ 140737488355328)
    (o6 : w.heap[p6]? = some (.cells (defCells d mv).toArray 44 (0, 0))) (h6 : p6 < lo ∨ hi ≤ p6) (hhi : hi ≤ w.heap.size)
    (hK : ∀ w', Save lo hi w w' → n_phrasebooklaw05_SchemaEquals_c10 t2 t7 R w') :
    loop1 (fun t8 w next7 => n_phrasebooklaw05_SchemaEquals_c11 t2 (.pointer (some ⟨p6, 0, none⟩)) t7 t8 next7 R w) (.int .i64 0) w := by
  have hmv : ∃ A cc, mv = .slice A n cc := by
    rcases hS with ⟨h, rfl⟩ | ⟨g2, cc, cur, h, _⟩
    · exact ⟨_, _, h⟩
    · exact ⟨_, _, h⟩
  refine loop1_intro (fun i w' => ∃ (k B' : Nat), i = .int .i64 k ∧ k ≤ n ∧ B' ≤ B + k * 50000 ∧ Save lo hi w w' ∧ ShapeM w' lo hi B' mv n) (fun i _ => n - (intOf i).toNat) ⟨0, B, rfl, by omega, by omega, Save.refl _ _ _, hS⟩ ?_
  clear hS
  rintro _ w1 ⟨k, B1, rfl, hk, hB1, hs1, hS1⟩
  have y6 := hs1.obj o6 h6
  have a6 : w1.cell? ⟨p6, 1, none⟩ = some mv := by rw [(cells_of_heap y6).1]; rfl
  have hmv1 : mv.oneCell' = true := by obtain ⟨A, cc, rfl⟩ := hmv; rfl
  unfold n_phrasebooklaw05_SchemaEquals_c11
  by_cases hkn : k < n
  · rcases hS1 with ⟨rfl, rfl⟩ | ⟨g, cap, cur, rfl, h1, h2, h3, h4, h5⟩
    · omega
    have d1 : decide ((k : Int) < (n : Int)) = true := by simp; omega
    obtain ⟨fv, nf, b1, b2, b3⟩ := h5 k hkn
    simp (disch := first | assumption | (simp only [ONE]; done) | rfl | (simp only [SZ]; done) | omega | (simp only [SZ] at *; omega)) only [↓PR, QR, Int.reduceBEq, Int.reduceBNe, Int.reduceLT, Int.reduceLE, Int.reduceGT, Int.reduceGE, Int.reduceNeg, a6, d1]
    refine leq_fields (d := d) (B := B1) (fv := fv) ⟨hs1, .inr ⟨g, cap, cur, rfl, h1, h2, h3, h4, h5⟩, cur, h3, b1⟩ hkn hn (by omega) h1 h2 o6 h6 hhi (fun w3 B3 hB3 hM3 => ?_)
    have y6 := hM3.save.obj o6 h6
    have a6 : w3.cell? ⟨p6, 1, none⟩ = some (.slice (some ⟨g, 0, none⟩) n cap) := by rw [(cells_of_heap y6).1]; rfl
    obtain ⟨cm, hcm, hcmk⟩ := hM3.at_
    have dk : (k : Int) < (n : Int) := by omega
    unfold n_phrasebooklaw05_SchemaEquals_c6
    obtain ⟨u, hu⟩ : ∃ u, cm[k * 2]? = some u := ⟨_, Array.getElem?_eq_getElem (by have := (Array.getElem?_eq_some_iff.1 hcmk).1; omega)⟩
    have a0 : w3.cell? ⟨g, k * 2, none⟩ = some u := by rw [(cells_of_heap hcm).1]; exact hu
    simp (disch := first | assumption | (simp only [ONE]; done) | rfl | (simp only [SZ]; done) | omega | (simp only [SZ] at *; omega)) only [↓PR, QR, Int.reduceBEq, Int.reduceBNe, Int.reduceLT, Int.reduceLE, Int.reduceGT, Int.reduceGE, Int.reduceNeg, a6, a0, (cells_of_heap hcm).2]
    have hfit : Fit TM (k * 2) (.string ⟨#[63]⟩) B3 := ⟨fun _ => by omega, fun h => absurd h (by decide), fun h => absurd h (by decide), fun h => absurd h (by decide)⟩
    have hM4 := hM3.put hcm h1 h2 (Nat.le_refl _) hfit
    exact ⟨⟨k + 1, B3, rfl, by omega, by omega, hM4.save, hM4.shape⟩, meas_lt hkn⟩
  · obtain ⟨A, cc, rfl⟩ := hmv
    have d1 : decide ((k : Int) < (n : Int)) = false := by simp; omega
    simp (disch := first | assumption | (simp only [ONE]; done) | rfl | (simp only [SZ]; done) | omega | (simp only [SZ] at *; omega)) only [↓PR, QR, Int.reduceBEq, Int.reduceBNe, Int.reduceLT, Int.reduceLE, Int.reduceGT, Int.reduceGE, Int.reduceNeg, a6, d1]
    exact hK w1 hs1
end
end Go.Proofs.Ytiajhbbmgglmlaa
namespace Go.Proofs.Ytiajhbbmgglmlaa
open Sw
open Go.RowKit (intOf Below)
set_option maxRecDepth 100000
theorem EqualFunc_Field_ret (w0 : World) (v u : Value) (l m : List FieldD) (g : FuncId) (hl : FieldsOf w0 v l) (hm : FieldsOf w0 u m) (hg : Callable Try.prog g)
    (hc : ∀ w v u x y, Ext w0 w → FieldVal w v x → FieldVal w u y → Ret Try.prog g #[v, u] w fun r w' => r = .bool (decide (x = y)) ∧ Ext w w') :
    Ret Try.prog 55 #[v, u, .func (.func g) #[] #[]] w0 fun r w' => r = .bool (decide (l = m)) ∧ Ext w0 w' := by
  obtain ⟨A, c, rfl, hlc, hcm, hlm, hel⟩ := SliceOf.open hl
  obtain ⟨A', c', rfl, hlc', hcm', hlm', hel'⟩ := SliceOf.open hm
  refine n_slices_EqualFunc_api_Field_sound (R := retR _) ?_; unfold n_slices_EqualFunc_api_Field
  simp (disch := first | assumption | (simp only [ONE]; done) | rfl | (simp only [SZ]; done) | omega | (simp only [SZ] at *; omega)) only [↓PR, QR, Int.reduceBEq, Int.reduceBNe, Int.reduceLT, Int.reduceLE, Int.reduceGT, Int.reduceGE, Int.reduceNeg]
  by_cases hlen : l.length = m.length
  · have hne : ((l.length : Int) != (m.length : Int)) = false := by simp [hlen]
    simp (disch := first | assumption | (simp only [ONE]; done) | rfl | (simp only [SZ]; done) | omega | (simp only [SZ] at *; omega)) only [↓PR, QR, Int.reduceBEq, Int.reduceBNe, Int.reduceLT, Int.reduceLE, Int.reduceGT, Int.reduceGE, Int.reduceNeg, ↓n_slices_EqualFunc_api_Field_c1, ↓n_slices_EqualFunc_api_Field_c2, ↓n_slices_EqualFunc_api_Field_c3, hne]
    refine loop1_intro (fun a0 w => ∃ (k : Nat) , a0 = .int .i64 (k : Int) ∧ k ≤ l.length ∧ Ext w0 w ∧ l.take k = m.take k) (fun a0 _ => l.length - (intOf a0).toNat) ⟨0, rfl, Nat.zero_le _, ee, rfl⟩ ?_
    rintro _ w ⟨k, rfl, hk, e, hI⟩
    have se := e.size
    rcases drop_cases hk with ⟨x, hx, hd, hlt, hdec⟩ | ⟨hk, hd, hdec⟩
    · obtain ⟨b, o, cs, rfl, _, hA, hE1⟩ := hel k x hx
      obtain ⟨y, hy⟩ := getElem?_lt (l := m) (k := k) (by omega)
      obtain ⟨b', o', cs', rfl, _, hA', hE2⟩ := hel' k y hy
      have hlt' : k < m.length := by omega
      obtain ⟨tv1, cv1, rfl, hT1, hC1, ht1, hc1⟩ := hE1.op
      obtain ⟨tv2, cv2, rfl, hT2, hC2, ht2, hc2⟩ := hE2.op
      have ea : ∀ o, Ext w0 (w.alloc o) := fun o => e.alloc o
      have e1 := ea (.cells (fieldCells x tv1 cv1).toArray 28)
      simp (disch := first | assumption | (simp only [ONE]; done) | rfl | (simp only [SZ]; done) | omega | (simp only [SZ] at *; omega)) only [↓PR, QR, Int.reduceBEq, Int.reduceBNe, Int.reduceLT, Int.reduceLE, Int.reduceGT, Int.reduceGE, Int.reduceNeg, ↓n_slices_EqualFunc_api_Field_c1, ↓n_slices_EqualFunc_api_Field_c2, ↓n_slices_EqualFunc_api_Field_c3, hdec, hA.c15, hA'.c15]
      generalize hW : World.alloc (World.alloc w _) _ = W
      have e2 : Ext w0 W := by rw [← hW]; exact ee
      clear hW
      rw [callV_func hg]
      refine callK_ret (hc W _ _ x y e2 ⟨tv1, cv1, rfl, TermsOf.ext hT1 e2, CasesOf.ext hC1 e2⟩ ⟨tv2, cv2, rfl, TermsOf.ext hT2 e2, CasesOf.ext hC2 e2⟩) ?_
      rintro _ w1 ⟨rfl, e3⟩
      by_cases hxy : x = y
      · subst hxy
        simp only [decide_true]
        simp (disch := first | assumption | (simp only [ONE]; done) | rfl | (simp only [SZ]; done) | omega | (simp only [SZ] at *; omega)) only [↓PR, QR, Int.reduceBEq, Int.reduceBNe, Int.reduceLT, Int.reduceLE, Int.reduceGT, Int.reduceGE, Int.reduceNeg, ↓n_slices_EqualFunc_api_Field_c1, ↓n_slices_EqualFunc_api_Field_c2, ↓n_slices_EqualFunc_api_Field_c3]
        exact ⟨⟨k + 1, rfl, by omega, ee, by rw [List.take_add_one, List.take_add_one, hx, hy, hI]⟩, meas_lt hlt⟩
      · simp only [hxy, decide_false]
        simp (disch := first | assumption | (simp only [ONE]; done) | rfl | (simp only [SZ]; done) | omega | (simp only [SZ] at *; omega)) only [↓PR, QR, Int.reduceBEq, Int.reduceBNe, Int.reduceLT, Int.reduceLE, Int.reduceGT, Int.reduceGE, Int.reduceNeg, ↓n_slices_EqualFunc_api_Field_c1, ↓n_slices_EqualFunc_api_Field_c2, ↓n_slices_EqualFunc_api_Field_c3]
        have hne' : ¬ l = m := by
          rintro rfl
          rw [hx] at hy
          injection hy with hy
          exact hxy hy
        exact ⟨by simp [hne'], e2.trans e3⟩
    · subst hk
      simp (disch := first | assumption | (simp only [ONE]; done) | rfl | (simp only [SZ]; done) | omega | (simp only [SZ] at *; omega)) only [↓PR, QR, Int.reduceBEq, Int.reduceBNe, Int.reduceLT, Int.reduceLE, Int.reduceGT, Int.reduceGE, Int.reduceNeg, ↓n_slices_EqualFunc_api_Field_c1, ↓n_slices_EqualFunc_api_Field_c2, ↓n_slices_EqualFunc_api_Field_c3, hdec]
      rw [List.take_length, hlen, List.take_length] at hI
      exact ⟨by simp [hI], e⟩
  · have hne : ((l.length : Int) != (m.length : Int)) = true := by simp; omega
    simp (disch := first | assumption | (simp only [ONE]; done) | rfl | (simp only [SZ]; done) | omega | (simp only [SZ] at *; omega)) only [↓PR, QR, Int.reduceBEq, Int.reduceBNe, Int.reduceLT, Int.reduceLE, Int.reduceGT, Int.reduceGE, Int.reduceNeg, ↓n_slices_EqualFunc_api_Field_c1, ↓n_slices_EqualFunc_api_Field_c2, ↓n_slices_EqualFunc_api_Field_c3, hne]
    have hne' : ¬ l = m := fun h => hlen (by rw [h])
    exact ⟨by simp [hne'], Ext.refl _⟩
theorem EqualFunc_Message_ret (w0 : World) (v u : Value) (l m : List MsgD) (g : FuncId) (hl : MsgsOf w0 v l) (hm : MsgsOf w0 u m) (hg : Callable Try.prog g)
    (hc : ∀ w v u x y, Ext w0 w → MsgVal w v x → MsgVal w u y → Ret Try.prog g #[v, u] w fun r w' => r = .bool (decide (x = y)) ∧ Ext w w') :
    Ret Try.prog 53 #[v, u, .func (.func g) #[] #[]] w0 fun r w' => r = .bool (decide (l = m)) ∧ Ext w0 w' := by
  obtain ⟨A, c, rfl, hlc, hcm, hlm, hel⟩ := SliceOf.open hl
  obtain ⟨A', c', rfl, hlc', hcm', hlm', hel'⟩ := SliceOf.open hm
  refine n_slices_EqualFunc_api_Message_sound (R := retR _) ?_; unfold n_slices_EqualFunc_api_Message
  simp (disch := first | assumption | (simp only [ONE]; done) | rfl | (simp only [SZ]; done) | omega | (simp only [SZ] at *; omega)) only [↓PR, QR, Int.reduceBEq, Int.reduceBNe, Int.reduceLT, Int.reduceLE, Int.reduceGT, Int.reduceGE, Int.reduceNeg]
  by_cases hlen : l.length = m.length
  · have hne : ((l.length : Int) != (m.length : Int)) = false := by simp [hlen]
    simp (disch := first | assumption | (simp only [ONE]; done) | rfl | (simp only [SZ]; done) | omega | (simp only [SZ] at *; omega)) only [↓PR, QR, Int.reduceBEq, Int.reduceBNe, Int.reduceLT, Int.reduceLE, Int.reduceGT, Int.reduceGE, Int.reduceNeg, ↓n_slices_EqualFunc_api_Message_c1, ↓n_slices_EqualFunc_api_Message_c2, ↓n_slices_EqualFunc_api_Message_c3, hne]
    refine loop1_intro (fun a0 w => ∃ (k : Nat) , a0 = .int .i64 (k : Int) ∧ k ≤ l.length ∧ Ext w0 w ∧ l.take k = m.take k) (fun a0 _ => l.length - (intOf a0).toNat) ⟨0, rfl, Nat.zero_le _, ee, rfl⟩ ?_
    rintro _ w ⟨k, rfl, hk, e, hI⟩
    have se := e.size
    rcases drop_cases hk with ⟨x, hx, hd, hlt, hdec⟩ | ⟨hk, hd, hdec⟩
    · obtain ⟨b, o, cs, rfl, _, hA, hE1⟩ := hel k x hx
      obtain ⟨y, hy⟩ := getElem?_lt (l := m) (k := k) (by omega)
      obtain ⟨b', o', cs', rfl, _, hA', hE2⟩ := hel' k y hy
      have hlt' : k < m.length := by omega
      obtain ⟨fv1, rfl, hF1⟩ := hE1
      have ht1 := SliceOf.oneCell hF1
      obtain ⟨fv2, rfl, hF2⟩ := hE2
      have ht2 := SliceOf.oneCell hF2
      have ea : ∀ o, Ext w0 (w.alloc o) := fun o => e.alloc o
      have e1 := ea (.cells (msgCells x fv1).toArray 50)
      simp (disch := first | assumption | (simp only [ONE]; done) | rfl | (simp only [SZ]; done) | omega | (simp only [SZ] at *; omega)) only [↓PR, QR, Int.reduceBEq, Int.reduceBNe, Int.reduceLT, Int.reduceLE, Int.reduceGT, Int.reduceGE, Int.reduceNeg, ↓n_slices_EqualFunc_api_Message_c1, ↓n_slices_EqualFunc_api_Message_c2, ↓n_slices_EqualFunc_api_Message_c3, hdec, hA.c2, hA'.c2]
      generalize hW : World.alloc (World.alloc w _) _ = W
      have e2 : Ext w0 W := by rw [← hW]; exact ee
      clear hW
      rw [callV_func hg]
      refine callK_ret (hc W _ _ x y e2 ⟨fv1, rfl, FieldsOf.ext hF1 e2⟩ ⟨fv2, rfl, FieldsOf.ext hF2 e2⟩) ?_
      rintro _ w1 ⟨rfl, e3⟩
      by_cases hxy : x = y
      · subst hxy
        simp only [decide_true]
        simp (disch := first | assumption | (simp only [ONE]; done) | rfl | (simp only [SZ]; done) | omega | (simp only [SZ] at *; omega)) only [↓PR, QR, Int.reduceBEq, Int.reduceBNe, Int.reduceLT, Int.reduceLE, Int.reduceGT, Int.reduceGE, Int.reduceNeg, ↓n_slices_EqualFunc_api_Message_c1, ↓n_slices_EqualFunc_api_Message_c2, ↓n_slices_EqualFunc_api_Message_c3]
        exact ⟨⟨k + 1, rfl, by omega, ee, by rw [List.take_add_one, List.take_add_one, hx, hy, hI]⟩, meas_lt hlt⟩
      · simp only [hxy, decide_false]
        simp (disch := first | assumption | (simp only [ONE]; done) | rfl | (simp only [SZ]; done) | omega | (simp only [SZ] at *; omega)) only [↓PR, QR, Int.reduceBEq, Int.reduceBNe, Int.reduceLT, Int.reduceLE, Int.reduceGT, Int.reduceGE, Int.reduceNeg, ↓n_slices_EqualFunc_api_Message_c1, ↓n_slices_EqualFunc_api_Message_c2, ↓n_slices_EqualFunc_api_Message_c3]
        have hne' : ¬ l = m := by
          rintro rfl
          rw [hx] at hy
          injection hy with hy
          exact hxy hy
        exact ⟨by simp [hne'], e2.trans e3⟩
    · subst hk
      simp (disch := first | assumption | (simp only [ONE]; done) | rfl | (simp only [SZ]; done) | omega | (simp only [SZ] at *; omega)) only [↓PR, QR, Int.reduceBEq, Int.reduceBNe, Int.reduceLT, Int.reduceLE, Int.reduceGT, Int.reduceGE, Int.reduceNeg, ↓n_slices_EqualFunc_api_Message_c1, ↓n_slices_EqualFunc_api_Message_c2, ↓n_slices_EqualFunc_api_Message_c3, hdec]
      rw [List.take_length, hlen, List.take_length] at hI
      exact ⟨by simp [hI], e⟩
  · have hne : ((l.length : Int) != (m.length : Int)) = true := by simp; omega
    simp (disch := first | assumption | (simp only [ONE]; done) | rfl | (simp only [SZ]; done) | omega | (simp only [SZ] at *; omega)) only [↓PR, QR, Int.reduceBEq, Int.reduceBNe, Int.reduceLT, Int.reduceLE, Int.reduceGT, Int.reduceGE, Int.reduceNeg, ↓n_slices_EqualFunc_api_Message_c1, ↓n_slices_EqualFunc_api_Message_c2, ↓n_slices_EqualFunc_api_Message_c3, hne]
    have hne' : ¬ l = m := fun h => hlen (by rw [h])
    exact ⟨by simp [hne'], Ext.refl _⟩
theorem EqualS1_ret (w0 : World) (v u : Value) (x y : MsgD) (hx : MsgVal w0 v x) (hy : MsgVal w0 u y) : Ret Try.prog 54 #[v, u] w0 fun r w' => r = .bool (decide (x = y)) ∧ Ext w0 w' := by
  obtain ⟨fv, rfl, hF⟩ := hx
  obtain ⟨gv, rfl, hG⟩ := hy
  refine n_schema_Equal_1_sound (R := retR _) ?_; unfold n_schema_Equal_1
  simp (disch := first | assumption | (simp only [ONE]; done) | rfl | (simp only [SZ]; done) | omega | (simp only [SZ] at *; omega)) only [↓PR, QR, Int.reduceBEq, Int.reduceBNe, Int.reduceLT, Int.reduceLE, Int.reduceGT, Int.reduceGE, Int.reduceNeg, Sw.joinK_eq]
  generalize hW : World.alloc (World.alloc w0 _) _ = W
  have e0 : Ext w0 W := by rw [← hW]; exact ee
  have o3 : W.heap[w0.heap.size]? = some (.cells #[.string x.name, fv] 50 (0, 0)) := by rw [← hW]; simp (disch := first | assumption | (simp only [ONE]; done) | rfl | (simp only [SZ]; done) | omega | (simp only [SZ] at *; omega)) only [↓PR, QR, Int.reduceBEq, Int.reduceBNe, Int.reduceLT, Int.reduceLE, Int.reduceGT, Int.reduceGE, Int.reduceNeg]
  have o4 : W.heap[w0.heap.size + 1]? = some (.cells #[.string y.name, gv] 50 (0, 0)) := by rw [← hW]; simp (disch := first | assumption | (simp only [ONE]; done) | rfl | (simp only [SZ]; done) | omega | (simp only [SZ] at *; omega)) only [↓PR, QR, Int.reduceBEq, Int.reduceBNe, Int.reduceLT, Int.reduceLE, Int.reduceGT, Int.reduceGE, Int.reduceNeg]
  clear hW
  by_cases hn : x.name = y.name
  · simp only [hn, decide_true]
    simp (disch := first | assumption | (simp only [ONE]; done) | rfl | (simp only [SZ]; done) | omega | (simp only [SZ] at *; omega)) only [↓PR, QR, Int.reduceBEq, Int.reduceBNe, Int.reduceLT, Int.reduceLE, Int.reduceGT, Int.reduceGE, Int.reduceNeg, Sw.joinK_eq, (cells_of_heap o3).1, (cells_of_heap o4).1]
    refine callK_ret (EqualFunc_Field_ret W _ _ x.fields y.fields _ (FieldsOf.ext hF e0) (FieldsOf.ext hG e0) c56 (fun w v u a b _ hv hu => sameField_ret w v u a b hv hu)) ?_
    rintro _ w1 ⟨rfl, e1⟩
    simp (disch := first | assumption | (simp only [ONE]; done) | rfl | (simp only [SZ]; done) | omega | (simp only [SZ] at *; omega)) only [↓PR, QR, Int.reduceBEq, Int.reduceBNe, Int.reduceLT, Int.reduceLE, Int.reduceGT, Int.reduceGE, Int.reduceNeg, Sw.joinK_eq]
    refine ⟨?_, e0.trans e1⟩
    congr 1
    rw [Bool.eq_iff_iff]
    simp only [decide_eq_true_eq]
    constructor
    · intro h; cases x; cases y; simp_all
    · rintro rfl; rfl
  · simp only [hn, decide_false]
    simp (disch := first | assumption | (simp only [ONE]; done) | rfl | (simp only [SZ]; done) | omega | (simp only [SZ] at *; omega)) only [↓PR, QR, Int.reduceBEq, Int.reduceBNe, Int.reduceLT, Int.reduceLE, Int.reduceGT, Int.reduceGE, Int.reduceNeg, Sw.joinK_eq]
    have hne : ¬ x = y := by rintro rfl; exact hn rfl
    exact ⟨by simp [hne], by first | exact e0 | exact ee⟩
theorem Equal_ret (w0 : World) (v u : Value) (x y : DefD) (hx : DefVal w0 v x) (hy : DefVal w0 u y) : Ret Try.prog 31 #[v, u] w0 fun r w' => r = .bool (decide (x = y)) ∧ Ext w0 w' := by
  obtain ⟨fv, rfl, hF⟩ := hx
  obtain ⟨gv, rfl, hG⟩ := hy
  refine n_schema_Equal_sound (R := retR _) ?_; unfold n_schema_Equal
  simp (disch := first | assumption | (simp only [ONE]; done) | rfl | (simp only [SZ]; done) | omega | (simp only [SZ] at *; omega)) only [↓PR, QR, Int.reduceBEq, Int.reduceBNe, Int.reduceLT, Int.reduceLE, Int.reduceGT, Int.reduceGE, Int.reduceNeg, ↓n_schema_Equal_c1]
  generalize hW : World.alloc (World.alloc w0 _) _ = W
  have e0 : Ext w0 W := by rw [← hW]; exact ee
  have o3 : W.heap[w0.heap.size]? = some (.cells #[.string x.name, fv, .string x.start] 44 (0, 0)) := by rw [← hW]; simp (disch := first | assumption | (simp only [ONE]; done) | rfl | (simp only [SZ]; done) | omega | (simp only [SZ] at *; omega)) only [↓PR, QR, Int.reduceBEq, Int.reduceBNe, Int.reduceLT, Int.reduceLE, Int.reduceGT, Int.reduceGE, Int.reduceNeg]
  have o4 : W.heap[w0.heap.size + 1]? = some (.cells #[.string y.name, gv, .string y.start] 44 (0, 0)) := by rw [← hW]; simp (disch := first | assumption | (simp only [ONE]; done) | rfl | (simp only [SZ]; done) | omega | (simp only [SZ] at *; omega)) only [↓PR, QR, Int.reduceBEq, Int.reduceBNe, Int.reduceLT, Int.reduceLE, Int.reduceGT, Int.reduceGE, Int.reduceNeg]
  clear hW
  by_cases hn : x.name = y.name ∧ x.start = y.start
  · obtain ⟨h1, h2⟩ := hn
    simp only [h1, h2, decide_true]
    simp (disch := first | assumption | (simp only [ONE]; done) | rfl | (simp only [SZ]; done) | omega | (simp only [SZ] at *; omega)) only [↓PR, QR, Int.reduceBEq, Int.reduceBNe, Int.reduceLT, Int.reduceLE, Int.reduceGT, Int.reduceGE, Int.reduceNeg, ↓n_schema_Equal_c1, h1, h2, (cells_of_heap o3).1, (cells_of_heap o4).1]
    refine callK_ret (EqualFunc_Message_ret W _ _ x.msgs y.msgs _ (MsgsOf.ext hF e0) (MsgsOf.ext hG e0) c54 (fun w v u a b _ hv hu => EqualS1_ret w v u a b hv hu)) ?_
    rintro _ w1 ⟨rfl, e1⟩
    simp (disch := first | assumption | (simp only [ONE]; done) | rfl | (simp only [SZ]; done) | omega | (simp only [SZ] at *; omega)) only [↓PR, QR, Int.reduceBEq, Int.reduceBNe, Int.reduceLT, Int.reduceLE, Int.reduceGT, Int.reduceGE, Int.reduceNeg, ↓n_schema_Equal_c1]
    refine ⟨?_, e0.trans e1⟩
    congr 1
    rw [Bool.eq_iff_iff]
    simp only [decide_eq_true_eq]
    constructor
    · intro h; cases x; cases y; simp_all
    · rintro rfl; rfl
  · have hf : (decide (x.name = y.name) && decide (x.start = y.start)) = false := by
      rw [Bool.eq_false_iff]
      intro h
      simp at h
      exact hn h
    have hne : ¬ x = y := by rintro rfl; exact hn ⟨rfl, rfl⟩
    simp only [hf]
    simp (disch := first | assumption | (simp only [ONE]; done) | rfl | (simp only [SZ]; done) | omega | (simp only [SZ] at *; omega)) only [↓PR, QR, Int.reduceBEq, Int.reduceBNe, Int.reduceLT, Int.reduceLE, Int.reduceGT, Int.reduceGE, Int.reduceNeg, ↓n_schema_Equal_c1, hf]
    exact ⟨by simp [hne], by first | exact e0 | exact ee⟩
end Go.Proofs.Ytiajhbbmgglmlaa
namespace Go.Proofs.Ytiajhbbmgglmlaa
open Sw
open Go.RowKit (intOf Below)
set_option maxRecDepth 100000
theorem rsameCases_ret (w0 : World) (v u : Value) (l m : List CaseD) (hl : CasesOf w0 v l) (hm : CasesOf w0 u m) :
    Ret Try.prog 66 #[v, u] w0 fun r w' => r = .bool (decide (l = m)) ∧ Ext w0 w' := by
  obtain ⟨A, c, rfl, hlc, hcm, hlm, hel⟩ := SliceOf.open hl
  obtain ⟨A', c', rfl, hlc', hcm', hlm', hel'⟩ := SliceOf.open hm
  refine n_phrasebookref05_sameCases_sound (R := retR _) ?_; unfold n_phrasebookref05_sameCases
  simp (disch := first | assumption | (simp only [ONE]; done) | rfl | (simp only [SZ]; done) | omega | (simp only [SZ] at *; omega)) only [↓PR, QR, Int.reduceBEq, Int.reduceBNe, Int.reduceLT, Int.reduceLE, Int.reduceGT, Int.reduceGE, Int.reduceNeg]
  by_cases hlen : l.length = m.length
  · have hne : ((l.length : Int) != (m.length : Int)) = false := by simp [hlen]
    simp (disch := first | assumption | (simp only [ONE]; done) | rfl | (simp only [SZ]; done) | omega | (simp only [SZ] at *; omega)) only [↓PR, QR, Int.reduceBEq, Int.reduceBNe, Int.reduceLT, Int.reduceLE, Int.reduceGT, Int.reduceGE, Int.reduceNeg, hne]
    refine loop1_intro (fun a0 w => ∃ (k : Nat) , a0 = .int .i64 (k : Int) ∧ k ≤ l.length ∧ Ext w0 w ∧ l.take k = m.take k) (fun a0 _ => l.length - (intOf a0).toNat) ⟨0, rfl, Nat.zero_le _, ee, rfl⟩ ?_
    rintro _ w ⟨k, rfl, hk, e, hI⟩
    have se := e.size
    rcases drop_cases hk with ⟨x, hx, hd, hlt, hdec⟩ | ⟨hk, hd, hdec⟩
    · obtain ⟨b, o, cs, rfl, _, hA, rfl⟩ := hel k x hx
      obtain ⟨y, hy⟩ := getElem?_lt (l := m) (k := k) (by omega)
      obtain ⟨b', o', cs', rfl, _, hA', rfl⟩ := hel' k y hy
      have hlt' : k < m.length := by omega
      have eD : Ext w0 w.drew := e.wdrew
      simp (disch := first | assumption | (simp only [ONE]; done) | rfl | (simp only [SZ]; done) | omega | (simp only [SZ] at *; omega)) only [↓PR, QR, Int.reduceBEq, Int.reduceBNe, Int.reduceLT, Int.reduceLE, Int.reduceGT, Int.reduceGE, Int.reduceNeg, ↓n_phrasebookref05_sameCases_c1, ↓n_phrasebookref05_sameCases_c2, hdec]
      refine drawK_intro ?_
      simp (disch := first | assumption | (simp only [ONE]; done) | rfl | (simp only [SZ]; done) | omega | (simp only [SZ] at *; omega)) only [↓PR, QR, Int.reduceBEq, Int.reduceBNe, Int.reduceLT, Int.reduceLE, Int.reduceGT, Int.reduceGE, Int.reduceNeg, ↓n_phrasebookref05_sameCases_c1, ↓n_phrasebookref05_sameCases_c2, hA.c3, hA'.c3]
      rw [eq_Case]
      by_cases hxy : x = y
      · subst hxy
        simp only [decide_true, Bool.not_true]
        simp (disch := first | assumption | (simp only [ONE]; done) | rfl | (simp only [SZ]; done) | omega | (simp only [SZ] at *; omega)) only [↓PR, QR, Int.reduceBEq, Int.reduceBNe, Int.reduceLT, Int.reduceLE, Int.reduceGT, Int.reduceGE, Int.reduceNeg, ↓n_phrasebookref05_sameCases_c1, ↓n_phrasebookref05_sameCases_c2]
        exact ⟨⟨k + 1, rfl, by omega, ee, by rw [List.take_add_one, List.take_add_one, hx, hy, hI]⟩, meas_lt hlt⟩
      · simp only [hxy, decide_false, Bool.not_false]
        simp (disch := first | assumption | (simp only [ONE]; done) | rfl | (simp only [SZ]; done) | omega | (simp only [SZ] at *; omega)) only [↓PR, QR, Int.reduceBEq, Int.reduceBNe, Int.reduceLT, Int.reduceLE, Int.reduceGT, Int.reduceGE, Int.reduceNeg, ↓n_phrasebookref05_sameCases_c1, ↓n_phrasebookref05_sameCases_c2]
        have hne' : ¬ l = m := by
          rintro rfl
          rw [hx] at hy
          injection hy with hy
          exact hxy hy
        exact ⟨by simp [hne'], eD⟩
    · subst hk
      simp (disch := first | assumption | (simp only [ONE]; done) | rfl | (simp only [SZ]; done) | omega | (simp only [SZ] at *; omega)) only [↓PR, QR, Int.reduceBEq, Int.reduceBNe, Int.reduceLT, Int.reduceLE, Int.reduceGT, Int.reduceGE, Int.reduceNeg, ↓n_phrasebookref05_sameCases_c1, ↓n_phrasebookref05_sameCases_c2, hdec]
      rw [List.take_length, hlen, List.take_length] at hI
      exact ⟨by simp [hI], e⟩
  · have hne : ((l.length : Int) != (m.length : Int)) = true := by simp; omega
    simp (disch := first | assumption | (simp only [ONE]; done) | rfl | (simp only [SZ]; done) | omega | (simp only [SZ] at *; omega)) only [↓PR, QR, Int.reduceBEq, Int.reduceBNe, Int.reduceLT, Int.reduceLE, Int.reduceGT, Int.reduceGE, Int.reduceNeg, hne]
    have hne' : ¬ l = m := fun h => hlen (by rw [h])
    exact ⟨by simp [hne'], Ext.refl _⟩
theorem rSame_ret (w0 : World) (v u : Value) (p q : Int) (l m : List TermD) (hl : SizeVal w0 v p l) (hm : SizeVal w0 u q m) :
    Ret Try.prog 65 #[v, u] w0 fun r w' => r = .bool (decide (p = q ∧ l = m)) ∧ Ext w0 w' := by
  obtain ⟨tv, rfl, hT⟩ := hl
  obtain ⟨sv, rfl, hS⟩ := hm
  obtain ⟨A, c, rfl, hlc, hcm, hlm, hel⟩ := SliceOf.open hT
  obtain ⟨A', c', rfl, hlc', hcm', hlm', hel'⟩ := SliceOf.open hS
  refine n_phrasebookref04_Same_sound (R := retR _) ?_; unfold n_phrasebookref04_Same
  simp (disch := first | assumption | (simp only [ONE]; done) | rfl | (simp only [SZ]; done) | omega | (simp only [SZ] at *; omega)) only [↓PR, QR, Int.reduceBEq, Int.reduceBNe, Int.reduceLT, Int.reduceLE, Int.reduceGT, Int.reduceGE, Int.reduceNeg]
  by_cases hpq : p = q ∧ l.length = m.length
  · obtain ⟨h1, hlen⟩ := hpq
    have hn1 : (p != q) = false := by simp [h1]
    have hn2 : ((l.length : Int) != (m.length : Int)) = false := by simp [hlen]
    simp (disch := first | assumption | (simp only [ONE]; done) | rfl | (simp only [SZ]; done) | omega | (simp only [SZ] at *; omega)) only [↓PR, QR, Int.reduceBEq, Int.reduceBNe, Int.reduceLT, Int.reduceLE, Int.reduceGT, Int.reduceGE, Int.reduceNeg, hn1, hn2]
    generalize hW : World.alloc (World.alloc w0 _) _ = W
    have e0 : Ext w0 W := by rw [← hW]; exact ee
    have o3 : W.heap[w0.heap.size]? = some (.cells #[.int .i64 p, .slice A l.length c] 25 (0, 0)) := by rw [← hW]; simp (disch := first | assumption | (simp only [ONE]; done) | rfl | (simp only [SZ]; done) | omega | (simp only [SZ] at *; omega)) only [↓PR, QR, Int.reduceBEq, Int.reduceBNe, Int.reduceLT, Int.reduceLE, Int.reduceGT, Int.reduceGE, Int.reduceNeg]
    have o4 : W.heap[w0.heap.size + 1]? = some (.cells #[.int .i64 q, .slice A' m.length c'] 25 (0, 0)) := by rw [← hW]; simp (disch := first | assumption | (simp only [ONE]; done) | rfl | (simp only [SZ]; done) | omega | (simp only [SZ] at *; omega)) only [↓PR, QR, Int.reduceBEq, Int.reduceBNe, Int.reduceLT, Int.reduceLE, Int.reduceGT, Int.reduceGE, Int.reduceNeg]
    clear hW
    refine loop1_intro (fun a0 w => ∃ (k : Nat) , a0 = .int .i64 (k : Int) ∧ k ≤ l.length ∧ Ext W w ∧ l.take k = m.take k) (fun a0 _ => l.length - (intOf a0).toNat) ⟨0, rfl, Nat.zero_le _, ee, rfl⟩ ?_
    rintro _ w ⟨k, rfl, hk, e, hI⟩
    have se := e.size
    rcases drop_cases hk with ⟨x, hx, hd, hlt, hdec⟩ | ⟨hk, hd, hdec⟩
    · obtain ⟨b, o, cs, rfl, _, hA, rfl⟩ := hel k x hx
      obtain ⟨y, hy⟩ := getElem?_lt (l := m) (k := k) (by omega)
      obtain ⟨b', o', cs', rfl, _, hA', rfl⟩ := hel' k y hy
      have hlt' : k < m.length := by omega
      have e1 := e0.trans e
      have eD : Ext w0 w.drew := e1.wdrew
      simp (disch := first | assumption | (simp only [ONE]; done) | rfl | (simp only [SZ]; done) | omega | (simp only [SZ] at *; omega)) only [↓PR, QR, Int.reduceBEq, Int.reduceBNe, Int.reduceLT, Int.reduceLE, Int.reduceGT, Int.reduceGE, Int.reduceNeg, ↓n_phrasebookref04_Same_c1, ↓n_phrasebookref04_Same_c2, hdec, (cells_of_heap (e.obj o3)).1]
      refine drawK_intro ?_
      simp (disch := first | assumption | (simp only [ONE]; done) | rfl | (simp only [SZ]; done) | omega | (simp only [SZ] at *; omega)) only [↓PR, QR, Int.reduceBEq, Int.reduceBNe, Int.reduceLT, Int.reduceLE, Int.reduceGT, Int.reduceGE, Int.reduceNeg, ↓n_phrasebookref04_Same_c1, ↓n_phrasebookref04_Same_c2, (cells_of_heap (e.obj o3)).1, (cells_of_heap (e.obj o4)).1, hA.c2, hA'.c2]
      rw [eq_Term]
      by_cases hxy : x = y
      · subst hxy
        simp only [decide_true, Bool.not_true]
        simp (disch := first | assumption | (simp only [ONE]; done) | rfl | (simp only [SZ]; done) | omega | (simp only [SZ] at *; omega)) only [↓PR, QR, Int.reduceBEq, Int.reduceBNe, Int.reduceLT, Int.reduceLE, Int.reduceGT, Int.reduceGE, Int.reduceNeg, ↓n_phrasebookref04_Same_c1, ↓n_phrasebookref04_Same_c2]
        exact ⟨⟨k + 1, rfl, by omega, ee, by rw [List.take_add_one, List.take_add_one, hx, hy, hI]⟩, meas_lt hlt⟩
      · simp only [hxy, decide_false, Bool.not_false]
        simp (disch := first | assumption | (simp only [ONE]; done) | rfl | (simp only [SZ]; done) | omega | (simp only [SZ] at *; omega)) only [↓PR, QR, Int.reduceBEq, Int.reduceBNe, Int.reduceLT, Int.reduceLE, Int.reduceGT, Int.reduceGE, Int.reduceNeg, ↓n_phrasebookref04_Same_c1, ↓n_phrasebookref04_Same_c2]
        have hne' : ¬ l = m := by
          rintro rfl
          rw [hx] at hy
          injection hy with hy
          exact hxy hy
        exact ⟨by simp [hne'], eD⟩
    · subst hk
      simp (disch := first | assumption | (simp only [ONE]; done) | rfl | (simp only [SZ]; done) | omega | (simp only [SZ] at *; omega)) only [↓PR, QR, Int.reduceBEq, Int.reduceBNe, Int.reduceLT, Int.reduceLE, Int.reduceGT, Int.reduceGE, Int.reduceNeg, ↓n_phrasebookref04_Same_c1, ↓n_phrasebookref04_Same_c2, hdec, (cells_of_heap (e.obj o3)).1]
      rw [List.take_length, hlen, List.take_length] at hI
      exact ⟨by simp [hI, h1], e0.trans e⟩
  · have hf : ((p != q) || ((l.length : Int) != (m.length : Int))) = true := by
      by_cases h : p = q
      · simp [h]; intro h2; exact hpq ⟨h, by omega⟩
      · simp [h]
    have hne' : ¬ (p = q ∧ l = m) := by rintro ⟨h1, rfl⟩; exact hpq ⟨h1, rfl⟩
    simp only [hf]
    simp (disch := first | assumption | (simp only [ONE]; done) | rfl | (simp only [SZ]; done) | omega | (simp only [SZ] at *; omega)) only [↓PR, QR, Int.reduceBEq, Int.reduceBNe, Int.reduceLT, Int.reduceLE, Int.reduceGT, Int.reduceGE, Int.reduceNeg]
    exact ⟨by simp [hne'], ee⟩
end Go.Proofs.Ytiajhbbmgglmlaa
namespace Go.Proofs.Ytiajhbbmgglmlaa
open Sw
open Go.RowKit (intOf Below)
set_option maxRecDepth 100000
set_option maxHeartbeats 4000000 in
theorem rSameField_ret (w0 : World) (v u : Value) (f g : FieldD) (hf : FieldVal w0 v f) (hg : FieldVal w0 u g) : Ret Try.prog 52 #[v, u] w0 fun r w' => r = .bool (decide (f = g)) ∧ Ext w0 w' := by
  obtain ⟨tv, cv, rfl, hT, hC, ht1, hc1⟩ := hf.op
  obtain ⟨tv', cv', rfl, hT', hC', ht1', hc1'⟩ := hg.op
  refine n_phrasebookref05_SameField_sound (R := retR _) ?_; unfold n_phrasebookref05_SameField
  have no : ∀ w', Ext w0 w' → f ≠ g → retR (fun r w' => r = .bool (decide (f = g)) ∧ Ext w0 w') (.returned (.bool false)) w' := fun w' e h => by rw [retR_ret]; exact ⟨by rw [decide_eq_false h], e⟩
  have yes : ∀ w' b, Ext w0 w' → b = decide (f = g) → retR (fun r w' => r = .bool (decide (f = g)) ∧ Ext w0 w') (.returned (.bool b)) w' := fun w' b e h => by rw [retR_ret]; exact ⟨by rw [h], e⟩
  generalize (retR fun r w' => r = .bool (decide (f = g)) ∧ Ext w0 w') = R at no yes ⊢
  simp (disch := first | assumption | (simp only [ONE]; done) | rfl | (simp only [SZ]; done) | omega | (simp only [SZ] at *; omega)) only [↓PR, QR, Int.reduceBEq, Int.reduceBNe, Int.reduceLT, Int.reduceLE, Int.reduceGT, Int.reduceGE, Int.reduceNeg]
  have e0 : Ext w0 ((w0.alloc (Obj.cells (fieldCells f tv cv).toArray 28)).alloc (Obj.cells (fieldCells g tv' cv').toArray 28)) := ee
  have o3 := heap_new (w0.alloc (Obj.cells (fieldCells f tv cv).toArray 28)) (fieldCells g tv' cv').toArray 28
  have o2 := ((Ext.refl (w0.alloc (Obj.cells (fieldCells f tv cv).toArray 28))).alloc (Obj.cells (fieldCells g tv' cv').toArray 28)).obj (heap_new w0 (fieldCells f tv cv).toArray 28)
  rw [World.size_alloc] at o3
  generalize hp3 : w0.heap.size + 1 = p3 at o3 ⊢
  generalize hp2 : w0.heap.size = p2 at o2 ⊢
  generalize ((w0.alloc (Obj.cells (fieldCells f tv cv).toArray 28)).alloc (Obj.cells (fieldCells g tv' cv').toArray 28)) = W at e0 o2 o3 ⊢
  by_cases h1 : f.name = g.name
  case neg =>
    have d : decide (f.name = g.name) = false := by simpa using h1
    simp (disch := first | assumption | (simp only [ONE]; done) | rfl | (simp only [SZ]; done) | omega | (simp only [SZ] at *; omega)) only [↓PR, QR, Int.reduceBEq, Int.reduceBNe, Int.reduceLT, Int.reduceLE, Int.reduceGT, Int.reduceGE, Int.reduceNeg, d, ↓n_phrasebookref05_SameField_c1, ↓n_phrasebookref05_SameField_c2, ↓n_phrasebookref05_SameField_c3, ↓n_phrasebookref05_SameField_c4, ↓n_phrasebookref05_SameField_c5, ↓n_phrasebookref05_SameField_c6, ↓n_phrasebookref05_SameField_c7, ↓n_phrasebookref05_SameField_c8, ↓n_phrasebookref05_SameField_c9, ↓n_phrasebookref05_SameField_c10, ↓n_phrasebookref05_SameField_c11, ↓n_phrasebookref05_SameField_c12]
    exact no _ e0 (fun e => h1 (by rw [e]))
  have d10 : decide (f.name = g.name) = true := by simpa using h1
  simp (disch := first | assumption | (simp only [ONE]; done) | rfl | (simp only [SZ]; done) | omega | (simp only [SZ] at *; omega)) only [↓PR, QR, Int.reduceBEq, Int.reduceBNe, Int.reduceLT, Int.reduceLE, Int.reduceGT, Int.reduceGE, Int.reduceNeg, d10, (cells_of_heap o2).1, (cells_of_heap o3).1]
  by_cases h2 : f.kind = g.kind
  case neg =>
    have d : (f.kind == g.kind) = false := by simpa using h2
    simp (disch := first | assumption | (simp only [ONE]; done) | rfl | (simp only [SZ]; done) | omega | (simp only [SZ] at *; omega)) only [↓PR, QR, Int.reduceBEq, Int.reduceBNe, Int.reduceLT, Int.reduceLE, Int.reduceGT, Int.reduceGE, Int.reduceNeg, d, d10, ↓n_phrasebookref05_SameField_c1, ↓n_phrasebookref05_SameField_c2, ↓n_phrasebookref05_SameField_c3, ↓n_phrasebookref05_SameField_c4, ↓n_phrasebookref05_SameField_c5, ↓n_phrasebookref05_SameField_c6, ↓n_phrasebookref05_SameField_c7, ↓n_phrasebookref05_SameField_c8, ↓n_phrasebookref05_SameField_c9, ↓n_phrasebookref05_SameField_c10, ↓n_phrasebookref05_SameField_c11, ↓n_phrasebookref05_SameField_c12]
    exact no _ e0 (fun e => h2 (by rw [e]))
  have d11 : (f.kind == g.kind) = true := by simpa using h2
  simp (disch := first | assumption | (simp only [ONE]; done) | rfl | (simp only [SZ]; done) | omega | (simp only [SZ] at *; omega)) only [↓PR, QR, Int.reduceBEq, Int.reduceBNe, Int.reduceLT, Int.reduceLE, Int.reduceGT, Int.reduceGE, Int.reduceNeg, d11, d10, (cells_of_heap o2).1, (cells_of_heap o3).1, n_phrasebookref05_SameField_c12]
  by_cases h3 : f.bits = g.bits
  case neg =>
    have d : (f.bits == g.bits) = false := by simpa using h3
    simp (disch := first | assumption | (simp only [ONE]; done) | rfl | (simp only [SZ]; done) | omega | (simp only [SZ] at *; omega)) only [↓PR, QR, Int.reduceBEq, Int.reduceBNe, Int.reduceLT, Int.reduceLE, Int.reduceGT, Int.reduceGE, Int.reduceNeg, d, d11, ↓n_phrasebookref05_SameField_c1, ↓n_phrasebookref05_SameField_c2, ↓n_phrasebookref05_SameField_c3, ↓n_phrasebookref05_SameField_c4, ↓n_phrasebookref05_SameField_c5, ↓n_phrasebookref05_SameField_c6, ↓n_phrasebookref05_SameField_c7, ↓n_phrasebookref05_SameField_c8, ↓n_phrasebookref05_SameField_c9, ↓n_phrasebookref05_SameField_c10, ↓n_phrasebookref05_SameField_c11, ↓n_phrasebookref05_SameField_c12]
    exact no _ e0 (fun e => h3 (by rw [e]))
  have d12 : (f.bits == g.bits) = true := by simpa using h3
  simp (disch := first | assumption | (simp only [ONE]; done) | rfl | (simp only [SZ]; done) | omega | (simp only [SZ] at *; omega)) only [↓PR, QR, Int.reduceBEq, Int.reduceBNe, Int.reduceLT, Int.reduceLE, Int.reduceGT, Int.reduceGE, Int.reduceNeg, d12, d11, (cells_of_heap o2).1, (cells_of_heap o3).1, n_phrasebookref05_SameField_c11]
  by_cases h4 : f.little = g.little
  case neg =>
    have d : (f.little == g.little) = false := by simpa using h4
    simp (disch := first | assumption | (simp only [ONE]; done) | rfl | (simp only [SZ]; done) | omega | (simp only [SZ] at *; omega)) only [↓PR, QR, Int.reduceBEq, Int.reduceBNe, Int.reduceLT, Int.reduceLE, Int.reduceGT, Int.reduceGE, Int.reduceNeg, d, d12, ↓n_phrasebookref05_SameField_c1, ↓n_phrasebookref05_SameField_c2, ↓n_phrasebookref05_SameField_c3, ↓n_phrasebookref05_SameField_c4, ↓n_phrasebookref05_SameField_c5, ↓n_phrasebookref05_SameField_c6, ↓n_phrasebookref05_SameField_c7, ↓n_phrasebookref05_SameField_c8, ↓n_phrasebookref05_SameField_c9, ↓n_phrasebookref05_SameField_c10, ↓n_phrasebookref05_SameField_c11, ↓n_phrasebookref05_SameField_c12]
    exact no _ e0 (fun e => h4 (by rw [e]))
  have d13 : (f.little == g.little) = true := by simpa using h4
  simp (disch := first | assumption | (simp only [ONE]; done) | rfl | (simp only [SZ]; done) | omega | (simp only [SZ] at *; omega)) only [↓PR, QR, Int.reduceBEq, Int.reduceBNe, Int.reduceLT, Int.reduceLE, Int.reduceGT, Int.reduceGE, Int.reduceNeg, d13, d12, (cells_of_heap o2).1, (cells_of_heap o3).1, n_phrasebookref05_SameField_c10]
  by_cases h5 : f.loose = g.loose
  case neg =>
    have d : (f.loose == g.loose) = false := by simpa using h5
    simp (disch := first | assumption | (simp only [ONE]; done) | rfl | (simp only [SZ]; done) | omega | (simp only [SZ] at *; omega)) only [↓PR, QR, Int.reduceBEq, Int.reduceBNe, Int.reduceLT, Int.reduceLE, Int.reduceGT, Int.reduceGE, Int.reduceNeg, d, d13, ↓n_phrasebookref05_SameField_c1, ↓n_phrasebookref05_SameField_c2, ↓n_phrasebookref05_SameField_c3, ↓n_phrasebookref05_SameField_c4, ↓n_phrasebookref05_SameField_c5, ↓n_phrasebookref05_SameField_c6, ↓n_phrasebookref05_SameField_c7, ↓n_phrasebookref05_SameField_c8, ↓n_phrasebookref05_SameField_c9, ↓n_phrasebookref05_SameField_c10, ↓n_phrasebookref05_SameField_c11, ↓n_phrasebookref05_SameField_c12]
    exact no _ e0 (fun e => h5 (by rw [e]))
  have d14 : (f.loose == g.loose) = true := by simpa using h5
  simp (disch := first | assumption | (simp only [ONE]; done) | rfl | (simp only [SZ]; done) | omega | (simp only [SZ] at *; omega)) only [↓PR, QR, Int.reduceBEq, Int.reduceBNe, Int.reduceLT, Int.reduceLE, Int.reduceGT, Int.reduceGE, Int.reduceNeg, d14, d13, (cells_of_heap o2).1, (cells_of_heap o3).1, n_phrasebookref05_SameField_c9]
  by_cases h6 : f.low = g.low
  case neg =>
    have d : (f.low == g.low) = false := by simpa using h6
    simp (disch := first | assumption | (simp only [ONE]; done) | rfl | (simp only [SZ]; done) | omega | (simp only [SZ] at *; omega)) only [↓PR, QR, Int.reduceBEq, Int.reduceBNe, Int.reduceLT, Int.reduceLE, Int.reduceGT, Int.reduceGE, Int.reduceNeg, d, d14, ↓n_phrasebookref05_SameField_c1, ↓n_phrasebookref05_SameField_c2, ↓n_phrasebookref05_SameField_c3, ↓n_phrasebookref05_SameField_c4, ↓n_phrasebookref05_SameField_c5, ↓n_phrasebookref05_SameField_c6, ↓n_phrasebookref05_SameField_c7, ↓n_phrasebookref05_SameField_c8, ↓n_phrasebookref05_SameField_c9, ↓n_phrasebookref05_SameField_c10, ↓n_phrasebookref05_SameField_c11, ↓n_phrasebookref05_SameField_c12]
    exact no _ e0 (fun e => h6 (by rw [e]))
  have d15 : (f.low == g.low) = true := by simpa using h6
  simp (disch := first | assumption | (simp only [ONE]; done) | rfl | (simp only [SZ]; done) | omega | (simp only [SZ] at *; omega)) only [↓PR, QR, Int.reduceBEq, Int.reduceBNe, Int.reduceLT, Int.reduceLE, Int.reduceGT, Int.reduceGE, Int.reduceNeg, d15, d14, (cells_of_heap o2).1, (cells_of_heap o3).1, n_phrasebookref05_SameField_c8]
  by_cases h7 : f.high = g.high
  case neg =>
    have d : (f.high == g.high) = false := by simpa using h7
    simp (disch := first | assumption | (simp only [ONE]; done) | rfl | (simp only [SZ]; done) | omega | (simp only [SZ] at *; omega)) only [↓PR, QR, Int.reduceBEq, Int.reduceBNe, Int.reduceLT, Int.reduceLE, Int.reduceGT, Int.reduceGE, Int.reduceNeg, d, d15, ↓n_phrasebookref05_SameField_c1, ↓n_phrasebookref05_SameField_c2, ↓n_phrasebookref05_SameField_c3, ↓n_phrasebookref05_SameField_c4, ↓n_phrasebookref05_SameField_c5, ↓n_phrasebookref05_SameField_c6, ↓n_phrasebookref05_SameField_c7, ↓n_phrasebookref05_SameField_c8, ↓n_phrasebookref05_SameField_c9, ↓n_phrasebookref05_SameField_c10, ↓n_phrasebookref05_SameField_c11, ↓n_phrasebookref05_SameField_c12]
    exact no _ e0 (fun e => h7 (by rw [e]))
  have d16 : (f.high == g.high) = true := by simpa using h7
  simp (disch := first | assumption | (simp only [ONE]; done) | rfl | (simp only [SZ]; done) | omega | (simp only [SZ] at *; omega)) only [↓PR, QR, Int.reduceBEq, Int.reduceBNe, Int.reduceLT, Int.reduceLE, Int.reduceGT, Int.reduceGE, Int.reduceNeg, d16, d15, (cells_of_heap o2).1, (cells_of_heap o3).1, n_phrasebookref05_SameField_c7]
  refine callK_ret (rSame_ret _ _ _ f.base g.base f.terms g.terms ⟨_, rfl, TermsOf.ext hT e0⟩ ⟨_, rfl, TermsOf.ext hT' e0⟩) ?_
  rintro _ w1 ⟨rfl, d1⟩
  have x2 := d1.obj o2
  have x3 := d1.obj o3
  have e1 := e0.trans d1
  by_cases h8 : f.base = g.base ∧ f.terms = g.terms
  case neg =>
    have d : decide (f.base = g.base ∧ f.terms = g.terms) = false := by simpa using h8
    simp (disch := first | assumption | (simp only [ONE]; done) | rfl | (simp only [SZ]; done) | omega | (simp only [SZ] at *; omega)) only [↓PR, QR, Int.reduceBEq, Int.reduceBNe, Int.reduceLT, Int.reduceLE, Int.reduceGT, Int.reduceGE, Int.reduceNeg, d, d16, ↓n_phrasebookref05_SameField_c1, ↓n_phrasebookref05_SameField_c2, ↓n_phrasebookref05_SameField_c3, ↓n_phrasebookref05_SameField_c4, ↓n_phrasebookref05_SameField_c5, ↓n_phrasebookref05_SameField_c6, ↓n_phrasebookref05_SameField_c7, ↓n_phrasebookref05_SameField_c8, ↓n_phrasebookref05_SameField_c9, ↓n_phrasebookref05_SameField_c10, ↓n_phrasebookref05_SameField_c11, ↓n_phrasebookref05_SameField_c12]
    exact no _ e1 (fun e => h8 ⟨by rw [e], by rw [e]⟩)
  have d17 : decide (f.base = g.base ∧ f.terms = g.terms) = true := by simpa using h8
  simp (disch := first | assumption | (simp only [ONE]; done) | rfl | (simp only [SZ]; done) | omega | (simp only [SZ] at *; omega)) only [↓PR, QR, Int.reduceBEq, Int.reduceBNe, Int.reduceLT, Int.reduceLE, Int.reduceGT, Int.reduceGE, Int.reduceNeg, d17, d16, (cells_of_heap x2).1, (cells_of_heap x3).1, n_phrasebookref05_SameField_c6]
  by_cases h9 : f.of = g.of
  case neg =>
    have d : decide (f.of = g.of) = false := by simpa using h9
    simp (disch := first | assumption | (simp only [ONE]; done) | rfl | (simp only [SZ]; done) | omega | (simp only [SZ] at *; omega)) only [↓PR, QR, Int.reduceBEq, Int.reduceBNe, Int.reduceLT, Int.reduceLE, Int.reduceGT, Int.reduceGE, Int.reduceNeg, d, d17, ↓n_phrasebookref05_SameField_c1, ↓n_phrasebookref05_SameField_c2, ↓n_phrasebookref05_SameField_c3, ↓n_phrasebookref05_SameField_c4, ↓n_phrasebookref05_SameField_c5, ↓n_phrasebookref05_SameField_c6, ↓n_phrasebookref05_SameField_c7, ↓n_phrasebookref05_SameField_c8, ↓n_phrasebookref05_SameField_c9, ↓n_phrasebookref05_SameField_c10, ↓n_phrasebookref05_SameField_c11, ↓n_phrasebookref05_SameField_c12]
    exact no _ e1 (fun e => h9 (by rw [e]))
  have d18 : decide (f.of = g.of) = true := by simpa using h9
  simp (disch := first | assumption | (simp only [ONE]; done) | rfl | (simp only [SZ]; done) | omega | (simp only [SZ] at *; omega)) only [↓PR, QR, Int.reduceBEq, Int.reduceBNe, Int.reduceLT, Int.reduceLE, Int.reduceGT, Int.reduceGE, Int.reduceNeg, d18, d17, (cells_of_heap x2).1, (cells_of_heap x3).1, n_phrasebookref05_SameField_c5]
  by_cases h10 : f.tag = g.tag
  case neg =>
    have d : decide (f.tag = g.tag) = false := by simpa using h10
    simp (disch := first | assumption | (simp only [ONE]; done) | rfl | (simp only [SZ]; done) | omega | (simp only [SZ] at *; omega)) only [↓PR, QR, Int.reduceBEq, Int.reduceBNe, Int.reduceLT, Int.reduceLE, Int.reduceGT, Int.reduceGE, Int.reduceNeg, d, d18, ↓n_phrasebookref05_SameField_c1, ↓n_phrasebookref05_SameField_c2, ↓n_phrasebookref05_SameField_c3, ↓n_phrasebookref05_SameField_c4, ↓n_phrasebookref05_SameField_c5, ↓n_phrasebookref05_SameField_c6, ↓n_phrasebookref05_SameField_c7, ↓n_phrasebookref05_SameField_c8, ↓n_phrasebookref05_SameField_c9, ↓n_phrasebookref05_SameField_c10, ↓n_phrasebookref05_SameField_c11, ↓n_phrasebookref05_SameField_c12]
    exact no _ e1 (fun e => h10 (by rw [e]))
  have d19 : decide (f.tag = g.tag) = true := by simpa using h10
  simp (disch := first | assumption | (simp only [ONE]; done) | rfl | (simp only [SZ]; done) | omega | (simp only [SZ] at *; omega)) only [↓PR, QR, Int.reduceBEq, Int.reduceBNe, Int.reduceLT, Int.reduceLE, Int.reduceGT, Int.reduceGE, Int.reduceNeg, d19, d18, (cells_of_heap x2).1, (cells_of_heap x3).1, n_phrasebookref05_SameField_c4]
  by_cases h11 : f.fr = g.fr
  case neg =>
    have d : decide (f.fr = g.fr) = false := by simpa using h11
    simp (disch := first | assumption | (simp only [ONE]; done) | rfl | (simp only [SZ]; done) | omega | (simp only [SZ] at *; omega)) only [↓PR, QR, Int.reduceBEq, Int.reduceBNe, Int.reduceLT, Int.reduceLE, Int.reduceGT, Int.reduceGE, Int.reduceNeg, d, d19, ↓n_phrasebookref05_SameField_c1, ↓n_phrasebookref05_SameField_c2, ↓n_phrasebookref05_SameField_c3, ↓n_phrasebookref05_SameField_c4, ↓n_phrasebookref05_SameField_c5, ↓n_phrasebookref05_SameField_c6, ↓n_phrasebookref05_SameField_c7, ↓n_phrasebookref05_SameField_c8, ↓n_phrasebookref05_SameField_c9, ↓n_phrasebookref05_SameField_c10, ↓n_phrasebookref05_SameField_c11, ↓n_phrasebookref05_SameField_c12]
    exact no _ e1 (fun e => h11 (by rw [e]))
  have d20 : decide (f.fr = g.fr) = true := by simpa using h11
  simp (disch := first | assumption | (simp only [ONE]; done) | rfl | (simp only [SZ]; done) | omega | (simp only [SZ] at *; omega)) only [↓PR, QR, Int.reduceBEq, Int.reduceBNe, Int.reduceLT, Int.reduceLE, Int.reduceGT, Int.reduceGE, Int.reduceNeg, d20, d19, (cells_of_heap x2).1, (cells_of_heap x3).1, n_phrasebookref05_SameField_c3]
  refine callK_ret (rsameCases_ret _ _ _ f.cases g.cases (CasesOf.ext hC e1) (CasesOf.ext hC' e1)) ?_
  rintro _ w2 ⟨rfl, d2⟩
  have y2 := d2.obj x2
  have y3 := d2.obj x3
  have e2 := e1.trans d2
  by_cases h12 : f.cases = g.cases
  case neg =>
    have d : decide (f.cases = g.cases) = false := by simpa using h12
    simp (disch := first | assumption | (simp only [ONE]; done) | rfl | (simp only [SZ]; done) | omega | (simp only [SZ] at *; omega)) only [↓PR, QR, Int.reduceBEq, Int.reduceBNe, Int.reduceLT, Int.reduceLE, Int.reduceGT, Int.reduceGE, Int.reduceNeg, d, d20, ↓n_phrasebookref05_SameField_c1, ↓n_phrasebookref05_SameField_c2, ↓n_phrasebookref05_SameField_c3, ↓n_phrasebookref05_SameField_c4, ↓n_phrasebookref05_SameField_c5, ↓n_phrasebookref05_SameField_c6, ↓n_phrasebookref05_SameField_c7, ↓n_phrasebookref05_SameField_c8, ↓n_phrasebookref05_SameField_c9, ↓n_phrasebookref05_SameField_c10, ↓n_phrasebookref05_SameField_c11, ↓n_phrasebookref05_SameField_c12]
    exact no _ e2 (fun e => h12 (by rw [e]))
  have d21 : decide (f.cases = g.cases) = true := by simpa using h12
  simp (disch := first | assumption | (simp only [ONE]; done) | rfl | (simp only [SZ]; done) | omega | (simp only [SZ] at *; omega)) only [↓PR, QR, Int.reduceBEq, Int.reduceBNe, Int.reduceLT, Int.reduceLE, Int.reduceGT, Int.reduceGE, Int.reduceNeg, d21, d20, (cells_of_heap y2).1, (cells_of_heap y3).1, n_phrasebookref05_SameField_c2]
  by_cases h13 : f.check = g.check
  case neg =>
    have d : (f.check == g.check) = false := by simpa using h13
    simp (disch := first | assumption | (simp only [ONE]; done) | rfl | (simp only [SZ]; done) | omega | (simp only [SZ] at *; omega)) only [↓PR, QR, Int.reduceBEq, Int.reduceBNe, Int.reduceLT, Int.reduceLE, Int.reduceGT, Int.reduceGE, Int.reduceNeg, d, d21, ↓n_phrasebookref05_SameField_c1, ↓n_phrasebookref05_SameField_c2, ↓n_phrasebookref05_SameField_c3, ↓n_phrasebookref05_SameField_c4, ↓n_phrasebookref05_SameField_c5, ↓n_phrasebookref05_SameField_c6, ↓n_phrasebookref05_SameField_c7, ↓n_phrasebookref05_SameField_c8, ↓n_phrasebookref05_SameField_c9, ↓n_phrasebookref05_SameField_c10, ↓n_phrasebookref05_SameField_c11, ↓n_phrasebookref05_SameField_c12]
    exact no _ e2 (fun e => h13 (by rw [e]))
  have d22 : (f.check == g.check) = true := by simpa using h13
  simp (disch := first | assumption | (simp only [ONE]; done) | rfl | (simp only [SZ]; done) | omega | (simp only [SZ] at *; omega)) only [↓PR, QR, Int.reduceBEq, Int.reduceBNe, Int.reduceLT, Int.reduceLE, Int.reduceGT, Int.reduceGE, Int.reduceNeg, d22, d21, (cells_of_heap y2).1, (cells_of_heap y3).1, n_phrasebookref05_SameField_c1]
  have dl : (f.key == g.key) = decide (f = g) := by
    rw [Bool.eq_iff_iff]
    simp only [beq_iff_eq, decide_eq_true_eq]
    refine ⟨fun h14 => ?_, fun h => by rw [h]⟩
    obtain ⟨a0, a1, a2, a3, a4, a5, a6, a7, a8, a9, a10, a11, a12, a13, a14⟩ := f
    obtain ⟨b0, b1, b2, b3, b4, b5, b6, b7, b8, b9, b10, b11, b12, b13, b14⟩ := g
    obtain ⟨h8a, h8b⟩ := h8
    simp only at h1 h2 h3 h4 h5 h6 h7 h8a h8b h9 h10 h11 h12 h13 h14
    subst h1 h2 h3 h4 h5 h6 h7 h8a h8b h9 h10 h11 h12 h13 h14
    rfl
  exact yes _ _ e2 dl
set_option maxHeartbeats 4000000 in
theorem rEqual_ret (w0 : World) (v u : Value) (x y : DefD) (hx : DefVal w0 v x) (hy : DefVal w0 u y) : Ret Try.prog 30 #[v, u] w0 fun r w' => r = .bool (decide (x = y)) ∧ Ext w0 w' := by
  obtain ⟨mv, rfl, hM⟩ := hx
  obtain ⟨mv', rfl, hM'⟩ := hy
  obtain ⟨A, c, rfl, hlc, hcm, hlm, hel⟩ := SliceOf.open hM
  obtain ⟨A', c', rfl, hlc', hcm', hlm', hel'⟩ := SliceOf.open hM'
  refine n_phrasebookref05_Equal_sound (R := retR _) ?_; unfold n_phrasebookref05_Equal
  have no : ∀ w', Ext w0 w' → x ≠ y → retR (fun r w' => r = .bool (decide (x = y)) ∧ Ext w0 w') (.returned (.bool false)) w' := fun w' e h => by rw [retR_ret]; exact ⟨by rw [decide_eq_false h], e⟩
  have yes : ∀ w', Ext w0 w' → x = y → retR (fun r w' => r = .bool (decide (x = y)) ∧ Ext w0 w') (.returned (.bool true)) w' := fun w' e h => by rw [retR_ret]; exact ⟨by rw [decide_eq_true h], e⟩
  generalize (retR fun r w' => r = .bool (decide (x = y)) ∧ Ext w0 w') = R at no yes ⊢
  simp (disch := first | assumption | (simp only [ONE]; done) | rfl | (simp only [SZ]; done) | omega | (simp only [SZ] at *; omega)) only [↓PR, QR, Int.reduceBEq, Int.reduceBNe, Int.reduceLT, Int.reduceLE, Int.reduceGT, Int.reduceGE, Int.reduceNeg]
  have e0 : Ext w0 ((w0.alloc (Obj.cells (defCells x (.slice A x.msgs.length c)).toArray 44)).alloc (Obj.cells (defCells y (.slice A' y.msgs.length c')).toArray 44)) := ee
  have o3 := heap_new (w0.alloc (Obj.cells (defCells x (.slice A x.msgs.length c)).toArray 44)) (defCells y (.slice A' y.msgs.length c')).toArray 44
  have o2 := ((Ext.refl (w0.alloc (Obj.cells (defCells x (.slice A x.msgs.length c)).toArray 44))).alloc (Obj.cells (defCells y (.slice A' y.msgs.length c')).toArray 44)).obj (heap_new w0 (defCells x (.slice A x.msgs.length c)).toArray 44)
  rw [World.size_alloc] at o3
  generalize hp3 : w0.heap.size + 1 = p3 at o3 ⊢
  generalize hp2 : w0.heap.size = p2 at o2 ⊢
  generalize ((w0.alloc (Obj.cells (defCells x (.slice A x.msgs.length c)).toArray 44)).alloc (Obj.cells (defCells y (.slice A' y.msgs.length c')).toArray 44)) = W at e0 o2 o3 ⊢
  by_cases h1 : x.name = y.name
  case neg =>
    have d : (!decide (x.name = y.name)) = true := by simpa using h1
    simp (disch := first | assumption | (simp only [ONE]; done) | rfl | (simp only [SZ]; done) | omega | (simp only [SZ] at *; omega)) only [↓PR, QR, Int.reduceBEq, Int.reduceBNe, Int.reduceLT, Int.reduceLE, Int.reduceGT, Int.reduceGE, Int.reduceNeg, d, ↓n_phrasebookref05_Equal_c1, ↓n_phrasebookref05_Equal_c2, ↓n_phrasebookref05_Equal_c3, ↓n_phrasebookref05_Equal_c4, ↓n_phrasebookref05_Equal_c5, ↓n_phrasebookref05_Equal_c6, ↓n_phrasebookref05_Equal_c7, ↓n_phrasebookref05_Equal_c8, ↓n_phrasebookref05_Equal_c9]
    exact no _ e0 (fun e => h1 (by rw [e]))
  have d1 : (!decide (x.name = y.name)) = false := by simpa using h1
  by_cases h2 : x.start = y.start
  case neg =>
    have d : (!decide (x.start = y.start)) = true := by simpa using h2
    simp (disch := first | assumption | (simp only [ONE]; done) | rfl | (simp only [SZ]; done) | omega | (simp only [SZ] at *; omega)) only [↓PR, QR, Int.reduceBEq, Int.reduceBNe, Int.reduceLT, Int.reduceLE, Int.reduceGT, Int.reduceGE, Int.reduceNeg, d1, d, (cells_of_heap o2).1, (cells_of_heap o3).1, ↓n_phrasebookref05_Equal_c1, ↓n_phrasebookref05_Equal_c2, ↓n_phrasebookref05_Equal_c3, ↓n_phrasebookref05_Equal_c4, ↓n_phrasebookref05_Equal_c5, ↓n_phrasebookref05_Equal_c6, ↓n_phrasebookref05_Equal_c7, ↓n_phrasebookref05_Equal_c8, ↓n_phrasebookref05_Equal_c9]
    exact no _ e0 (fun e => h2 (by rw [e]))
  have d2 : (!decide (x.start = y.start)) = false := by simpa using h2
  by_cases h3 : x.msgs.length = y.msgs.length
  case neg =>
    have d : ((x.msgs.length : Int) != (y.msgs.length : Int)) = true := by simp; omega
    simp (disch := first | assumption | (simp only [ONE]; done) | rfl | (simp only [SZ]; done) | omega | (simp only [SZ] at *; omega)) only [↓PR, QR, Int.reduceBEq, Int.reduceBNe, Int.reduceLT, Int.reduceLE, Int.reduceGT, Int.reduceGE, Int.reduceNeg, d1, d2, d, (cells_of_heap o2).1, (cells_of_heap o3).1, n_phrasebookref05_Equal_c9]
    exact no _ e0 (fun e => h3 (by rw [e]))
  have d3 : ((x.msgs.length : Int) != (y.msgs.length : Int)) = false := by simp; omega
  simp (disch := first | assumption | (simp only [ONE]; done) | rfl | (simp only [SZ]; done) | omega | (simp only [SZ] at *; omega)) only [↓PR, QR, Int.reduceBEq, Int.reduceBNe, Int.reduceLT, Int.reduceLE, Int.reduceGT, Int.reduceGE, Int.reduceNeg, d1, d2, d3, (cells_of_heap o2).1, (cells_of_heap o3).1, n_phrasebookref05_Equal_c9]
  refine loop1_intro (fun i w' => ∃ k : Nat, i = .int .i64 k ∧ k ≤ x.msgs.length ∧ Ext W w' ∧ ∀ j, j < k → x.msgs[j]? = y.msgs[j]?) (fun i _ => x.msgs.length - (intOf i).toNat) ⟨0, rfl, by omega, Ext.refl _, fun j h => by omega⟩ ?_
  rintro _ w1 ⟨k, rfl, hk, e1, hpre⟩
  have E1 := e0.trans e1
  have x2 := e1.obj o2
  have x3 := e1.obj o3
  unfold n_phrasebookref05_Equal_c8
  rcases drop_cases hk with ⟨a, ha, hd, hlt, hdec⟩ | ⟨hk, hd, hdec⟩
  case inr =>
    simp (disch := first | assumption | (simp only [ONE]; done) | rfl | (simp only [SZ]; done) | omega | (simp only [SZ] at *; omega)) only [↓PR, QR, Int.reduceBEq, Int.reduceBNe, Int.reduceLT, Int.reduceLE, Int.reduceGT, Int.reduceGE, Int.reduceNeg, (cells_of_heap x2).1, hdec]
    refine yes _ E1 ?_
    have hl : x.msgs = y.msgs := by
      apply List.ext_getElem?
      intro j
      by_cases hj : j < k
      · exact hpre j hj
      · rw [List.getElem?_eq_none (by omega), List.getElem?_eq_none (by omega)]
    obtain ⟨a1, a2, a3⟩ := x
    obtain ⟨b1, b2, b3⟩ := y
    simp only at h1 h2 hl
    subst h1 h2 hl
    rfl
  obtain ⟨b, hb⟩ := getElem?_lt (l := y.msgs) (k := k) (by omega)
  obtain ⟨g, o, cs, rfl, hl, hA, fv, rfl, hF⟩ := hel k a ha
  obtain ⟨g', o', cs', rfl, hl', hA', fv', rfl, hF'⟩ := hel' k b hb
  have hlt' : k < y.msgs.length := by omega
  have hf1 := SliceOf.oneCell hF
  have hf1' := SliceOf.oneCell hF'
  simp (disch := first | assumption | (simp only [ONE]; done) | rfl | (simp only [SZ]; done) | omega | (simp only [SZ] at *; omega)) only [↓PR, QR, Int.reduceBEq, Int.reduceBNe, Int.reduceLT, Int.reduceLE, Int.reduceGT, Int.reduceGE, Int.reduceNeg, (cells_of_heap x2).1, hdec]
  have hD : a ≠ b → x ≠ y := fun hne e => hne (by rw [e] at ha; rw [ha] at hb; exact Option.some.inj hb)
  have main : ∀ (w4 : World) (p6 p7 : Nat), Ext w1 w4 → w4.heap[p6]? = some (.cells (msgCells a fv).toArray 50 (0, 0)) → w4.heap[p7]? = some (.cells (msgCells b fv').toArray 50 (0, 0)) →
      n_phrasebookref05_Equal_c4 (.int .i64 (k : Int)) (.pointer (some ⟨p6, 0, none⟩)) (.pointer (some ⟨p7, 0, none⟩)) (fun a0' w' => (∃ k : Nat, a0' = .int .i64 k ∧ k ≤ x.msgs.length ∧ Ext W w' ∧ ∀ j, j < k → x.msgs[j]? = y.msgs[j]?) ∧ x.msgs.length - (intOf a0').toNat < x.msgs.length - (intOf (Value.int .i64 (k : Int))).toNat) R w4 := by
    intro w4 p6 p7 e4 q6 q7
    have E4 := E1.trans e4
    unfold n_phrasebookref05_Equal_c4
    obtain ⟨A2, c2, rfl, hlc2, hcm2, hlm2, hel2⟩ := SliceOf.open hF
    obtain ⟨A3, c3, rfl, hlc3, hcm3, hlm3, hel3⟩ := SliceOf.open hF'
    by_cases m1 : a.name = b.name
    case neg =>
      have d : (!decide (a.name = b.name)) = true := by simpa using m1
      simp (disch := first | assumption | (simp only [ONE]; done) | rfl | (simp only [SZ]; done) | omega | (simp only [SZ] at *; omega)) only [↓PR, QR, Int.reduceBEq, Int.reduceBNe, Int.reduceLT, Int.reduceLE, Int.reduceGT, Int.reduceGE, Int.reduceNeg, (cells_of_heap q6).1, (cells_of_heap q7).1, d]
      exact no _ E4 (hD fun e => m1 (by rw [e]))
    have f1 : (!decide (a.name = b.name)) = false := by simpa using m1
    by_cases m2 : a.fields.length = b.fields.length
    case neg =>
      have d : ((a.fields.length : Int) != (b.fields.length : Int)) = true := by simp; omega
      simp (disch := first | assumption | (simp only [ONE]; done) | rfl | (simp only [SZ]; done) | omega | (simp only [SZ] at *; omega)) only [↓PR, QR, Int.reduceBEq, Int.reduceBNe, Int.reduceLT, Int.reduceLE, Int.reduceGT, Int.reduceGE, Int.reduceNeg, (cells_of_heap q6).1, (cells_of_heap q7).1, f1, d]
      exact no _ E4 (hD fun e => m2 (by rw [e]))
    have f2 : ((a.fields.length : Int) != (b.fields.length : Int)) = false := by simp; omega
    simp (disch := first | assumption | (simp only [ONE]; done) | rfl | (simp only [SZ]; done) | omega | (simp only [SZ] at *; omega)) only [↓PR, QR, Int.reduceBEq, Int.reduceBNe, Int.reduceLT, Int.reduceLE, Int.reduceGT, Int.reduceGE, Int.reduceNeg, (cells_of_heap q6).1, (cells_of_heap q7).1, f1, f2]
    refine loop1_intro (fun i w' => ∃ n : Nat, i = .int .i64 n ∧ n ≤ a.fields.length ∧ Ext w4 w' ∧ ∀ j, j < n → a.fields[j]? = b.fields[j]?) (fun i _ => a.fields.length - (intOf i).toNat) ⟨0, rfl, by omega, Ext.refl _, fun j h => by omega⟩ ?_
    rintro _ w5 ⟨n, rfl, hn, e5, hpre'⟩
    have E5 := E4.trans e5
    have r6 := e5.obj q6
    have r7 := e5.obj q7
    unfold n_phrasebookref05_Equal_c3
    rcases drop_cases hn with ⟨f, hf, hd', hltn, hdecn⟩ | ⟨hn, hd', hdecn⟩
    case inr =>
      simp (disch := first | assumption | (simp only [ONE]; done) | rfl | (simp only [SZ]; done) | omega | (simp only [SZ] at *; omega)) only [↓PR, QR, Int.reduceBEq, Int.reduceBNe, Int.reduceLT, Int.reduceLE, Int.reduceGT, Int.reduceGE, Int.reduceNeg, (cells_of_heap r6).1, hdecn]
      have hl : a.fields = b.fields := by
        apply List.ext_getElem?
        intro j
        by_cases hj : j < n
        · exact hpre' j hj
        · rw [List.getElem?_eq_none (by omega), List.getElem?_eq_none (by omega)]
      have hab : a = b := by
        obtain ⟨a1, a2⟩ := a
        obtain ⟨b1, b2⟩ := b
        simp only at m1 hl
        subst m1 hl
        rfl
      refine ⟨⟨k + 1, rfl, by omega, e1.trans (e4.trans e5), fun j hj => ?_⟩, meas_lt hlt⟩
      by_cases hjk : j < k
      · exact hpre j hjk
      · have : j = k := by omega
        subst this
        rw [ha, hb, hab]
    obtain ⟨f', hf'⟩ := getElem?_lt (l := b.fields) (k := n) (by omega)
    obtain ⟨g5, o5, cs5, rfl, hl5, hA5, tv, cv, rfl, hT5, hC5⟩ := hel2 n f hf
    obtain ⟨g6, o6, cs6, rfl, hl6, hA6, tv6, cv6, rfl, hT6, hC6⟩ := hel3 n f' hf'
    have hltn' : n < b.fields.length := by omega
    simp (disch := first | assumption | (simp only [ONE]; done) | rfl | (simp only [SZ]; done) | omega | (simp only [SZ] at *; omega)) only [↓PR, QR, Int.reduceBEq, Int.reduceBNe, Int.reduceLT, Int.reduceLE, Int.reduceGT, Int.reduceGE, Int.reduceNeg, (cells_of_heap r6).1, hdecn]
    refine drawK_intro ?_
    unfold n_phrasebookref05_Equal_c2
    simp (disch := first | assumption | (simp only [ONE]; done) | rfl | (simp only [SZ]; done) | omega | (simp only [SZ] at *; omega)) only [↓PR, QR, Int.reduceBEq, Int.reduceBNe, Int.reduceLT, Int.reduceLE, Int.reduceGT, Int.reduceGE, Int.reduceNeg, (cells_of_heap r6).1, (cells_of_heap r7).1, hA5.c15 E5, hA6.c15 E5]
    have eD : Ext w5 w5.drew := (Ext.refl w5).wdrew
    have ED := E5.trans eD
    refine callK_ret (rSameField_ret _ _ _ f f' ⟨tv, cv, rfl, TermsOf.ext hT5 ED, CasesOf.ext hC5 ED⟩ ⟨tv6, cv6, rfl, TermsOf.ext hT6 ED, CasesOf.ext hC6 ED⟩) ?_
    rintro _ w6 ⟨rfl, e6⟩
    unfold n_phrasebookref05_Equal_c1
    refine ⟨e6, ?_⟩
    by_cases hff : f = f'
    · rw [decide_eq_true hff]
      simp (disch := first | assumption | (simp only [ONE]; done) | rfl | (simp only [SZ]; done) | omega | (simp only [SZ] at *; omega)) only [↓PR, QR, Int.reduceBEq, Int.reduceBNe, Int.reduceLT, Int.reduceLE, Int.reduceGT, Int.reduceGE, Int.reduceNeg]
      refine ⟨⟨n + 1, rfl, by omega, e5.trans (eD.trans e6), fun j hj => ?_⟩, meas_lt hltn⟩
      by_cases hjn : j < n
      · exact hpre' j hjn
      · have : j = n := by omega
        subst this
        rw [hf, hf', hff]
    · rw [decide_eq_false hff]
      simp (disch := first | assumption | (simp only [ONE]; done) | rfl | (simp only [SZ]; done) | omega | (simp only [SZ] at *; omega)) only [↓PR, QR, Int.reduceBEq, Int.reduceBNe, Int.reduceLT, Int.reduceLE, Int.reduceGT, Int.reduceGE, Int.reduceNeg]
      refine no _ (ED.trans e6) (hD fun e => hff ?_)
      rw [e, hf'] at hf
      exact (Option.some.inj hf).symm
  refine drawK_intro ?_
  unfold n_phrasebookref05_Equal_c7
  simp (disch := first | assumption | (simp only [ONE]; done) | rfl | (simp only [SZ]; done) | omega | (simp only [SZ] at *; omega)) only [↓PR, QR, Int.reduceBEq, Int.reduceBNe, Int.reduceLT, Int.reduceLE, Int.reduceGT, Int.reduceGE, Int.reduceNeg, (cells_of_heap x2).1, (cells_of_heap x3).1, (hA.c2 E1).1, (hA.c2 E1).2, (hA'.c2 E1).1, (hA'.c2 E1).2]
  refine ⟨?_, ?_⟩
  · refine ⟨ee, ?_⟩
    unfold n_phrasebookref05_Equal_c5
    simp (disch := first | assumption | (simp only [ONE]; done) | rfl | (simp only [SZ]; done) | omega | (simp only [SZ] at *; omega)) only [↓PR, QR, Int.reduceBEq, Int.reduceBNe, Int.reduceLT, Int.reduceLE, Int.reduceGT, Int.reduceGE, Int.reduceNeg]
    refine ⟨ee, ee, turnK_intro ?_⟩
    simp only [World.size_alloc, World.size_drew]
    have q6 := ((Ext.refl (w1.drew.alloc (Obj.cells (msgCells a fv).toArray 50))).alloc (Obj.cells (msgCells b fv').toArray 50)).obj (heap_new w1.drew _ _)
    have q7 := heap_new (w1.drew.alloc (Obj.cells (msgCells a fv).toArray 50)) (msgCells b fv').toArray 50
    rw [World.size_alloc, World.size_drew] at q7
    exact main _ _ _ ee q6 q7
  · refine ⟨ee, ?_⟩
    unfold n_phrasebookref05_Equal_c6
    simp (disch := first | assumption | (simp only [ONE]; done) | rfl | (simp only [SZ]; done) | omega | (simp only [SZ] at *; omega)) only [↓PR, QR, Int.reduceBEq, Int.reduceBNe, Int.reduceLT, Int.reduceLE, Int.reduceGT, Int.reduceGE, Int.reduceNeg]
    refine ⟨ee, ee, turnK_intro ?_⟩
    simp only [World.size_alloc, World.size_drew]
    have q7 := ((Ext.refl (w1.drew.alloc (Obj.cells (msgCells b fv').toArray 50))).alloc (Obj.cells (msgCells a fv).toArray 50)).obj (heap_new w1.drew _ _)
    have q6 := heap_new (w1.drew.alloc (Obj.cells (msgCells b fv').toArray 50)) (msgCells a fv).toArray 50
    rw [World.size_alloc, World.size_drew] at q6
    exact main _ _ _ ee q6 q7
end Go.Proofs.Ytiajhbbmgglmlaa
namespace Go.Proofs.Ytiajhbbmgglmlaa
open Sw
open Go.RowKit (intOf Below)
set_option maxRecDepth 100000
def stepD (deps : List (ByteArray × Int)) (m : MsgD) : List (ByteArray × Int) := deps ++ [(m.name, depthM deps m + 1)]
def stepS (strs : List (ByteArray × Bool)) (m : MsgD) : List (ByteArray × Bool) := strs ++ [(m.name, strictM strs m)]
def depsOf (l : List MsgD) : List (ByteArray × Int) := l.foldl stepD []
def strsOf (l : List MsgD) : List (ByteArray × Bool) := l.foldl stepS []
def msgsP (deps : List (ByteArray × Int)) (strs : List (ByteArray × Bool)) (at_ : Nat) : List MsgD → Int × Int × Int
  | [] => (0, 0, 0)
  | m :: l => if (nextP deps strs m).2 = 0 then msgsP (stepD deps m) (stepS strs m) (at_ + 1) l else (at_, nextP deps strs m)
def endP (d : DefD) (r : Int × Int × Int) : Int × Int × Int := if r.2.2 = 0 then (if (lastP (depsOf d.msgs) d.start).isSome then (0, 0, 0) else (-1, -1, 11)) else r
def checkP (d : DefD) : Int × Int × Int :=
  if nameB d.name then (if 1 ≤ d.msgs.length ∧ d.msgs.length ≤ 60 then endP d (msgsP [] [] 0 d.msgs) else (-1, -1, 3)) else (-1, -1, 1)
theorem tailP_low {deps : List (ByteArray × Int)} {m : MsgD} {r : Int × Int} (h : (tailP deps m r).2 = 0) : depthM deps m < 16 := by
  unfold tailP at h
  split at h
  · split at h
    · assumption
    · exact absurd h (by decide)
  · contradiction
theorem nextP_low {deps : List (ByteArray × Int)} {strs : List (ByteArray × Bool)} {m : MsgD} (h : (nextP deps strs m).2 = 0) : depthM deps m < 16 := by
  unfold nextP at h
  split at h
  · split at h
    · exact absurd h (by decide)
    · split at h
      · exact tailP_low h
      · exact absurd h (by decide)
  · exact absurd h (by decide)
theorem Low.step {deps : List (ByteArray × Int)} {strs : List (ByteArray × Bool)} {m : MsgD} (hl : Low deps) (h : (nextP deps strs m).2 = 0) : Low (stepD deps m) := by
  intro p hp
  rcases List.mem_append.1 hp with hp | hp
  · exact hl p hp
  · simp only [List.mem_singleton] at hp
    subst hp
    have h1 := nextP_low h
    have h2 := (foldl_maxI (fun s => (lastP deps s).getD 0) (refsM m) 0 (by decide) (fun s _ => hl.get s) (by decide)).1
    exact ⟨by show 0 ≤ depthM deps m + 1; unfold depthM; omega, by show depthM deps m + 1 ≤ 16; omega⟩
def calm (d : DefD) : Prop := ∀ m ∈ d.msgs, (allRefs m.fields).length ≤ 1048576 ∧ ∀ f ∈ m.fields, f.terms.length ≤ 1048576
abbrev catchD (p3 p4 : Nat) : Deferred := { target := .fn (.func 61) #[.pointer (some ⟨p3, 0, none⟩), .pointer (some ⟨p4, 0, none⟩)], args := #[] }
theorem catch_ret {p3 p4 : Nat} {w : World} {k : FrameMode → World → Prop} (h : k .returning w) : outM Try.prog [catchD p3 p4] .returning w k := by
  refine ⟨by simp, .inr ⟨.func 61, _, 61, #[.pointer (some ⟨p3, 0, none⟩), .pointer (some ⟨p4, 0, none⟩)], rfl, ?_, ?_⟩⟩
  · exact callFunc_run c61 _ w
  · refine n_schema_examined_1_sound ?_
    unfold n_schema_examined_1
    show opV _ (binS .neq _ true .nilIface .nilIface) _ _ _
    rw [op_neqNil_none Try.underlying20]
    simp (disch := first | assumption | (simp only [ONE]; done) | rfl | (simp only [SZ]; done) | omega | (simp only [SZ] at *; omega)) only [↓PR, QR, Int.reduceBEq, Int.reduceBNe, Int.reduceLT, Int.reduceLE, Int.reduceGT, Int.reduceGE, Int.reduceNeg]
    exact h
theorem catch_pan {p3 p4 : Nat} {w : World} {k : FrameMode → World → Prop} {a f c : Int} {x0 x1 x2 y : Value} (o3 : w.heap[p3]? = some (.cells #[x0, x1, x2] 68 (0, 0))) (o4 : w.heap[p4]? = some (.cells #[y] 4 (0, 0)))
    (h : k .returning ((((w.setCell ⟨p3, 0, none⟩ (.int .i64 a)).setCell ⟨p3, 1, none⟩ (.int .i64 f)).setCell ⟨p3, 2, none⟩ (.int .i64 c)).setCell ⟨p4, 0, none⟩ (.bool true))) : outM Try.prog [catchD p3 p4] (.panicking [flawEntry a f c]) w k := by
  have hne : p3 ≠ p4 := by rintro rfl; rw [o3] at o4; cases o4
  refine ⟨by simp, .inr ⟨.func 61, _, 61, #[.pointer (some ⟨p3, 0, none⟩), .pointer (some ⟨p4, 0, none⟩)], rfl, ?_, ?_⟩⟩
  · exact callFunc_run c61 _ w
  · refine n_schema_examined_1_sound ?_
    rw [show recM (.panicking [flawEntry a f c]) = (.iface 68 (flawVal a f c), .panicking [{ v := .iface 68 (flawVal a f c), recovered := true }]) from rfl]
    unfold n_schema_examined_1
    rw [op_neqNil_some Try.underlying20]
    simp (disch := first | assumption | (simp only [ONE]; done) | rfl | (simp only [SZ]; done) | omega | (simp only [SZ] at *; omega)) only [↓PR, QR, Int.reduceBEq, Int.reduceBNe, Int.reduceLT, Int.reduceLE, Int.reduceGT, Int.reduceGE, Int.reduceNeg]
    unfold n_schema_examined_1_c1
    rw [op_assert_ok Try.underlying68 rfl]
    simp (disch := first | assumption | (simp only [ONE]; done) | rfl | (simp only [SZ]; done) | omega | (simp only [SZ] at *; omega)) only [↓PR, QR, Int.reduceBEq, Int.reduceBNe, Int.reduceLT, Int.reduceLE, Int.reduceGT, Int.reduceGE, Int.reduceNeg, (cells_of_heap o3).1, (cells_of_heap o3).2, (cells_of_heap o4).1, (cells_of_heap o4).2]
    exact h
section
variable {w0 : World}
def CkE (w : World) (cb : Nat) (deps : List (ByteArray × Int)) (strs : List (ByteArray × Bool)) : Prop := ∃ md ms dn mv ds at_ fld mn fv, w.heap[cb]? = some (.cells #[.string dn, mv, .string ds, .map (some md), .map (some ms), .int .i64 at_, .int .i64 fld, .string mn, fv] 101 (0, 0)) ∧ MapOf w md (vI deps) ∧ MapOf w ms (vB strs)
theorem CkE.other {w : World} {cb b o : Nat} {deps : List (ByteArray × Int)} {strs : List (ByteArray × Bool)} (h : CkE w cb deps strs) (hn : b ≠ cb) (v : Value) : CkE (w.setCell ⟨b, o, none⟩ v) cb deps strs := by
  obtain ⟨md, ms, dn, mv, ds, at_, fld, mn, fv, h1, h2, h3⟩ := h
  exact ⟨md, ms, dn, mv, ds, at_, fld, mn, fv, (Only.setCell w b o v cb (fun e => hn e.symm)).trans h1, h2.setCell _ _, h3.setCell _ _⟩
theorem CkE.go {w w' : World} {cb : Nat} {deps : List (ByteArray × Int)} {strs : List (ByteArray × Bool)} (h : CkE w cb deps strs) (e : Ext w w') : CkE w' cb deps strs := by
  obtain ⟨md, ms, dn, mv, ds, at_, fld, mn, fv, h1, h2, h3⟩ := h
  exact ⟨md, ms, dn, mv, ds, at_, fld, mn, fv, e.obj h1, h2.ext e, h3.ext e⟩
theorem CkO.left {a0 w : World} {cb md ms : Nat} {deps : List (ByteArray × Int)} {strs : List (ByteArray × Bool)} {at_ fld : Int} {fs : List FieldD} (h : CkO a0 w cb md ms deps strs at_ fld fs) : CkE w cb deps strs := by
  obtain ⟨dn, mv, ds, mn, fv, h1, _⟩ := h.obj
  exact ⟨md, ms, dn, mv, ds, at_, fld, mn, fv, h1, h.mdeps, h.mstrs⟩
def examK (w0 : World) (d : DefD) (r : Value) (w' : World) : Prop := Ext w0 w' ∧ ∃ cb, r = .tuple #[.pointer (some ⟨cb, 0, none⟩), flawVal (checkP d).1 (checkP d).2.1 (checkP d).2.2, .bool (decide ((checkP d).2.2 ≠ 0))] ∧
  ((checkP d).2.2 = 0 → CkE w' cb (depsOf d.msgs) (strsOf d.msgs))
abbrev resL (cb p3 p4 : Nat) : List (Option TypeId × Value) := [(none, .pointer (some ⟨cb, 0, none⟩)), (some 68, .pointer (some ⟨p3, 0, none⟩)), (some 4, .pointer (some ⟨p4, 0, none⟩))]
theorem exm_pan {w : World} {d : DefD} {cb p3 p4 : Nat} {a f c : Int} {x0 x1 x2 y : Value} (e : Ext w0 w) (h3 : w0.heap.size ≤ p3) (h4 : w0.heap.size ≤ p4) (o3 : w.heap[p3]? = some (.cells #[x0, x1, x2] 68 (0, 0))) (o4 : w.heap[p4]? = some (.cells #[y] 4 (0, 0)))
    (h : checkP d = (a, f, c)) (hc : c ≠ 0) : outQ Try.prog [catchD p3 p4] (resL cb p3 p4) (retR (examK w0 d)) [flawEntry a f c] w := by
  have hne : p3 ≠ p4 := by rintro rfl; rw [o3] at o4; cases o4
  unfold outQ
  refine catch_pan o3 o4 ?_
  have q3 := heap_set (o := 2) (heap_set (o := 1) (heap_set (o := 0) o3 (.int .i64 a)) (.int .i64 f)) (.int .i64 c)
  have e1 : Ext w0 ((((w.setCell ⟨p3, 0, none⟩ (.int .i64 a)).setCell ⟨p3, 1, none⟩ (.int .i64 f)).setCell ⟨p3, 2, none⟩ (.int .i64 c)).setCell ⟨p4, 0, none⟩ (.bool true)) := (((e.setCell h3 _).setCell h3 _).setCell h3 _).setCell h4 _
  have q4 := heap_set (o := 0) ((Only.setCell ((w.setCell ⟨p3, 0, none⟩ (.int .i64 a)).setCell ⟨p3, 1, none⟩ (.int .i64 f)) p3 2 (.int .i64 c) p4 (by omega)).trans ((Only.setCell (w.setCell ⟨p3, 0, none⟩ (.int .i64 a)) p3 1 (.int .i64 f) p4 (by omega)).trans ((Only.setCell w p3 0 (.int .i64 a) p4 (by omega)).trans o4))) (.bool true)
  have q3' := (Only.setCell _ p4 0 (.bool true) p3 hne).trans q3
  simp only [List.setIfInBounds_toArray, List.set_cons_zero, List.set_cons_succ] at q3' q4
  generalize ((((w.setCell ⟨p3, 0, none⟩ (.int .i64 a)).setCell ⟨p3, 1, none⟩ (.int .i64 f)).setCell ⟨p3, 2, none⟩ (.int .i64 c)).setCell ⟨p4, 0, none⟩ (.bool true)) = W at e1 q3' q4 ⊢
  unfold endM retV resOne resL
  simp only
  simp (disch := first | assumption | (simp only [ONE]; done) | rfl | (simp only [SZ]; done) | omega | (simp only [SZ] at *; omega)) only [↓PR, QR, Int.reduceBEq, Int.reduceBNe, Int.reduceLT, Int.reduceLE, Int.reduceGT, Int.reduceGE, Int.reduceNeg, (cells_of_heap q3').1, (cells_of_heap q4).1]
  refine ⟨e1, cb, ?_, fun h0 => ?_⟩
  · rw [h]; simp [hc]
  · rw [h] at h0; exact absurd h0 hc
theorem exm_fine {w : World} {d : DefD} {cb p3 p4 : Nat} (e : Ext w0 w) (hC : CkE w cb (depsOf d.msgs) (strsOf d.msgs)) (o3 : w.heap[p3]? = some (.cells #[.int .i64 0, .int .i64 0, .int .i64 0] 68 (0, 0))) (o4 : w.heap[p4]? = some (.cells #[.bool false] 4 (0, 0)))
    (h : checkP d = (0, 0, 0)) : outX Try.prog [catchD p3 p4] (resL cb p3 p4) (retR (examK w0 d)) w := by
  unfold outX
  refine catch_ret ?_
  unfold endM retV resOne resL
  simp only
  simp (disch := first | assumption | (simp only [ONE]; done) | rfl | (simp only [SZ]; done) | omega | (simp only [SZ] at *; omega)) only [↓PR, QR, Int.reduceBEq, Int.reduceBNe, Int.reduceLT, Int.reduceLE, Int.reduceGT, Int.reduceGE, Int.reduceNeg, (cells_of_heap o3).1, (cells_of_heap o4).1]
  refine ⟨e, cb, ?_, fun h0 => hC⟩
  rw [h]; simp
theorem callK_nxt {f : FuncId} {args : Array Value} {QP : List PanicEntry → World → Prop} {a0 w : World} {k : Value → World → Prop} {at_ : Int} {r : Int × Int} {K : World → Prop} (h : Calls Try.prog f args w (nxtR a0 at_ r K)) (hk : ∀ w', r.2 = 0 → K w' → k (.tuple #[]) w') (hp : ∀ w', Ext a0 w' → r.2 ≠ 0 → QP [flawEntry at_ r.1 r.2] w') : callK Try.prog f args QP w k :=
  callK_calls h (fun v w' h => by rcases h with ⟨e, ⟨h1, h2, h3⟩ | ⟨_, h2⟩⟩ <;> cases h2; exact hk w' h1 h3) (fun ch w' h => by rcases h with ⟨e, ⟨_, h2, _⟩ | ⟨h1, h2⟩⟩ <;> cases h2; exact hp w' e h1) (fun w' h => by rcases h with ⟨_, ⟨_, h2, _⟩ | ⟨_, h2⟩⟩ <;> cases h2)
theorem foldl_take {α β : Type} (g : β → α → β) {l : List α} {k : Nat} {x : α} (b : β) (hx : l[k]? = some x) : (l.take (k + 1)).foldl g b = g ((l.take k).foldl g b) x := by rw [take_snoc hx, List.foldl_append]; rfl
theorem exm_loop {A0 w : World} {d : DefD} {cb p1 p3 p4 md ms : Nat} {fs : List FieldD} {mv : Value} (ea : Ext w0 A0) (hM : MsgsOf A0 mv d.msgs) (ht : calm d) (hC : CkO A0 w cb md ms [] [] (-1) (-1) fs) (o1 : A0.heap[p1]? = some (.cells (defCells d mv).toArray 44 (0, 0)))
    (o3 : A0.heap[p3]? = some (.cells #[.int .i64 0, .int .i64 0, .int .i64 0] 68 (0, 0))) (o4 : A0.heap[p4]? = some (.cells #[.bool false] 4 (0, 0))) (h3 : w0.heap.size ≤ p3) (h4 : w0.heap.size ≤ p4) (hr : checkP d = endP d (msgsP [] [] 0 d.msgs)) :
    n_schema_examined_c6 (.pointer (some ⟨p1, 0, none⟩)) (.pointer (some ⟨p3, 0, none⟩)) (.pointer (some ⟨p4, 0, none⟩)) (.pointer (some ⟨cb, 0, none⟩)) [catchD p3 p4] (retR (examK w0 d)) w := by
  have pan : ∀ w' a f c, Ext A0 w' → checkP d = (a, f, c) → c ≠ 0 → outQ Try.prog [catchD p3 p4] (resL cb p3 p4) (retR (examK w0 d)) [flawEntry a f c] w' := fun w' a f c e h h0 => exm_pan (ea.trans e) h3 h4 (e.obj o3) (e.obj o4) h h0
  obtain ⟨A, c, rfl, hlc, hcm, hlm, hel⟩ := SliceOf.open hM
  unfold n_schema_examined_c6
  simp (disch := first | assumption | (simp only [ONE]; done) | rfl | (simp only [SZ]; done) | omega | (simp only [SZ] at *; omega)) only [↓PR, QR, Int.reduceBEq, Int.reduceBNe, Int.reduceLT, Int.reduceLE, Int.reduceGT, Int.reduceGE, Int.reduceNeg, (cells_of_heap (hC.ext.obj o1)).1]
  refine loop1_intro (fun i w' => ∃ (k : Nat) (at' : Int) (fs' : List FieldD), i = .int .i64 k ∧ k ≤ d.msgs.length ∧ CkO A0 w' cb md ms (depsOf (d.msgs.take k)) (strsOf (d.msgs.take k)) at' (-1) fs' ∧ Low (depsOf (d.msgs.take k)) ∧ checkP d = endP d (msgsP (depsOf (d.msgs.take k)) (strsOf (d.msgs.take k)) k (d.msgs.drop k))) (fun i _ => d.msgs.length - (intOf i).toNat) ⟨0, -1, fs, rfl, by omega, hC, (fun _ h => by cases h), hr⟩ ?_
  rintro i w' ⟨k, at', fs', rfl, hk, hC', hlow, hrk⟩
  have lw' := hC'.ext.size
  obtain ⟨dn, mv, ds, mn, fv', x1, x2⟩ := hC'.obj
  obtain ⟨n1, n2, l1, l2, l3⟩ := hC'.nd
  rcases drop_cases hk with ⟨x, hx, hd, hlt, hdec⟩ | ⟨hk, hd, hdec⟩
  · obtain ⟨b, o, cs, rfl, hl, hA, fv, rfl, hF⟩ := hel k x hx
    have hf1 := SliceOf.oneCell hF
    rw [hd] at hrk
    simp only [msgsP] at hrk
    unfold n_schema_examined_c5
    simp (disch := first | assumption | (simp only [ONE]; done) | rfl | (simp only [SZ]; done) | omega | (simp only [SZ] at *; omega)) only [↓PR, QR, Int.reduceBEq, Int.reduceBNe, Int.reduceLT, Int.reduceLE, Int.reduceGT, Int.reduceGE, Int.reduceNeg, hdec]
    unfold n_schema_examined_c4
    simp (disch := first | assumption | (simp only [ONE]; done) | rfl | (simp only [SZ]; done) | omega | (simp only [SZ] at *; omega)) only [↓PR, QR, Int.reduceBEq, Int.reduceBNe, Int.reduceLT, Int.reduceLE, Int.reduceGT, Int.reduceGE, Int.reduceNeg, (hA.c2 hC'.ext).1, (hA.c2 hC'.ext).2, (cells_of_heap x1).1, (cells_of_heap x1).2]
    have hCw := (hC'.setAt (k : Int)).go ((Ext.refl _).alloc (Obj.cells (msgCells x fv).toArray 50))
    refine callK_nxt (next_flw (m := x) hlow hCw _ ⟨fv, rfl, hF⟩ (ht x (List.mem_of_getElem? hx)).1 (ht x (List.mem_of_getElem? hx)).2 (fun w' => CkO A0 w' cb md ms (stepD (depsOf (d.msgs.take k)) x) (stepS (strsOf (d.msgs.take k)) x) k (-1) x.fields) (fun w' h => h)) (fun w5 h0 hC5 => ?_) (fun w5 e5 h0 => ?_)
    · rw [if_pos h0] at hrk
      have hd1 : depsOf (d.msgs.take (k + 1)) = stepD (depsOf (d.msgs.take k)) x := foldl_take stepD [] hx
      have hs1 : strsOf (d.msgs.take (k + 1)) = stepS (strsOf (d.msgs.take k)) x := foldl_take stepS [] hx
      rw [← hd1, ← hs1] at hrk hC5
      have hlow' : Low (depsOf (d.msgs.take (k + 1))) := by rw [hd1]; exact hlow.step h0
      simp (disch := first | assumption | (simp only [ONE]; done) | rfl | (simp only [SZ]; done) | omega | (simp only [SZ] at *; omega)) only [↓PR, QR, Int.reduceBEq, Int.reduceBNe, Int.reduceLT, Int.reduceLE, Int.reduceGT, Int.reduceGE, Int.reduceNeg]
      exact ⟨⟨k + 1, k, x.fields, rfl, by omega, hC5, hlow', hrk⟩, meas_lt hlt⟩
    · rw [if_neg h0] at hrk
      refine pan _ _ _ _ e5 ?_ h0
      rw [hrk]
      unfold endP
      rw [if_neg h0]
  · subst hk
    rw [hd] at hrk
    rw [List.take_length] at hC' hrk
    unfold n_schema_examined_c5
    simp (disch := first | assumption | (simp only [ONE]; done) | rfl | (simp only [SZ]; done) | omega | (simp only [SZ] at *; omega)) only [↓PR, QR, Int.reduceBEq, Int.reduceBNe, Int.reduceLT, Int.reduceLE, Int.reduceGT, Int.reduceGE, Int.reduceNeg, hdec]
    unfold n_schema_examined_c3
    simp (disch := first | assumption | (simp only [ONE]; done) | rfl | (simp only [SZ]; done) | omega | (simp only [SZ] at *; omega)) only [↓PR, QR, Int.reduceBEq, Int.reduceBNe, Int.reduceLT, Int.reduceLE, Int.reduceGT, Int.reduceGE, Int.reduceNeg, (cells_of_heap x1).1, (cells_of_heap x1).2]
    have hC2 := hC'.setAt (-1)
    generalize (w'.setCell ⟨cb, 5, none⟩ (.int .i64 (-1))) = W at hC2 ⊢
    clear x1 x2 hC'
    obtain ⟨dn, mv, ds, mn, fv', x1, x2⟩ := hC2.obj
    refine drawK_intro ?_
    have eD : Ext W W.drew := (Ext.refl W).wdrew
    unfold n_schema_examined_c2
    simp (disch := first | assumption | (simp only [ONE]; done) | rfl | (simp only [SZ]; done) | omega | (simp only [SZ] at *; omega)) only [↓PR, QR, Int.reduceBEq, Int.reduceBNe, Int.reduceLT, Int.reduceLE, Int.reduceGT, Int.reduceGE, Int.reduceNeg, (cells_of_heap x1).1, (cells_of_heap (hC2.ext.obj o1)).1]
    rw [qV_lookupE Try.underlying98 Try.underlying9 ty3 (hC2.mdeps.ext eD) d.start]
    have hsome : (lastOf (vI (depsOf d.msgs)) d.start).isSome = (lastP (depsOf d.msgs) d.start).isSome := by rw [lastOf_vI, Option.isSome_map]
    rw [hsome]
    simp only [msgsP, endP, if_true] at hrk
    simp (disch := first | assumption | (simp only [ONE]; done) | rfl | (simp only [SZ]; done) | omega | (simp only [SZ] at *; omega)) only [↓PR, QR, Int.reduceBEq, Int.reduceBNe, Int.reduceLT, Int.reduceLE, Int.reduceGT, Int.reduceGE, Int.reduceNeg]
    refine callK_flw (need_flw (hC2.go eD).chk _ 11 (by decide)) (fun w5 e5 h0 => ?_) (fun w5 e5 h0 => ?_)
    · have hs := needC_zero (by decide) h0
      rw [hs, if_pos rfl] at hrk
      have hC5 := hC2.go (eD.trans e5)
      have y3 := hC5.ext.obj o3
      have y4 := hC5.ext.obj o4
      have ne34 : p3 ≠ p4 := by rintro rfl; rw [o3] at o4; cases o4
      unfold n_schema_examined_c1
      simp (disch := first | assumption | (simp only [ONE]; done) | rfl | (simp only [SZ]; done) | omega | (simp only [SZ] at *; omega)) only [↓PR, QR, Int.reduceBEq, Int.reduceBNe, Int.reduceLT, Int.reduceLE, Int.reduceGT, Int.reduceGE, Int.reduceNeg, (cells_of_heap y3).1, (cells_of_heap y3).2, (cells_of_heap y4).1, (cells_of_heap y4).2]
      have c3 : p3 ≠ cb := by have := hC5.lcb; have := (Array.getElem?_eq_some_iff.1 o3).1; omega
      have c4 : p4 ≠ cb := by have := hC5.lcb; have := (Array.getElem?_eq_some_iff.1 o4).1; omega
      have q3 := heap_set (o := 2) (heap_set (o := 1) (heap_set (o := 0) y3 (.int .i64 0)) (.int .i64 0)) (.int .i64 0)
      have q4 := heap_set (o := 0) ((Only.setCell ((w5.setCell ⟨p3, 0, none⟩ (.int .i64 0)).setCell ⟨p3, 1, none⟩ (.int .i64 0)) p3 2 (.int .i64 0) p4 (by omega)).trans ((Only.setCell (w5.setCell ⟨p3, 0, none⟩ (.int .i64 0)) p3 1 (.int .i64 0) p4 (by omega)).trans ((Only.setCell w5 p3 0 (.int .i64 0) p4 (by omega)).trans y4))) (.bool false)
      have q3' := (Only.setCell _ p4 0 (.bool false) p3 ne34).trans q3
      exact exm_fine (((((ea.trans hC5.ext).setCell h3 _).setCell h3 _).setCell h3 _).setCell h4 _) ((((hC5.left.other c3 _).other c3 _).other c3 _).other c4 _) (by simpa using q3') (by simpa using q4) hrk
    · have hs : (lastP (depsOf d.msgs) d.start).isSome = false := by
        cases hq : (lastP (depsOf d.msgs) d.start).isSome with
        | false => rfl
        | true => rw [hq] at h0; exact absurd rfl h0
      rw [hs, if_neg (by simp)] at hrk
      rw [hs]
      exact pan _ _ _ _ (hC2.ext.trans (eD.trans e5)) hrk (by decide)
theorem examined_ret (v : Value) (d : DefD) (hd : DefVal w0 v d) (ht : calm d) : Ret Try.prog 47 #[v] w0 (examK w0 d) := by
  obtain ⟨mv, rfl, hM⟩ := hd
  have hm1 := SliceOf.oneCell hM
  refine n_schema_examined_sound (R := retR _) ?_; unfold n_schema_examined
  simp (disch := first | assumption | (simp only [ONE]; done) | rfl | (simp only [SZ]; done) | omega | (simp only [SZ] at *; omega)) only [↓PR, QR, Int.reduceBEq, Int.reduceBNe, Int.reduceLT, Int.reduceLE, Int.reduceGT, Int.reduceGE, Int.reduceNeg]
  refine ⟨catchD (w0.heap.size + 1) (w0.heap.size + 1 + 1), _, rfl, ?_⟩
  simp only [World.size_alloc]
  generalize hA0 : ((w0.alloc (Obj.cells (defCells d mv).toArray 44)).alloc (Obj.cells #[.int .i64 0, .int .i64 0, .int .i64 0] 68)).alloc (Obj.cells #[.bool false] 4) = A0
  have ea : Ext w0 A0 := by rw [← hA0]; exact ee
  have o1 : A0.heap[w0.heap.size]? = some (.cells (defCells d mv).toArray 44 (0, 0)) := by rw [← hA0]; simp (disch := first | assumption | (simp only [ONE]; done) | rfl | (simp only [SZ]; done) | omega | (simp only [SZ] at *; omega)) only [↓PR, QR, Int.reduceBEq, Int.reduceBNe, Int.reduceLT, Int.reduceLE, Int.reduceGT, Int.reduceGE, Int.reduceNeg]
  have o3 : A0.heap[w0.heap.size + 1]? = some (.cells #[.int .i64 0, .int .i64 0, .int .i64 0] 68 (0, 0)) := by rw [← hA0]; simp (disch := first | assumption | (simp only [ONE]; done) | rfl | (simp only [SZ]; done) | omega | (simp only [SZ] at *; omega)) only [↓PR, QR, Int.reduceBEq, Int.reduceBNe, Int.reduceLT, Int.reduceLE, Int.reduceGT, Int.reduceGE, Int.reduceNeg]
  have o4 : A0.heap[w0.heap.size + 1 + 1]? = some (.cells #[.bool false] 4 (0, 0)) := by rw [← hA0]; simp (disch := first | assumption | (simp only [ONE]; done) | rfl | (simp only [SZ]; done) | omega | (simp only [SZ] at *; omega)) only [↓PR, QR, Int.reduceBEq, Int.reduceBNe, Int.reduceLT, Int.reduceLE, Int.reduceGT, Int.reduceGE, Int.reduceNeg]
  have hsz : A0.heap.size = w0.heap.size + 1 + 1 + 1 := by rw [← hA0]; simp only [World.size_alloc]
  clear hA0
  have hC : CkO A0 (((A0.alloc (Obj.map #[] 0)).alloc (Obj.map #[] 0)).alloc (Obj.cells #[.string d.name, mv, .string d.start, .map (some (w0.heap.size + 1 + 1 + 1)), .map (some (w0.heap.size + 1 + 1 + 1 + 1)), .int .i64 (-1), .int .i64 (-1), .string ByteArray.empty, .slice none 0 0] 101)) (w0.heap.size + 1 + 1 + 1 + 1 + 1) (w0.heap.size + 1 + 1 + 1) (w0.heap.size + 1 + 1 + 1 + 1) [] [] (-1) (-1) [] := by
    refine ⟨ee, ⟨d.name, mv, d.start, ByteArray.empty, .slice none 0 0, ?_, SliceOf.nil _ _ _⟩, ?_, ?_, by omega, by omega, by omega, by omega⟩
    · have := heap_new ((A0.alloc (Obj.map #[] 0)).alloc (Obj.map #[] 0)) #[.string d.name, mv, .string d.start, .map (some (w0.heap.size + 1 + 1 + 1)), .map (some (w0.heap.size + 1 + 1 + 1 + 1)), .int .i64 (-1), .int .i64 (-1), .string ByteArray.empty, .slice none 0 0] 101
      simp only [World.size_alloc, hsz] at this
      exact this
    · have := (MapOf.new A0).ext (((Ext.refl _).alloc (Obj.map #[] 0)).alloc (Obj.cells #[.string d.name, mv, .string d.start, .map (some (w0.heap.size + 1 + 1 + 1)), .map (some (w0.heap.size + 1 + 1 + 1 + 1)), .int .i64 (-1), .int .i64 (-1), .string ByteArray.empty, .slice none 0 0] 101))
      simp only [World.size_alloc, hsz] at this
      exact this
    · have := (MapOf.new (A0.alloc (Obj.map #[] 0))).ext ((Ext.refl _).alloc (Obj.cells #[.string d.name, mv, .string d.start, .map (some (w0.heap.size + 1 + 1 + 1)), .map (some (w0.heap.size + 1 + 1 + 1 + 1)), .int .i64 (-1), .int .i64 (-1), .string ByteArray.empty, .slice none 0 0] 101))
      simp only [World.size_alloc, hsz] at this
      exact this
  generalize (((A0.alloc (Obj.map #[] 0)).alloc (Obj.map #[] 0)).alloc (Obj.cells #[.string d.name, mv, .string d.start, .map (some (w0.heap.size + 1 + 1 + 1)), .map (some (w0.heap.size + 1 + 1 + 1 + 1)), .int .i64 (-1), .int .i64 (-1), .string ByteArray.empty, .slice none 0 0] 101)) = W at hC ⊢
  generalize hcb : w0.heap.size + 1 + 1 + 1 + 1 + 1 = cb at hC ⊢
  generalize hmd : w0.heap.size + 1 + 1 + 1 = md at hC hsz
  generalize hms : w0.heap.size + 1 + 1 + 1 + 1 = ms at hC
  generalize hp3 : w0.heap.size + 1 + 1 = p4 at o4 ⊢
  generalize hp4 : w0.heap.size + 1 = p3 at o3 ⊢
  have l3 : w0.heap.size ≤ p3 := by omega
  have l4 : w0.heap.size ≤ p4 := by omega
  simp (disch := first | assumption | (simp only [ONE]; done) | rfl | (simp only [SZ]; done) | omega | (simp only [SZ] at *; omega)) only [↓PR, QR, Int.reduceBEq, Int.reduceBNe, Int.reduceLT, Int.reduceLE, Int.reduceGT, Int.reduceGE, Int.reduceNeg, (cells_of_heap (hC.ext.obj o1)).1]
  refine callK_ret (Name_ret _ d.name) ?_
  rintro _ w1 ⟨rfl, e1⟩
  have hC1 := hC.go e1
  have pan : ∀ w' a f c, Ext A0 w' → checkP d = (a, f, c) → c ≠ 0 → outQ Try.prog [catchD p3 p4] (resL cb p3 p4) (retR (examK w0 d)) [flawEntry a f c] w' := fun w' a f c e h h0 => exm_pan (ea.trans e) l3 l4 (e.obj o3) (e.obj o4) h h0
  generalize hr : checkP d = r
  have hr' := hr
  unfold checkP at hr
  refine callK_flw (need_flw hC1.chk _ 1 (by decide)) (fun w2 e2 h0 => ?_) (fun w2 e2 h0 => ?_)
  · have hn : nameB d.name = true := needC_zero (by decide) h0
    rw [if_pos hn] at hr
    have hC2 := hC1.go e2
    have fin : ∀ b, b = decide (1 ≤ d.msgs.length ∧ d.msgs.length ≤ 60) → callK Try.prog 62 #[.pointer (some ⟨cb, 0, none⟩), .bool b, .int .i64 3] (outQ Try.prog [catchD p3 p4] (resL cb p3 p4) (retR (examK w0 d))) w2 (fun _ w => n_schema_examined_c6 (.pointer (some ⟨w0.heap.size, 0, none⟩)) (.pointer (some ⟨p3, 0, none⟩)) (.pointer (some ⟨p4, 0, none⟩)) (.pointer (some ⟨cb, 0, none⟩)) [catchD p3 p4] (retR (examK w0 d)) w) := by
      rintro b rfl
      refine callK_flw (need_flw hC2.chk _ 3 (by decide)) (fun w3 e3 h0 => ?_) (fun w3 e3 h0 => ?_)
      · have hl := needC_zero (by decide) h0
        simp only [decide_eq_true_eq] at hl
        rw [if_pos hl] at hr
        exact exm_loop ea (hM.ext ea) ht (hC2.go e3) o1 o3 o4 l3 l4 (hr'.trans hr.symm)
      · by_cases hl : 1 ≤ d.msgs.length ∧ d.msgs.length ≤ 60
        · rw [decide_eq_true hl] at h0; exact absurd rfl h0
        · rw [if_neg hl] at hr
          rw [decide_eq_false hl]
          exact pan _ _ _ _ (hC2.ext.trans e3) (hr'.trans hr.symm) (by decide)
    obtain ⟨A, c, rfl, hlc, hcm, hlm, hel⟩ := SliceOf.open hM
    have x1 := hC2.ext.obj o1
    unfold n_schema_examined_c9
    by_cases h1l : 1 ≤ d.msgs.length
    · have d1 : decide ((d.msgs.length : Int) ≥ 1) = true := by simp; omega
      by_cases h2l : d.msgs.length ≤ 60
      · have d2 : decide ((d.msgs.length : Int) ≤ 60) = true := by simp; omega
        simp (disch := first | assumption | (simp only [ONE]; done) | rfl | (simp only [SZ]; done) | omega | (simp only [SZ] at *; omega)) only [↓PR, QR, Int.reduceBEq, Int.reduceBNe, Int.reduceLT, Int.reduceLE, Int.reduceGT, Int.reduceGE, Int.reduceNeg, (cells_of_heap x1).1, d1, d2, ↓n_schema_examined_c1, ↓n_schema_examined_c2, ↓n_schema_examined_c3, ↓n_schema_examined_c4, ↓n_schema_examined_c5, ↓n_schema_examined_c6, ↓n_schema_examined_c7, ↓n_schema_examined_c8, ↓n_schema_examined_c9]
        exact fin _ (by simp [h1l, h2l])
      · have d2 : decide ((d.msgs.length : Int) ≤ 60) = false := by simp; omega
        simp (disch := first | assumption | (simp only [ONE]; done) | rfl | (simp only [SZ]; done) | omega | (simp only [SZ] at *; omega)) only [↓PR, QR, Int.reduceBEq, Int.reduceBNe, Int.reduceLT, Int.reduceLE, Int.reduceGT, Int.reduceGE, Int.reduceNeg, (cells_of_heap x1).1, d1, d2, ↓n_schema_examined_c1, ↓n_schema_examined_c2, ↓n_schema_examined_c3, ↓n_schema_examined_c4, ↓n_schema_examined_c5, ↓n_schema_examined_c6, ↓n_schema_examined_c7, ↓n_schema_examined_c8, ↓n_schema_examined_c9]
        exact fin _ (by simp [h2l])
    · have d1 : decide ((d.msgs.length : Int) ≥ 1) = false := by simp; omega
      simp (disch := first | assumption | (simp only [ONE]; done) | rfl | (simp only [SZ]; done) | omega | (simp only [SZ] at *; omega)) only [↓PR, QR, Int.reduceBEq, Int.reduceBNe, Int.reduceLT, Int.reduceLE, Int.reduceGT, Int.reduceGE, Int.reduceNeg, (cells_of_heap x1).1, d1, ↓n_schema_examined_c1, ↓n_schema_examined_c2, ↓n_schema_examined_c3, ↓n_schema_examined_c4, ↓n_schema_examined_c5, ↓n_schema_examined_c6, ↓n_schema_examined_c7, ↓n_schema_examined_c8, ↓n_schema_examined_c9]
      exact fin _ (by simp [h1l])
  · have hn : nameB d.name = false := by
      cases hq : nameB d.name with
      | false => rfl
      | true => rw [hq] at h0; exact absurd rfl h0
    rw [hn, if_neg (by simp)] at hr
    rw [hn]
    exact pan _ _ _ _ (hC1.ext.trans e2) (hr'.trans hr.symm) (by decide)
end
end Go.Proofs.Ytiajhbbmgglmlaa
