/-
  Lemmas for the claim.
-/
import Derived.Test.YtiajhbbmgglmlaaFd4
set_option linter.all false
namespace Go.Proofs.Ytiajhbbmgglmlaa
open Sw
def n_schema_kinds_8 (t0 : Value) (R : Ending → World → Prop) (w : World) : Prop :=
 opN Try.prog (nilN t0) (panK R) w fun t4 w =>
 opV Try.prog (Instr.fieldAt 28 t4 5) (panK R) w fun t5 w =>
 opU Try.prog (Instr.storeAt 3 t5 (.int .i64 0)) (panK R) w fun w =>
 opN Try.prog (nilN t0) (panK R) w fun t6 w =>
 opV Try.prog (Instr.fieldAt 28 t6 6) (panK R) w fun t7 w =>
 opU Try.prog (Instr.storeAt 3 t7 (.int .i64 0)) (panK R) w fun w =>
 R (.returned (.tuple #[])) w
set_option maxRecDepth 100000 in
set_option maxHeartbeats 4000000 in
theorem n_schema_kinds_8_sound {t0 : Value} {R : Ending → World → Prop} {w : World} (h : n_schema_kinds_8 t0 R w) : Calls Try.prog 91 #[t0] w R := by
  refine calls_of_den (args := [t0]) Try.func91 rfl (Nat.le_of_ble_eq_true rfl) ?_
  unfold n_schema_kinds_8 at h
  refine zr <| zm <| zm ?_
  refine sim_next h rfl rfl (fun _ _ h => ⟨rfl, h⟩) ?_; intro t4 w h
  refine zv h fun t5 w h => ?_
  refine zu h fun w h => ?_
  refine sim_next h rfl rfl (fun _ _ h => ⟨rfl, h⟩) ?_; intro t6 w h
  refine zv h fun t7 w h => ?_
  refine zu h fun w h => ?_
  refine zn ?_
  refine body_normal ?_
  exact body_ret0 rfl h
def n_schema_kinds_9_c1 (t0 t3 : Value) (R : Ending → World → Prop) (w : World) : Prop :=
 opV Try.prog (Instr.fieldAt 28 t3 6) (panK R) w fun t10 w =>
 opV Try.prog (Instr.loadAt 3 t10) (panK R) w fun t11 w =>
 opV Try.prog (Instr.buildSlice 137 1 #[(0, t11)]) (panK R) w fun t12 w =>
 callK Try.prog 84 #[t0, (.int .i64 0), (.int .i64 1048576), t12] (panK R) w fun t13 w =>
 R (.returned (.tuple #[])) w
def n_schema_kinds_9 (t0 t1 : Value) (R : Ending → World → Prop) (w : World) : Prop :=
 opV Try.prog (Instr.box 28 t1) (panK R) w fun t3 w =>
 opV Try.prog (Instr.fieldAt 28 t3 5) (panK R) w fun t5 w =>
 opV Try.prog (Instr.loadAt 3 t5) (panK R) w fun t6 w =>
 opV Try.prog (Instr.buildSlice 137 1 #[(0, t6)]) (panK R) w fun t7 w =>
 callK Try.prog 84 #[t0, (.int .i64 0), (.int .i64 255), t7] (panK R) w fun t8 w =>
 n_schema_kinds_9_c1 t0 t3 R w
set_option maxRecDepth 100000 in
set_option maxHeartbeats 4000000 in
theorem n_schema_kinds_9_sound {t0 t1 : Value} {R : Ending → World → Prop} {w : World} (h : n_schema_kinds_9 t0 t1 R w) : Calls Try.prog 92 #[t0, t1] w R := by
  refine calls_of_den (args := [t0, t1]) Try.func92 rfl (Nat.le_of_ble_eq_true rfl) ?_
  unfold n_schema_kinds_9 at h
  refine zs <| zr ?_
  refine zv h fun t3 w h => ?_
  refine zn <| zk <| zs <| zr <| zm ?_
  refine zv h fun t5 w h => ?_
  refine zv h fun t6 w h => ?_
  refine sim_buildSlice h rfl (fun _ _ h => ⟨rfl, h⟩) ?_; intro t7 w h
  refine zc h c84 fun t8 w h => ?_
  refine zn <| zk <| zr <| zm ?_
  refine zv h fun t10 w h => ?_
  refine zv h fun t11 w h => ?_
  refine sim_buildSlice h rfl (fun _ _ h => ⟨rfl, h⟩) ?_; intro t12 w h
  refine zc h c84 fun t13 w h => ?_
  refine zn ?_
  refine body_normal ?_
  exact body_ret0 rfl h
def n_schema_kinds_10 (t0 : Value) (R : Ending → World → Prop) (w : World) : Prop :=
 opN Try.prog (nilN t0) (panK R) w fun t4 w =>
 opV Try.prog (Instr.fieldAt 28 t4 4) (panK R) w fun t5 w =>
 opU Try.prog (Instr.storeAt 4 t5 (.bool false)) (panK R) w fun w =>
 opN Try.prog (nilN t0) (panK R) w fun t6 w =>
 opV Try.prog (Instr.fieldAt 28 t6 6) (panK R) w fun t7 w =>
 opU Try.prog (Instr.storeAt 3 t7 (.int .i64 0)) (panK R) w fun w =>
 R (.returned (.tuple #[])) w
set_option maxRecDepth 100000 in
set_option maxHeartbeats 4000000 in
theorem n_schema_kinds_10_sound {t0 : Value} {R : Ending → World → Prop} {w : World} (h : n_schema_kinds_10 t0 R w) : Calls Try.prog 93 #[t0] w R := by
  refine calls_of_den (args := [t0]) Try.func93 rfl (Nat.le_of_ble_eq_true rfl) ?_
  unfold n_schema_kinds_10 at h
  refine zr <| zm <| zm ?_
  refine sim_next h rfl rfl (fun _ _ h => ⟨rfl, h⟩) ?_; intro t4 w h
  refine zv h fun t5 w h => ?_
  refine zu h fun w h => ?_
  refine sim_next h rfl rfl (fun _ _ h => ⟨rfl, h⟩) ?_; intro t6 w h
  refine zv h fun t7 w h => ?_
  refine zu h fun w h => ?_
  refine zn ?_
  refine body_normal ?_
  exact body_ret0 rfl h
def n_schema_kinds_11 (t0 t1 : Value) (R : Ending → World → Prop) (w : World) : Prop :=
 opV Try.prog (Instr.box 28 t1) (panK R) w fun t3 w =>
 opV Try.prog (Instr.fieldAt 28 t3 6) (panK R) w fun t5 w =>
 opV Try.prog (Instr.loadAt 3 t5) (panK R) w fun t6 w =>
 opV Try.prog (Instr.buildSlice 137 1 #[(0, t6)]) (panK R) w fun t7 w =>
 callK Try.prog 84 #[t0, (.int .i64 2), (.int .i64 1048576), t7] (panK R) w fun t8 w =>
 R (.returned (.tuple #[])) w
set_option maxRecDepth 100000 in
set_option maxHeartbeats 4000000 in
theorem n_schema_kinds_11_sound {t0 t1 : Value} {R : Ending → World → Prop} {w : World} (h : n_schema_kinds_11 t0 t1 R w) : Calls Try.prog 94 #[t0, t1] w R := by
  refine calls_of_den (args := [t0, t1]) Try.func94 rfl (Nat.le_of_ble_eq_true rfl) ?_
  unfold n_schema_kinds_11 at h
  refine zs <| zr ?_
  refine zv h fun t3 w h => ?_
  refine zn <| zk <| zr <| zm ?_
  refine zv h fun t5 w h => ?_
  refine zv h fun t6 w h => ?_
  refine sim_buildSlice h rfl (fun _ _ h => ⟨rfl, h⟩) ?_; intro t7 w h
  refine zc h c84 fun t8 w h => ?_
  refine zn ?_
  refine body_normal ?_
  exact body_ret0 rfl h
def n_schema_kinds_12 (t0 : Value) (R : Ending → World → Prop) (w : World) : Prop :=
 opV Try.prog (Instr.build 25 #[]) (panK R) w fun t4 w =>
 opN Try.prog (nilN t0) (panK R) w fun t5 w =>
 opV Try.prog (Instr.fieldAt 28 t5 8) (panK R) w fun t6 w =>
 opU Try.prog (Instr.storeAt 9 t6 (.string { data := #[] })) (panK R) w fun w =>
 opN Try.prog (nilN t0) (panK R) w fun t7 w =>
 opV Try.prog (Instr.fieldAt 28 t7 7) (panK R) w fun t8 w =>
 opU Try.prog (Instr.storeAt 25 t8 t4) (panK R) w fun w =>
 R (.returned (.tuple #[])) w
set_option maxRecDepth 100000 in
set_option maxHeartbeats 4000000 in
theorem n_schema_kinds_12_sound {t0 : Value} {R : Ending → World → Prop} {w : World} (h : n_schema_kinds_12 t0 R w) : Calls Try.prog 95 #[t0] w R := by
  refine calls_of_den (args := [t0]) Try.func95 rfl (Nat.le_of_ble_eq_true rfl) ?_
  unfold n_schema_kinds_12 at h
  refine zr <| zm <| zm ?_
  refine sim_build h rfl (fun _ _ h => ⟨rfl, h⟩) ?_; intro t4 w h
  refine sim_next h rfl rfl (fun _ _ h => ⟨rfl, h⟩) ?_; intro t5 w h
  refine zv h fun t6 w h => ?_
  refine zu h fun w h => ?_
  refine sim_next h rfl rfl (fun _ _ h => ⟨rfl, h⟩) ?_; intro t7 w h
  refine zv h fun t8 w h => ?_
  refine zu h fun w h => ?_
  refine zn ?_
  refine body_normal ?_
  exact body_ret0 rfl h
def n_schema_kinds_13 (t0 t1 : Value) (R : Ending → World → Prop) (w : World) : Prop :=
 opV Try.prog (Instr.box 28 t1) (panK R) w fun t3 w =>
 opV Try.prog (Instr.fieldAt 28 t3 8) (panK R) w fun t5 w =>
 opV Try.prog (Instr.loadAt 9 t5) (panK R) w fun t6 w =>
 callK Try.prog 97 #[t0, t6] (panK R) w fun t7 w =>
 opV Try.prog (Instr.loadAt 28 t3) (panK R) w fun t9 w =>
 callK Try.prog 90 #[t0, t9] (panK R) w fun t10 w =>
 R (.returned (.tuple #[])) w
set_option maxRecDepth 100000 in
set_option maxHeartbeats 4000000 in
theorem n_schema_kinds_13_sound {t0 t1 : Value} {R : Ending → World → Prop} {w : World} (h : n_schema_kinds_13 t0 t1 R w) : Calls Try.prog 96 #[t0, t1] w R := by
  refine calls_of_den (args := [t0, t1]) Try.func96 rfl (Nat.le_of_ble_eq_true rfl) ?_
  unfold n_schema_kinds_13 at h
  refine zs <| zr ?_
  refine zv h fun t3 w h => ?_
  refine zn <| zk <| zs <| zr <| zm ?_
  refine zv h fun t5 w h => ?_
  refine zv h fun t6 w h => ?_
  refine zc h c97 fun t7 w h => ?_
  refine zn <| zk <| zr <| zm ?_
  refine zv h fun t9 w h => ?_
  refine zc h c90 fun t10 w h => ?_
  refine zn ?_
  refine body_normal ?_
  exact body_ret0 rfl h
def n_schema_checker_refer (t0 t1 : Value) (R : Ending → World → Prop) (w : World) : Prop :=
 opN Try.prog (nilN t0) (panK R) w fun t8 w =>
 opV Try.prog (Instr.fieldAt 101 t8 1) (panK R) w fun t9 w =>
 opV Try.prog (Instr.loadAt 98 t9) (panK R) w fun t10 w =>
 opV Try.prog (Instr.lookup 98 t10 t1 true) (panK R) w fun t12 w =>
 opV Try.prog (Instr.extract t12 0) (panK R) w fun t13 w =>
 opV Try.prog (Instr.extract t12 1) (panK R) w fun t14 w =>
 callK Try.prog 62 #[t0, t14, (.int .i64 8)] (panK R) w fun t17 w =>
 R (.returned (.tuple #[])) w
set_option maxRecDepth 100000 in
set_option maxHeartbeats 4000000 in
theorem n_schema_checker_refer_sound {t0 t1 : Value} {R : Ending → World → Prop} {w : World} (h : n_schema_checker_refer t0 t1 R w) : Calls Try.prog 97 #[t0, t1] w R := by
  refine calls_of_den (args := [t0, t1]) Try.func97 rfl (Nat.le_of_ble_eq_true rfl) ?_
  unfold n_schema_checker_refer at h
  refine zs <| zr <| zm ?_
  refine sim_next h rfl rfl (fun _ _ h => ⟨rfl, h⟩) ?_; intro t8 w h
  refine zv h fun t9 w h => ?_
  refine zv h fun t10 w h => ?_
  refine zm ?_
  refine zv h fun t12 w h => ?_
  refine zm ?_
  refine zv h fun t13 w h => ?_
  refine zv h fun t14 w h => ?_
  refine zm <| zm <| zn <| zk <| zr <| zm <| zm ?_
  refine zc h c62 fun t17 w h => ?_
  refine zn ?_
  refine body_normal ?_
  exact body_ret0 rfl h
def n_schema_kinds_14 (t0 : Value) (R : Ending → World → Prop) (w : World) : Prop :=
 opN Try.prog (nilN t0) (panK R) w fun t3 w =>
 opV Try.prog (Instr.fieldAt 28 t3 8) (panK R) w fun t4 w =>
 opU Try.prog (Instr.storeAt 9 t4 (.string { data := #[] })) (panK R) w fun w =>
 R (.returned (.tuple #[])) w
set_option maxRecDepth 100000 in
set_option maxHeartbeats 4000000 in
theorem n_schema_kinds_14_sound {t0 : Value} {R : Ending → World → Prop} {w : World} (h : n_schema_kinds_14 t0 R w) : Calls Try.prog 98 #[t0] w R := by
  refine calls_of_den (args := [t0]) Try.func98 rfl (Nat.le_of_ble_eq_true rfl) ?_
  unfold n_schema_kinds_14 at h
  refine zr <| zm ?_
  refine sim_next h rfl rfl (fun _ _ h => ⟨rfl, h⟩) ?_; intro t3 w h
  refine zv h fun t4 w h => ?_
  refine zu h fun w h => ?_
  refine zn ?_
  refine body_normal ?_
  exact body_ret0 rfl h
def n_schema_kinds_15 (t0 t1 : Value) (R : Ending → World → Prop) (w : World) : Prop :=
 opV Try.prog (Instr.box 28 t1) (panK R) w fun t3 w =>
 opV Try.prog (Instr.fieldAt 28 t3 8) (panK R) w fun t5 w =>
 opV Try.prog (Instr.loadAt 9 t5) (panK R) w fun t6 w =>
 callK Try.prog 97 #[t0, t6] (panK R) w fun t7 w =>
 R (.returned (.tuple #[])) w
set_option maxRecDepth 100000 in
set_option maxHeartbeats 4000000 in
theorem n_schema_kinds_15_sound {t0 t1 : Value} {R : Ending → World → Prop} {w : World} (h : n_schema_kinds_15 t0 t1 R w) : Calls Try.prog 99 #[t0, t1] w R := by
  refine calls_of_den (args := [t0, t1]) Try.func99 rfl (Nat.le_of_ble_eq_true rfl) ?_
  unfold n_schema_kinds_15 at h
  refine zs <| zr ?_
  refine zv h fun t3 w h => ?_
  refine zn <| zk <| zr <| zm ?_
  refine zv h fun t5 w h => ?_
  refine zv h fun t6 w h => ?_
  refine zc h c97 fun t7 w h => ?_
  refine zn ?_
  refine body_normal ?_
  exact body_ret0 rfl h
def n_schema_kinds_16 (t0 : Value) (R : Ending → World → Prop) (w : World) : Prop :=
 opN Try.prog (nilN t0) (panK R) w fun t4 w =>
 opV Try.prog (Instr.fieldAt 28 t4 9) (panK R) w fun t5 w =>
 opU Try.prog (Instr.storeAt 9 t5 (.string { data := #[] })) (panK R) w fun w =>
 opN Try.prog (nilN t0) (panK R) w fun t6 w =>
 opV Try.prog (Instr.fieldAt 28 t6 11) (panK R) w fun t7 w =>
 opU Try.prog (Instr.storeAt 26 t7 (Value.slice none 0 0)) (panK R) w fun w =>
 R (.returned (.tuple #[])) w
set_option maxRecDepth 100000 in
set_option maxHeartbeats 4000000 in
theorem n_schema_kinds_16_sound {t0 : Value} {R : Ending → World → Prop} {w : World} (h : n_schema_kinds_16 t0 R w) : Calls Try.prog 100 #[t0] w R := by
  refine calls_of_den (args := [t0]) Try.func100 rfl (Nat.le_of_ble_eq_true rfl) ?_
  unfold n_schema_kinds_16 at h
  refine zr <| zm <| zm ?_
  refine sim_next h rfl rfl (fun _ _ h => ⟨rfl, h⟩) ?_; intro t4 w h
  refine zv h fun t5 w h => ?_
  refine zu h fun w h => ?_
  refine sim_next h rfl rfl (fun _ _ h => ⟨rfl, h⟩) ?_; intro t6 w h
  refine zv h fun t7 w h => ?_
  refine zu h fun w h => ?_
  refine zn ?_
  refine body_normal ?_
  exact body_ret0 rfl h
def n_schema_checker_cases_c1 (t9 t47 : Value) (next5 : Value → Value → World → Prop) (R : Ending → World → Prop) (w : World) : Prop :=
 opV Try.prog (Instr.fieldAt 62 t9 1) (panK R) w fun t65 w =>
 opV Try.prog (Instr.loadAt 3 t65) (panK R) w fun t66 w =>
 opV Try.prog (binS .add 3 true t66 (.int .i64 1)) (panK R) w fun t67 w =>
 opV Try.prog (binS .add 3 true t47 (.int .i64 1)) (panK R) w fun t68 w =>
 next5 t67 t68 w
def n_schema_checker_cases_c2 (t0 t9 t47 : Value) (next5 : Value → Value → World → Prop) (R : Ending → World → Prop) (w : World) : Prop :=
 opV Try.prog (Instr.fieldAt 62 t9 2) (panK R) w fun t62 w =>
 opV Try.prog (Instr.loadAt 9 t62) (panK R) w fun t63 w =>
 callK Try.prog 97 #[t0, t63] (panK R) w fun t64 w =>
 n_schema_checker_cases_c1 t9 t47 next5 R w
def n_schema_checker_cases_c3 (t0 t4 t7 t45 t47 : Value) (next5 : Value → Value → World → Prop) (R : Ending → World → Prop) (w : World) : Prop :=
 opV Try.prog (Instr.indexAt 26 t45 t47) (panK R) w fun t49 w =>
 opV Try.prog (Instr.loadAt 62 t49) (panK R) w fun t50 w =>
 opV Try.prog (Instr.alloc 62 true (.tuple #[])) (panK R) w fun t9 w =>
 opU Try.prog (Instr.storeAt 62 t9 t50) (panK R) w fun w =>
 opV Try.prog (Instr.fieldAt 31 t4 1) (panK R) w fun t53 w =>
 opV Try.prog (Instr.loadAt 3 t53) (panK R) w fun t54 w =>
 opV Try.prog (Instr.fieldAt 62 t9 0) (panK R) w fun t55 w =>
 opV Try.prog (Instr.loadAt 3 t55) (panK R) w fun t56 w =>
 opV Try.prog (Instr.fieldAt 62 t9 1) (panK R) w fun t57 w =>
 opV Try.prog (Instr.loadAt 3 t57) (panK R) w fun t58 w =>
 opV Try.prog (Instr.buildSlice 137 2 #[(0, t56), (1, t58)]) (panK R) w fun t59 w =>
 callK Try.prog 84 #[t0, t7, t54, t59] (panK R) w fun t60 w =>
 n_schema_checker_cases_c2 t0 t9 t47 next5 R w
def n_schema_checker_cases_c4 (t0 t3 t4 : Value) (R : Ending → World → Prop) (w : World) : Prop :=
 opV Try.prog (Instr.fieldAt 31 t4 0) (panK R) w fun t42 w =>
 opV Try.prog (Instr.loadAt 3 t42) (panK R) w fun t43 w =>
 opV Try.prog (Instr.fieldAt 28 t3 11) (panK R) w fun t44 w =>
 opV Try.prog (Instr.loadAt 26 t44) (panK R) w fun t45 w =>
 opV Try.prog (Builtin.len_ #[26] 3 #[t45]) (panK R) w fun t46 w =>
 loop2 (fun t7 t47 w next5 =>
 opV Try.prog (binS .lss 3 false t47 t46) (panK R) w fun t48 w =>
 condP t48 (
 n_schema_checker_cases_c3 t0 t4 t7 t45 t47 next5 R w) (
 R (.returned (.tuple #[])) w)) t43 (.int .i64 0) w
def n_schema_checker_cases_c5 (t0 t3 t4 : Value) (R : Ending → World → Prop) (w : World) : Prop :=
 opV Try.prog (Instr.fieldAt 28 t3 11) (panK R) w fun t31 w =>
 opV Try.prog (Instr.loadAt 26 t31) (panK R) w fun t32 w =>
 opV Try.prog (Builtin.len_ #[26] 3 #[t32]) (panK R) w fun t33 w =>
 opV Try.prog (binS .geq 3 true t33 (.int .i64 1)) (panK R) w fun t34 w =>
 joinK (fun (t39 : Value) (w : World) =>
 pickK t34 t39 (.bool false) fun t40 =>
 callK Try.prog 62 #[t0, t40, (.int .i64 3)] (panK R) w fun t41 w =>
 n_schema_checker_cases_c4 t0 t3 t4 R w) fun K4 =>
 guardP t34 true (
 opV Try.prog (Instr.fieldAt 28 t3 11) (panK R) w fun t36 w =>
 opV Try.prog (Instr.loadAt 26 t36) (panK R) w fun t37 w =>
 opV Try.prog (Builtin.len_ #[26] 3 #[t37]) (panK R) w fun t38 w =>
 opV Try.prog (binS .leq 3 true t38 (.int .i64 40)) (panK R) w fun t39 w =>
 K4 t39 w) (
 K4 undef w)
def n_schema_checker_cases_c6 (t0 t3 t4 t5 t22 : Value) (R : Ending → World → Prop) (w : World) : Prop :=
 joinK (fun (t27 : Value) (w : World) =>
 pickK t5 t27 (.bool false) fun t28 =>
 callK Try.prog 62 #[t0, t28, (.int .i64 8)] (panK R) w fun t29 w =>
 n_schema_checker_cases_c5 t0 t3 t4 R w) fun K3 =>
 guardP t5 true (
 opV Try.prog (Op.unary .not t22) (panK R) w fun t27 w =>
 K3 t27 w) (
 K3 undef w)
def n_schema_checker_cases_c7 (t0 t3 t4 t5 : Value) (R : Ending → World → Prop) (w : World) : Prop :=
 callK Try.prog 78 #[t0] (panK R) w fun t20 w =>
 opV Try.prog (Instr.makeFunc (.func 112) #[] #[t3]) (panK R) w fun t21 w =>
 callK Try.prog 111 #[t20, t21] (panK R) w fun t22 w =>
 n_schema_checker_cases_c6 t0 t3 t4 t5 t22 R w
def n_schema_checker_cases_c8 (t13 t15 : Value) (C7 : World → Prop) (K2 : Value → Value → World → Prop) (R : Ending → World → Prop) (w : World) : Prop :=
 qV Try.prog C7 (Instr.lookup 53 t13 t15 true) fun t16 =>
 qV Try.prog C7 (Instr.extract t16 0) fun t17 =>
 qV Try.prog C7 (Instr.extract t16 1) fun t18 =>
 opV Try.prog (Instr.alloc 31 true (.tuple #[])) (panK R) w fun t4 w =>
 C7 w ∧ (
 opU Try.prog (Instr.storeAt 31 t4 t17) (panK R) w fun w =>
 C7 w ∧ (
 K2 t4 t18 w))
def n_schema_checker_cases_c9 (t4 t13 t15 : Value) (C8 : World → Prop) (K2 : Value → Value → World → Prop) (R : Ending → World → Prop) (w : World) : Prop :=
 qV Try.prog C8 (Instr.lookup 53 t13 t15 true) fun t16 =>
 qV Try.prog C8 (Instr.extract t16 0) fun t17 =>
 qV Try.prog C8 (Instr.extract t16 1) fun t18 =>
 opU Try.prog (Instr.storeAt 31 t4 t17) (panK R) w fun w =>
 C8 w ∧ (
 K2 t4 t18 w)
def n_schema_checker_cases_c10 (t12 t15 : Value) (C6 : World → Prop) (K2 : Value → Value → World → Prop) (R : Ending → World → Prop) (w : World) : Prop :=
 (
 callK Try.prog 40 #[t12] (panK R) w fun t13 w =>
 narrowK C6 w fun C7 w =>
 n_schema_checker_cases_c8 t13 t15 C7 K2 R w) ∧ (
 opV Try.prog (Instr.alloc 31 true (.tuple #[])) (panK R) w fun t4 w =>
 C6 w ∧ (
 callK Try.prog 40 #[t12] (panK R) w fun t13 w =>
 narrowK C6 w fun C8 w =>
 n_schema_checker_cases_c9 t4 t13 t15 C8 K2 R w))
def n_schema_checker_cases_c11 (t4 t13 t15 : Value) (C10 : World → Prop) (K2 : Value → Value → World → Prop) (R : Ending → World → Prop) (w : World) : Prop :=
 qV Try.prog C10 (Instr.lookup 53 t13 t15 true) fun t16 =>
 qV Try.prog C10 (Instr.extract t16 0) fun t17 =>
 qV Try.prog C10 (Instr.extract t16 1) fun t18 =>
 opU Try.prog (Instr.storeAt 31 t4 t17) (panK R) w fun w =>
 C10 w ∧ (
 K2 t4 t18 w)
def n_schema_checker_cases_c12 (t0 t4 t15 : Value) (C1 : World → Prop) (K2 : Value → Value → World → Prop) (R : Ending → World → Prop) (w : World) : Prop :=
 callK Try.prog 78 #[t0] (panK R) w fun t12 w =>
 narrowK C1 w fun C9 w =>
 callK Try.prog 40 #[t12] (panK R) w fun t13 w =>
 narrowK C9 w fun C10 w =>
 n_schema_checker_cases_c11 t4 t13 t15 C10 K2 R w
def n_schema_checker_cases_c13 (t0 t3 : Value) (C1 : World → Prop) (R : Ending → World → Prop) (w : World) : Prop :=
 qV Try.prog C1 (Instr.fieldAt 28 t3 9) fun t14 =>
 qV Try.prog C1 (Instr.loadAt 9 t14) fun t15 =>
 joinK (fun (t4 : Value) (t5 : Value) (w : World) =>
 n_schema_checker_cases_c7 t0 t3 t4 t5 R w) fun K2 =>
 (
 callK Try.prog 78 #[t0] (panK R) w fun t12 w =>
 narrowK C1 w fun C6 w =>
 n_schema_checker_cases_c10 t12 t15 C6 K2 R w) ∧ (
 opV Try.prog (Instr.alloc 31 true (.tuple #[])) (panK R) w fun t4 w =>
 C1 w ∧ (
 n_schema_checker_cases_c12 t0 t4 t15 C1 K2 R w))
def n_schema_checker_cases (t0 t1 : Value) (R : Ending → World → Prop) (w : World) : Prop :=
 opV Try.prog (Instr.box 28 t1) (panK R) w fun t3 w =>
 drawK w fun C1 w =>
 n_schema_checker_cases_c13 t0 t3 C1 R w
set_option maxRecDepth 100000 in
set_option maxHeartbeats 4000000 in
theorem n_schema_checker_cases_sound {t0 t1 : Value} {R : Ending → World → Prop} {w : World} (h : n_schema_checker_cases t0 t1 R w) : Calls Try.prog 101 #[t0, t1] w R := by
  refine calls_of_den (args := [t0, t1]) Try.func101 rfl (Nat.le_of_ble_eq_true rfl) ?_
  unfold n_schema_checker_cases at h
  refine zs <| zr ?_
  refine zv h fun t3 w h => ?_
  refine zn <| zk <| zs ?_
  obtain ⟨C1, hC, h⟩ := h
  refine sim_draw [4, 5, 10, 11, 12, 13, 14, 15, 16, 17, 18] (by kernel_rfl) (by kernel_rfl) C1 ?_
  refine zw 0 hC ?_
  refine ze 3 hC h fun t14 h => ?_
  refine ze 4 hC h fun t15 h => ?_
  refine joinK_elim h (fun K2 hK h => ?_)
  refine sim_dmeet [4, 5, 10, 12, 13, 16, 17, 18] (fun ρ w => K2 (ρ 4) (ρ 5) w) (fun T hT => ?_) (fun σ w h => ?_)
  · obtain ⟨h0, h1⟩ := h
    refine sim_dloud2 1 9 rfl rfl (by kernel_rfl) (fun _ _ => rfl) (fun _ _ => rfl) ?_ ?_
    · have h := h0
      refine sim_call h c78 rfl (fun _ _ h _ _ => ⟨rfl, h⟩) ?_; intro t12 w h
      refine zn ?_
      obtain ⟨C6, hs, hC, h⟩ := h
      refine ⟨C6, hs, hC, ?_⟩
      obtain ⟨h0, h1⟩ := h
      refine sim_dloud2 2 9 rfl rfl (by kernel_rfl) (fun _ _ => rfl) (fun _ _ => rfl) ?_ ?_
      · have h := h0
        refine sim_call h c40 rfl (fun _ _ h _ _ => ⟨rfl, h⟩) ?_; intro t13 w h
        refine zn ?_
        obtain ⟨C7, hs, hC, h⟩ := h
        refine ⟨C7, hs, hC, ?_⟩
        refine ze 5 hC h fun t16 h => ?_
        refine zw 6 hC ?_
        refine ze 7 hC h fun t17 h => ?_
        refine ze 8 hC h fun t18 h => ?_
        refine sim_dloud 9 rfl (by kernel_rfl) (fun _ _ => rfl) ?_
        refine sim_val h rfl rfl (fun _ _ h _ _ => ⟨rfl, h⟩) ?_; intro t4 w h
        refine zn ?_
        obtain ⟨hC, h⟩ := h
        refine ⟨hC, ?_⟩
        refine sim_dloud 10 rfl (by kernel_rfl) (fun _ _ => rfl) ?_
        refine sim_unit h rfl rfl (fun _ _ h _ _ => ⟨rfl, h⟩) ?_; intro w h
        refine zn ?_
        obtain ⟨hC, h⟩ := h
        refine ⟨hC, ?_⟩
        refine zw 11 hC ?_
        refine sim_dend (by kernel_rfl) ?_
        exact zt hT h
      · have h := h1
        refine sim_val h rfl rfl (fun _ _ h _ _ => ⟨rfl, h⟩) ?_; intro t4 w h
        refine zn ?_
        obtain ⟨hC, h⟩ := h
        refine ⟨_, fun _ h => h, hC, ?_⟩
        refine sim_dnarrow 2 rfl (by kernel_rfl) (fun _ _ => rfl) ?_
        refine sim_call h c40 rfl (fun _ _ h _ _ => ⟨rfl, h⟩) ?_; intro t13 w h
        refine zn ?_
        obtain ⟨C8, hs, hC, h⟩ := h
        refine ⟨C8, hs, hC, ?_⟩
        refine ze 5 hC h fun t16 h => ?_
        refine zw 6 hC ?_
        refine ze 7 hC h fun t17 h => ?_
        refine ze 8 hC h fun t18 h => ?_
        refine sim_dloud 10 rfl (by kernel_rfl) (fun _ _ => rfl) ?_
        refine sim_unit h rfl rfl (fun _ _ h _ _ => ⟨rfl, h⟩) ?_; intro w h
        refine zn ?_
        obtain ⟨hC, h⟩ := h
        refine ⟨hC, ?_⟩
        refine zw 11 hC ?_
        refine sim_dend (by kernel_rfl) ?_
        exact zt hT h
    · have h := h1
      refine sim_val h rfl rfl (fun _ _ h _ _ => ⟨rfl, h⟩) ?_; intro t4 w h
      refine zn ?_
      obtain ⟨hC, h⟩ := h
      refine ⟨_, fun _ h => h, hC, ?_⟩
      refine sim_dnarrow 1 rfl (by kernel_rfl) (fun _ _ => rfl) ?_
      refine sim_call h c78 rfl (fun _ _ h _ _ => ⟨rfl, h⟩) ?_; intro t12 w h
      refine zn ?_
      obtain ⟨C9, hs, hC, h⟩ := h
      refine ⟨C9, hs, hC, ?_⟩
      refine sim_dnarrow 2 rfl (by kernel_rfl) (fun _ _ => rfl) ?_
      refine sim_call h c40 rfl (fun _ _ h _ _ => ⟨rfl, h⟩) ?_; intro t13 w h
      refine zn ?_
      obtain ⟨C10, hs, hC, h⟩ := h
      refine ⟨C10, hs, hC, ?_⟩
      refine ze 5 hC h fun t16 h => ?_
      refine zw 6 hC ?_
      refine ze 7 hC h fun t17 h => ?_
      refine ze 8 hC h fun t18 h => ?_
      refine sim_dloud 10 rfl (by kernel_rfl) (fun _ _ => rfl) ?_
      refine sim_unit h rfl rfl (fun _ _ h _ _ => ⟨rfl, h⟩) ?_; intro w h
      refine zn ?_
      obtain ⟨hC, h⟩ := h
      refine ⟨hC, ?_⟩
      refine zw 11 hC ?_
      refine sim_dend (by kernel_rfl) ?_
      exact zt hT h
  subst hK
  refine zk <| zs <| zr <| zm ?_
  refine zc h c78 fun t20 w h => ?_
  refine sim_makeFunc h rfl rfl (fun _ _ h => ⟨rfl, h⟩) ?_; intro t21 w h
  refine zc h c111 fun t22 w h => ?_
  refine zm <| zn <| zk <| zs <| sim_regionG ?_
  refine sim_seg 3 rfl ?_
  refine zm <| zm <| zm <| zn ?_
  refine joinK_elim h (fun K3 hK h => ?_)
  refine sim_groupJ 2 2 true [26, 27] (fun ρ w => K3 (ρ 27) w) rfl rfl (fun T hT => guardP_mono h (fun h => ?_) (fun h => ?_)) (fun σ w h => ?_)
  · refine zm ?_
    refine zv h fun t27 w h => ?_
    refine zn ?_
    exact zt hT h
  · exact zt hT h
  subst hK
  refine sim_seg 2 rfl ?_
  refine sim_pick h rfl rfl rfl ?_; intro t28 h
  refine zc h c62 fun t29 w h => ?_
  refine zn <| sim_end <| zk <| zs <| sim_regionG ?_
  refine sim_seg 6 rfl ?_
  refine zm ?_
  refine zv h fun t31 w h => ?_
  refine zv h fun t32 w h => ?_
  refine zx h fun t33 w h => ?_
  refine zb h fun t34 w h => ?_
  refine zm <| zn ?_
  refine joinK_elim h (fun K4 hK h => ?_)
  refine sim_groupJ 4 5 true [36, 37, 38, 39] (fun ρ w => K4 (ρ 39) w) rfl rfl (fun T hT => guardP_mono h (fun h => ?_) (fun h => ?_)) (fun σ w h => ?_)
  · refine zv h fun t36 w h => ?_
    refine zv h fun t37 w h => ?_
    refine zx h fun t38 w h => ?_
    refine zb h fun t39 w h => ?_
    refine zn ?_
    exact zt hT h
  · exact zt hT h
  subst hK
  refine sim_seg 2 rfl ?_
  refine sim_pick h rfl rfl rfl ?_; intro t40 h
  refine zc h c62 fun t41 w h => ?_
  refine zn <| sim_end <| zk <| zs <| zr ?_
  refine zv h fun t42 w h => ?_
  refine zv h fun t43 w h => ?_
  refine zm <| zn <| zk <| zs <| zr ?_
  refine zv h fun t44 w h => ?_
  refine zv h fun t45 w h => ?_
  refine zx h fun t46 w h => ?_
  refine zm <| zn <| zk <| sim_block ?_
  obtain ⟨I, μ, h0, hr⟩ := h
  refine sim_loop [7, 9, 47, 48, 49, 50, 51, 52, 53, 54, 55, 56, 57, 58, 59, 60, 61, 62, 63, 64, 65, 66, 67, 68] (by kernel_rfl) (fun ρ w => I (ρ 7) (ρ 47) w) (fun ρ w => μ (ρ 7) (ρ 47) w) h0 (fun σ w hI => ?_)
  have h := hr _ _ _ hI
  clear hr h0 hI
  refine zs <| zr ?_
  refine zb h fun t48 w h => ?_
  refine zn <| zk <| zs ?_
  refine sim_cond h rfl (fun h => ?_) (fun h => ?_)
  · refine sim_skip <| zk <| zs <| sim_block <| zs <| zr ?_
    refine zv h fun t49 w h => ?_
    refine zv h fun t50 w h => ?_
    refine zv h fun t9 w h => ?_
    refine zu h fun w h => ?_
    refine zn <| zk <| zs <| zr <| zm <| zm ?_
    refine zv h fun t53 w h => ?_
    refine zv h fun t54 w h => ?_
    refine zv h fun t55 w h => ?_
    refine zv h fun t56 w h => ?_
    refine zv h fun t57 w h => ?_
    refine zv h fun t58 w h => ?_
    refine sim_buildSlice h rfl (fun _ _ h => ⟨rfl, h⟩) ?_; intro t59 w h
    refine zc h c84 fun t60 w h => ?_
    refine zn <| zk <| zs <| zr <| zm ?_
    refine zv h fun t62 w h => ?_
    refine zv h fun t63 w h => ?_
    refine zc h c97 fun t64 w h => ?_
    refine zn <| zk <| zr ?_
    refine zv h fun t65 w h => ?_
    refine zv h fun t66 w h => ?_
    refine zb h fun t67 w h => ?_
    refine zm <| zn <| sim_block_normal <| zk <| zr ?_
    refine zb h fun t68 w h => ?_
    refine zm <| zn <| zk ?_
    exact ⟨rfl, h⟩
  · refine sim_exit <| sim_then_exit <| sim_then_exit <| sim_block_hit ?_
    refine body_normal ?_
    exact body_ret0 rfl h
def n_schema_kinds_17 (t0 : Value) (R : Ending → World → Prop) (w : World) : Prop :=
 opN Try.prog (nilN t0) (panK R) w fun t3 w =>
 opV Try.prog (Instr.fieldAt 28 t3 2) (panK R) w fun t4 w =>
 opU Try.prog (Instr.storeAt 3 t4 (.int .i64 0)) (panK R) w fun w =>
 R (.returned (.tuple #[])) w
set_option maxRecDepth 100000 in
set_option maxHeartbeats 4000000 in
theorem n_schema_kinds_17_sound {t0 : Value} {R : Ending → World → Prop} {w : World} (h : n_schema_kinds_17 t0 R w) : Calls Try.prog 102 #[t0] w R := by
  refine calls_of_den (args := [t0]) Try.func102 rfl (Nat.le_of_ble_eq_true rfl) ?_
  unfold n_schema_kinds_17 at h
  refine zr <| zm ?_
  refine sim_next h rfl rfl (fun _ _ h => ⟨rfl, h⟩) ?_; intro t3 w h
  refine zv h fun t4 w h => ?_
  refine zu h fun w h => ?_
  refine zn ?_
  refine body_normal ?_
  exact body_ret0 rfl h
def n_schema_kinds_18_c1 (t0 t12 t22 t26 : Value) (R : Ending → World → Prop) (w : World) : Prop :=
 joinK (fun (t27 : Value) (w : World) =>
 pickK t12 (.bool true) t27 fun t28 =>
 callK Try.prog 62 #[t0, t28, (.int .i64 6)] (panK R) w fun t29 w =>
 R (.returned (.tuple #[])) w) fun K6 =>
 guardP t12 false (
 pickK t22 t26 (.bool false) fun t27 =>
 K6 t27 w) (
 K6 undef w)
def n_schema_kinds_18_c2 (t0 t3 t12 t22 : Value) (R : Ending → World → Prop) (w : World) : Prop :=
 joinK (fun (t26 : Value) (w : World) =>
 n_schema_kinds_18_c1 t0 t12 t22 t26 R w) fun K5 =>
 guardP t22 true (
 opV Try.prog (Instr.fieldAt 28 t3 2) (panK R) w fun t23 w =>
 opV Try.prog (Instr.loadAt 3 t23) (panK R) w fun t24 w =>
 opV Try.prog (binS .rem 3 true t24 (.int .i64 8)) (panK R) w fun t25 w =>
 opV Try.prog (binS .eql 3 true t25 (.int .i64 0)) (panK R) w fun t26 w =>
 K5 t26 w) (
 K5 undef w)
def n_schema_kinds_18_c3 (t0 t3 t12 t17 : Value) (R : Ending → World → Prop) (w : World) : Prop :=
 joinK (fun (t20 : Value) (w : World) =>
 joinK (fun (t22 : Value) (w : World) =>
 n_schema_kinds_18_c2 t0 t3 t12 t22 R w) fun K4 =>
 guardP t12 false (
 pickK t17 t20 (.bool false) fun t21 =>
 K4 t21 w) (
 K4 undef w)) fun K3 =>
 guardP t17 true (
 opV Try.prog (Instr.fieldAt 28 t3 2) (panK R) w fun t18 w =>
 opV Try.prog (Instr.loadAt 3 t18) (panK R) w fun t19 w =>
 opV Try.prog (binS .leq 3 true t19 (.int .i64 512)) (panK R) w fun t20 w =>
 K3 t20 w) (
 K3 undef w)
def n_schema_kinds_18_c4 (t0 t3 t7 t11 : Value) (R : Ending → World → Prop) (w : World) : Prop :=
 pickK t7 (.bool true) t11 fun t12 =>
 joinK (fun (t17 : Value) (w : World) =>
 n_schema_kinds_18_c3 t0 t3 t12 t17 R w) fun K2 =>
 guardP t12 false (
 opV Try.prog (Instr.fieldAt 28 t3 2) (panK R) w fun t14 w =>
 opV Try.prog (Instr.loadAt 3 t14) (panK R) w fun t15 w =>
 opV Try.prog (binS .geq 3 true t15 (.int .i64 8)) (panK R) w fun t16 w =>
 K2 t16 w) (
 K2 undef w)
def n_schema_kinds_18 (t0 t1 : Value) (R : Ending → World → Prop) (w : World) : Prop :=
 opV Try.prog (Instr.box 28 t1) (panK R) w fun t3 w =>
 opV Try.prog (Instr.fieldAt 28 t3 2) (panK R) w fun t5 w =>
 opV Try.prog (Instr.loadAt 3 t5) (panK R) w fun t6 w =>
 opV Try.prog (binS .eql 3 true t6 (.int .i64 2)) (panK R) w fun t7 w =>
 joinK (fun (t11 : Value) (w : World) =>
 n_schema_kinds_18_c4 t0 t3 t7 t11 R w) fun K1 =>
 guardP t7 false (
 opV Try.prog (Instr.fieldAt 28 t3 2) (panK R) w fun t9 w =>
 opV Try.prog (Instr.loadAt 3 t9) (panK R) w fun t10 w =>
 opV Try.prog (binS .eql 3 true t10 (.int .i64 4)) (panK R) w fun t11 w =>
 K1 t11 w) (
 K1 undef w)
set_option maxRecDepth 100000 in
set_option maxHeartbeats 4000000 in
theorem n_schema_kinds_18_sound {t0 t1 : Value} {R : Ending → World → Prop} {w : World} (h : n_schema_kinds_18 t0 t1 R w) : Calls Try.prog 103 #[t0, t1] w R := by
  refine calls_of_den (args := [t0, t1]) Try.func103 rfl (Nat.le_of_ble_eq_true rfl) ?_
  unfold n_schema_kinds_18 at h
  refine zs <| zr ?_
  refine zv h fun t3 w h => ?_
  refine zn <| zk <| sim_regionG ?_
  refine sim_seg 5 rfl ?_
  refine zm ?_
  refine zv h fun t5 w h => ?_
  refine zv h fun t6 w h => ?_
  refine zb h fun t7 w h => ?_
  refine zm <| zn ?_
  refine joinK_elim h (fun K1 hK h => ?_)
  refine sim_groupJ 3 4 false [9, 10, 11] (fun ρ w => K1 (ρ 11) w) rfl rfl (fun T hT => guardP_mono h (fun h => ?_) (fun h => ?_)) (fun σ w h => ?_)
  · refine zv h fun t9 w h => ?_
    refine zv h fun t10 w h => ?_
    refine zb h fun t11 w h => ?_
    refine zn ?_
    exact zt hT h
  · exact zt hT h
  subst hK
  refine sim_seg 2 rfl ?_
  refine sim_pick h rfl rfl rfl ?_; intro t12 h
  refine zm <| zn ?_
  refine joinK_elim h (fun K2 hK h => ?_)
  refine sim_groupJ 4 9 false [14, 15, 16, 17] (fun ρ w => K2 (ρ 17) w) rfl rfl (fun T hT => guardP_mono h (fun h => ?_) (fun h => ?_)) (fun σ w h => ?_)
  · refine zv h fun t14 w h => ?_
    refine zv h fun t15 w h => ?_
    refine zb h fun t16 w h => ?_
    refine zm <| zn ?_
    exact zt hT h
  · exact zt hT h
  subst hK
  refine joinK_elim h (fun K3 hK h => ?_)
  refine sim_groupJ 3 13 true [18, 19, 20] (fun ρ w => K3 (ρ 20) w) rfl rfl (fun T hT => guardP_mono h (fun h => ?_) (fun h => ?_)) (fun σ w h => ?_)
  · refine zv h fun t18 w h => ?_
    refine zv h fun t19 w h => ?_
    refine zb h fun t20 w h => ?_
    refine zn ?_
    exact zt hT h
  · exact zt hT h
  subst hK
  refine joinK_elim h (fun K4 hK h => ?_)
  refine sim_groupJ 2 9 false [21, 22] (fun ρ w => K4 (ρ 22) w) rfl rfl (fun T hT => guardP_mono h (fun h => ?_) (fun h => ?_)) (fun σ w h => ?_)
  · refine sim_pick h rfl rfl rfl ?_; intro t21 h
    refine zm <| zn ?_
    exact zt hT h
  · exact zt hT h
  subst hK
  refine joinK_elim h (fun K5 hK h => ?_)
  refine sim_groupJ 4 18 true [23, 24, 25, 26] (fun ρ w => K5 (ρ 26) w) rfl rfl (fun T hT => guardP_mono h (fun h => ?_) (fun h => ?_)) (fun σ w h => ?_)
  · refine zv h fun t23 w h => ?_
    refine zv h fun t24 w h => ?_
    refine zb h fun t25 w h => ?_
    refine zb h fun t26 w h => ?_
    refine zn ?_
    exact zt hT h
  · exact zt hT h
  subst hK
  refine joinK_elim h (fun K6 hK h => ?_)
  refine sim_groupJ 1 9 false [27] (fun ρ w => K6 (ρ 27) w) rfl rfl (fun T hT => guardP_mono h (fun h => ?_) (fun h => ?_)) (fun σ w h => ?_)
  · refine sim_pick h rfl rfl rfl ?_; intro t27 h
    refine zn ?_
    exact zt hT h
  · exact zt hT h
  subst hK
  refine sim_seg 2 rfl ?_
  refine sim_pick h rfl rfl rfl ?_; intro t28 h
  refine zc h c62 fun t29 w h => ?_
  refine zn <| sim_end ?_
  refine body_normal ?_
  exact body_ret0 rfl h
def n_schema_kinds_19 (t0 : Value) (R : Ending → World → Prop) (w : World) : Prop :=
 opN Try.prog (nilN t0) (panK R) w fun t4 w =>
 opV Try.prog (Instr.fieldAt 28 t4 10) (panK R) w fun t5 w =>
 opU Try.prog (Instr.storeAt 9 t5 (.string { data := #[] })) (panK R) w fun w =>
 opN Try.prog (nilN t0) (panK R) w fun t6 w =>
 opV Try.prog (Instr.fieldAt 28 t6 12) (panK R) w fun t7 w =>
 opU Try.prog (Instr.storeAt 3 t7 (.int .i64 0)) (panK R) w fun w =>
 R (.returned (.tuple #[])) w
set_option maxRecDepth 100000 in
set_option maxHeartbeats 4000000 in
theorem n_schema_kinds_19_sound {t0 : Value} {R : Ending → World → Prop} {w : World} (h : n_schema_kinds_19 t0 R w) : Calls Try.prog 104 #[t0] w R := by
  refine calls_of_den (args := [t0]) Try.func104 rfl (Nat.le_of_ble_eq_true rfl) ?_
  unfold n_schema_kinds_19 at h
  refine zr <| zm <| zm ?_
  refine sim_next h rfl rfl (fun _ _ h => ⟨rfl, h⟩) ?_; intro t4 w h
  refine zv h fun t5 w h => ?_
  refine zu h fun w h => ?_
  refine sim_next h rfl rfl (fun _ _ h => ⟨rfl, h⟩) ?_; intro t6 w h
  refine zv h fun t7 w h => ?_
  refine zu h fun w h => ?_
  refine zn ?_
  refine body_normal ?_
  exact body_ret0 rfl h
def n_schema_kinds_20_c1 (t0 t17 : Value) (C1 : World → Prop) (R : Ending → World → Prop) (w : World) : Prop :=
 qV Try.prog C1 (Instr.extract t17 0) fun t18 =>
 qV Try.prog C1 (Instr.extract t17 1) fun t19 =>
 callK Try.prog 62 #[t0, t19, (.int .i64 8)] (panK R) w fun t22 w =>
 R (.returned (.tuple #[])) w
def n_schema_kinds_20_c2 (t0 t3 : Value) (C1 : World → Prop) (R : Ending → World → Prop) (w : World) : Prop :=
 qV Try.prog C1 (Instr.fieldAt 28 t3 10) fun t15 =>
 qV Try.prog C1 (Instr.loadAt 9 t15) fun t16 =>
 callK Try.prog 78 #[t0] (panK R) w fun t13 w =>
 C1 w ∧ (
 qV Try.prog C1 (Instr.build 50 #[(1, t13)]) fun t14 =>
 callK Try.prog 20 #[t14, t16] (panK R) w fun t17 w =>
 C1 w ∧ (
 n_schema_kinds_20_c1 t0 t17 C1 R w))
def n_schema_kinds_20 (t0 t1 : Value) (R : Ending → World → Prop) (w : World) : Prop :=
 opV Try.prog (Instr.box 28 t1) (panK R) w fun t3 w =>
 opV Try.prog (Instr.fieldAt 28 t3 12) (panK R) w fun t7 w =>
 opV Try.prog (Instr.loadAt 3 t7) (panK R) w fun t8 w =>
 opV Try.prog (Instr.buildSlice 137 1 #[(0, t8)]) (panK R) w fun t9 w =>
 callK Try.prog 84 #[t0, (.int .i64 1), (.int .i64 3), t9] (panK R) w fun t10 w =>
 drawK w fun C1 w =>
 n_schema_kinds_20_c2 t0 t3 C1 R w
set_option maxRecDepth 100000 in
set_option maxHeartbeats 4000000 in
theorem n_schema_kinds_20_sound {t0 t1 : Value} {R : Ending → World → Prop} {w : World} (h : n_schema_kinds_20 t0 t1 R w) : Calls Try.prog 105 #[t0, t1] w R := by
  refine calls_of_den (args := [t0, t1]) Try.func105 rfl (Nat.le_of_ble_eq_true rfl) ?_
  unfold n_schema_kinds_20 at h
  refine zs <| zr ?_
  refine zv h fun t3 w h => ?_
  refine zn <| zk <| zs <| zr <| zm ?_
  refine zv h fun t7 w h => ?_
  refine zv h fun t8 w h => ?_
  refine sim_buildSlice h rfl (fun _ _ h => ⟨rfl, h⟩) ?_; intro t9 w h
  refine zc h c84 fun t10 w h => ?_
  refine zn <| zk <| zs ?_
  obtain ⟨C1, hC, h⟩ := h
  refine sim_draw [4, 5, 11, 12, 13, 14, 15, 16, 17, 18, 19] (by kernel_rfl) (by kernel_rfl) C1 ?_
  refine zw 0 hC ?_
  refine ze 3 hC h fun t15 h => ?_
  refine ze 4 hC h fun t16 h => ?_
  refine sim_dloud 1 rfl (by kernel_rfl) (fun _ _ => rfl) ?_
  refine sim_call h c78 rfl (fun _ _ h _ _ => ⟨rfl, h⟩) ?_; intro t13 w h
  refine zn ?_
  obtain ⟨hC, h⟩ := h
  refine ⟨hC, ?_⟩
  obtain ⟨t14, hv, h⟩ := h
  refine sim_dsilent 2 hC rfl (by kernel_rfl) (by kernel_rfl) (fun _ _ => rfl) rfl (Sw.qV_build rfl hv) ?_
  refine sim_dloud 5 rfl (by kernel_rfl) (fun _ _ => rfl) ?_
  refine sim_call h c20 rfl (fun _ _ h _ _ => ⟨rfl, h⟩) ?_; intro t17 w h
  refine zn ?_
  obtain ⟨hC, h⟩ := h
  refine ⟨hC, ?_⟩
  refine zw 6 hC ?_
  refine ze 7 hC h fun t18 h => ?_
  refine ze 8 hC h fun t19 h => ?_
  refine zw 9 hC ?_
  refine zw 10 hC ?_
  refine sim_dend (by kernel_rfl) ?_
  refine zk <| zr <| zm <| zm ?_
  refine zc h c62 fun t22 w h => ?_
  refine zn ?_
  refine body_normal ?_
  exact body_ret0 rfl h
def n_schema_kinds_21 (t0 : Value) (R : Ending → World → Prop) (w : World) : Prop :=
 opV Try.prog (Instr.build 25 #[]) (panK R) w fun t5 w =>
 opN Try.prog (nilN t0) (panK R) w fun t6 w =>
 opV Try.prog (Instr.fieldAt 28 t6 8) (panK R) w fun t7 w =>
 opU Try.prog (Instr.storeAt 9 t7 (.string { data := #[] })) (panK R) w fun w =>
 opN Try.prog (nilN t0) (panK R) w fun t8 w =>
 opV Try.prog (Instr.fieldAt 28 t8 7) (panK R) w fun t9 w =>
 opU Try.prog (Instr.storeAt 25 t9 t5) (panK R) w fun w =>
 opN Try.prog (nilN t0) (panK R) w fun t10 w =>
 opV Try.prog (Instr.fieldAt 28 t10 13) (panK R) w fun t11 w =>
 opU Try.prog (Instr.storeAt 3 t11 (.int .i64 0)) (panK R) w fun w =>
 R (.returned (.tuple #[])) w
set_option maxRecDepth 100000 in
set_option maxHeartbeats 4000000 in
theorem n_schema_kinds_21_sound {t0 : Value} {R : Ending → World → Prop} {w : World} (h : n_schema_kinds_21 t0 R w) : Calls Try.prog 106 #[t0] w R := by
  refine calls_of_den (args := [t0]) Try.func106 rfl (Nat.le_of_ble_eq_true rfl) ?_
  unfold n_schema_kinds_21 at h
  refine zr <| zm <| zm <| zm ?_
  refine sim_build h rfl (fun _ _ h => ⟨rfl, h⟩) ?_; intro t5 w h
  refine sim_next h rfl rfl (fun _ _ h => ⟨rfl, h⟩) ?_; intro t6 w h
  refine zv h fun t7 w h => ?_
  refine zu h fun w h => ?_
  refine sim_next h rfl rfl (fun _ _ h => ⟨rfl, h⟩) ?_; intro t8 w h
  refine zv h fun t9 w h => ?_
  refine zu h fun w h => ?_
  refine sim_next h rfl rfl (fun _ _ h => ⟨rfl, h⟩) ?_; intro t10 w h
  refine zv h fun t11 w h => ?_
  refine zu h fun w h => ?_
  refine zn ?_
  refine body_normal ?_
  exact body_ret0 rfl h
def n_schema_kinds_22_c1 (t0 t3 : Value) (C1 : World → Prop) (R : Ending → World → Prop) (w : World) : Prop :=
 qN Try.prog C1 (nilN t0) fun t11 =>
 qV Try.prog C1 (Instr.fieldAt 101 t11 2) fun t12 =>
 qV Try.prog C1 (Instr.loadAt 99 t12) fun t13 =>
 qV Try.prog C1 (Instr.fieldAt 28 t3 8) fun t14 =>
 qV Try.prog C1 (Instr.loadAt 9 t14) fun t15 =>
 qV Try.prog C1 (Instr.lookup 99 t13 t15 false) fun t16 =>
 callK Try.prog 62 #[t0, t16, (.int .i64 8)] (panK R) w fun t17 w =>
 C1 w ∧ (
 opV Try.prog (Instr.loadAt 28 t3) (panK R) w fun t19 w =>
 callK Try.prog 90 #[t0, t19] (panK R) w fun t20 w =>
 R (.returned (.tuple #[])) w)
def n_schema_kinds_22 (t0 t1 : Value) (R : Ending → World → Prop) (w : World) : Prop :=
 opV Try.prog (Instr.box 28 t1) (panK R) w fun t3 w =>
 opV Try.prog (Instr.fieldAt 28 t3 13) (panK R) w fun t5 w =>
 opV Try.prog (Instr.loadAt 3 t5) (panK R) w fun t6 w =>
 opV Try.prog (Instr.buildSlice 137 1 #[(0, t6)]) (panK R) w fun t7 w =>
 callK Try.prog 84 #[t0, (.int .i64 0), (.int .i64 4294967295), t7] (panK R) w fun t8 w =>
 drawK w fun C1 w =>
 n_schema_kinds_22_c1 t0 t3 C1 R w
set_option maxRecDepth 100000 in
set_option maxHeartbeats 4000000 in
theorem n_schema_kinds_22_sound {t0 t1 : Value} {R : Ending → World → Prop} {w : World} (h : n_schema_kinds_22 t0 t1 R w) : Calls Try.prog 107 #[t0, t1] w R := by
  refine calls_of_den (args := [t0, t1]) Try.func107 rfl (Nat.le_of_ble_eq_true rfl) ?_
  unfold n_schema_kinds_22 at h
  refine zs <| zr ?_
  refine zv h fun t3 w h => ?_
  refine zn <| zk <| zs <| zr <| zm ?_
  refine zv h fun t5 w h => ?_
  refine zv h fun t6 w h => ?_
  refine sim_buildSlice h rfl (fun _ _ h => ⟨rfl, h⟩) ?_; intro t7 w h
  refine zc h c84 fun t8 w h => ?_
  refine zn <| zk <| zs ?_
  obtain ⟨C1, hC, h⟩ := h
  refine sim_draw [9, 10, 11, 12, 13, 14, 15, 16, 17] (by kernel_rfl) (by kernel_rfl) C1 ?_
  refine zw 0 hC ?_
  refine zw 1 hC ?_
  obtain ⟨t11, hv, h⟩ := h
  refine sim_dsilent 2 hC rfl (by kernel_rfl) (by kernel_rfl) (fun _ _ => rfl) rfl (Sw.qN_run rfl hv) ?_
  refine ze 3 hC h fun t12 h => ?_
  refine ze 4 hC h fun t13 h => ?_
  refine ze 5 hC h fun t14 h => ?_
  refine ze 6 hC h fun t15 h => ?_
  refine ze 7 hC h fun t16 h => ?_
  refine sim_dloud 8 rfl (by kernel_rfl) (fun _ _ => rfl) ?_
  refine sim_call h c62 rfl (fun _ _ h _ _ => ⟨rfl, h⟩) ?_; intro t17 w h
  refine zn ?_
  obtain ⟨hC, h⟩ := h
  refine ⟨hC, ?_⟩
  refine sim_dend (by kernel_rfl) ?_
  refine zk <| zr <| zm ?_
  refine zv h fun t19 w h => ?_
  refine zc h c90 fun t20 w h => ?_
  refine zn ?_
  refine body_normal ?_
  exact body_ret0 rfl h
end Go.Proofs.Ytiajhbbmgglmlaa
namespace Go.Proofs.Ytiajhbbmgglmlaa
open Sw
open Go.RowKit (intOf Below)
set_option maxRecDepth 100000
abbrev flawVal (a f c : Int) : Value := .agg #[.int .i64 a, .int .i64 f, .int .i64 c]
def flawEntry (a f c : Int) : PanicEntry := { v := .iface 68 (flawVal a f c), recovered := false }
def flwR (w : World) (a f c : Int) : Ending → World → Prop := fun e w' => Ext w w' ∧ (c = 0 ∧ e = .returned (.tuple #[]) ∨ c ≠ 0 ∧ e = .panicked [flawEntry a f c])
theorem callK_flw {f : FuncId} {args : Array Value} {QP : List PanicEntry → World → Prop} {w : World} {k : Value → World → Prop} {a fl c : Int} (h : Calls Try.prog f args w (flwR w a fl c)) (hk : ∀ w', Ext w w' → c = 0 → k (.tuple #[]) w') (hp : ∀ w', Ext w w' → c ≠ 0 → QP [flawEntry a fl c] w') : callK Try.prog f args QP w k :=
  callK_calls h (fun v w' h => by rcases h with ⟨e, ⟨h1, h2⟩ | ⟨_, h2⟩⟩ <;> cases h2; exact hk w' e h1) (fun ch w' h => by rcases h with ⟨e, ⟨_, h2⟩ | ⟨h1, h2⟩⟩ <;> cases h2; exact hp w' e h1) (fun w' h => by rcases h with ⟨_, ⟨_, h2⟩ | ⟨_, h2⟩⟩ <;> cases h2)
theorem flwR_ret {w w' : World} {a f c : Int} (e : Ext w w') (h : c = 0) : flwR w a f c (.returned (.tuple #[])) w' := ⟨e, .inl ⟨h, rfl⟩⟩
theorem flwR_pan {w w' : World} {a f c c' : Int} (e : Ext w w') (h : c = c') (h0 : c' ≠ 0) : panK (flwR w a f c) [flawEntry a f c'] w' := ⟨e, .inr ⟨by rw [h]; exact h0, by rw [h]⟩⟩
def orC (a b : Int) : Int := if a = 0 then b else a
theorem orC_zero (b : Int) : orC 0 b = b := rfl
theorem orC_ne {a b : Int} (h : a ≠ 0) : orC a b = a := by unfold orC; rw [if_neg h]
def needC (b : Bool) (c : Int) : Int := if b then 0 else c
structure Chk (w : World) (cb md ms : Nat) (deps : List (ByteArray × Value)) (strs : List (ByteArray × Value)) (at_ fld : Int) (fs : List FieldD) : Prop where
  obj : ∃ dn mv ds mn fv, w.heap[cb]? = some (.cells #[.string dn, mv, .string ds, .map (some md), .map (some ms), .int .i64 at_, .int .i64 fld, .string mn, fv] 101 (0, 0)) ∧ FieldsOf w fv fs
  mdeps : MapOf w md deps
  mstrs : MapOf w ms strs
  dint : ∀ k v, lastOf deps k = some v → ∃ n, v = .int .i64 n
  sbool : ∀ k v, lastOf strs k = some v → ∃ b, v = .bool b
def strB (strs : List (ByteArray × Value)) (s : ByteArray) : Bool := match lastOf strs s with
  | some (.bool b) => b
  | _ => false
theorem Chk.strV {w : World} {cb md ms : Nat} {deps strs : List (ByteArray × Value)} {at_ fld : Int} {fs : List FieldD} (h : Chk w cb md ms deps strs at_ fld fs) (s : ByteArray) : (lastOf strs s).getD (.bool false) = .bool (strB strs s) := by
  unfold strB
  cases hl : lastOf strs s with
  | none => rfl
  | some v => obtain ⟨b, rfl⟩ := h.sbool s v hl; rfl
theorem Chk.ext {w w' : World} {cb md ms : Nat} {deps strs : List (ByteArray × Value)} {at_ fld : Int} {fs : List FieldD} (h : Chk w cb md ms deps strs at_ fld fs) (e : Ext w w') : Chk w' cb md ms deps strs at_ fld fs := by
  obtain ⟨⟨dn, mv, ds, mn, fv, h1, h2⟩, h3, h4, h5, h6⟩ := h
  exact ⟨⟨dn, mv, ds, mn, fv, e.obj h1, h2.ext e⟩, h3.ext e, h4.ext e, h5, h6⟩
section
variable {w0 : World} {cb md ms : Nat} {deps strs : List (ByteArray × Value)} {at_ fld : Int} {fs : List FieldD}
theorem need_flw (h : Chk w0 cb md ms deps strs at_ fld fs) (b : Bool) (c : Int) (hc : c ≠ 0) : Calls Try.prog 62 #[.pointer (some ⟨cb, 0, none⟩), .bool b, .int .i64 c] w0 (flwR w0 at_ fld (needC b c)) := by
  obtain ⟨⟨dn, mv, ds, mn, fv, h1, h2⟩, h3, h4, h5, h6⟩ := h
  refine n_schema_checker_need_sound ?_; unfold n_schema_checker_need
  cases b with
  | true =>
    simp (disch := first | assumption | (simp only [ONE]; done) | rfl | (simp only [SZ]; done) | omega | (simp only [SZ] at *; omega)) only [↓PR, QR, Int.reduceBEq, Int.reduceBNe, Int.reduceLT, Int.reduceLE, Int.reduceGT, Int.reduceGE, Int.reduceNeg, ↓n_schema_checker_need_c1]
    exact flwR_ret (Ext.refl _) rfl
  | false =>
    simp (disch := first | assumption | (simp only [ONE]; done) | rfl | (simp only [SZ]; done) | omega | (simp only [SZ] at *; omega)) only [↓PR, QR, Int.reduceBEq, Int.reduceBNe, Int.reduceLT, Int.reduceLE, Int.reduceGT, Int.reduceGE, Int.reduceNeg, ↓n_schema_checker_need_c1]
    refine drawK_intro ?_
    simp (disch := first | assumption | (simp only [ONE]; done) | rfl | (simp only [SZ]; done) | omega | (simp only [SZ] at *; omega)) only [↓PR, QR, Int.reduceBEq, Int.reduceBNe, Int.reduceLT, Int.reduceLE, Int.reduceGT, Int.reduceGE, Int.reduceNeg, ↓n_schema_checker_need_c1, (cells_of_heap h1).1]
    rw [op_panic]
    exact flwR_pan (Ext.refl _).drew rfl hc
theorem before_ret (h : Chk w0 cb md ms deps strs at_ fld fs) (i : Nat) (hi : fld = i) (hlt : i < fs.length) : Ret Try.prog 78 #[.pointer (some ⟨cb, 0, none⟩)] w0 fun r w' => FieldsOf w' r (fs.take i) ∧ Ext w0 w' := by
  obtain ⟨⟨dn, mv, ds, mn, fv, h1, h2⟩, h3, h4, h5, h6⟩ := h
  obtain ⟨A, c, rfl, hlc, hcm, hlm, hel⟩ := SliceOf.open h2
  obtain ⟨x, hx⟩ := getElem?_lt hlt
  obtain ⟨b, o, _, rfl, _⟩ := hel i x hx
  subst hi
  refine n_schema_checker_before_sound (R := retR _) ?_; unfold n_schema_checker_before
  refine drawK_intro ?_
  simp (disch := first | assumption | (simp only [ONE]; done) | rfl | (simp only [SZ]; done) | omega | (simp only [SZ] at *; omega)) only [↓PR, QR, Int.reduceBEq, Int.reduceBNe, Int.reduceLT, Int.reduceLE, Int.reduceGT, Int.reduceGE, Int.reduceNeg, ↓n_schema_checker_before_c1, (cells_of_heap h1).1]
  rw [qV_of fun QP w' k => op_sliceTo Try.underlying48 ty28 b o fs.length c .i64 i (by omega)]
  simp (disch := first | assumption | (simp only [ONE]; done) | rfl | (simp only [SZ]; done) | omega | (simp only [SZ] at *; omega)) only [↓PR, QR, Int.reduceBEq, Int.reduceBNe, Int.reduceLT, Int.reduceLE, Int.reduceGT, Int.reduceGE, Int.reduceNeg]
  refine ⟨?_, ee⟩
  have hlen : (fs.take i).length = i := by rw [List.length_take]; omega
  refine ⟨_, c, by rw [hlen], by rw [hlen]; omega, hcm, fun _ => ⟨b, o, rfl, fun k y hy => ?_⟩⟩
  rw [List.getElem?_take] at hy
  split at hy
  · obtain ⟨b', o', cs, hA, hl, hA2, hE⟩ := hel k y hy
    injection hA with hA
    injection hA with h5 h6
    subst h5 h6
    have e : Ext w0 (drew w0) := (Ext.refl w0).drew
    exact ⟨cs, hl, hA2.ext e, keptField _ _ _ _ e hE⟩
  · cases hy
theorem refer_flw (h : Chk w0 cb md ms deps strs at_ fld fs) (s : ByteArray) : Calls Try.prog 97 #[.pointer (some ⟨cb, 0, none⟩), .string s] w0 (flwR w0 at_ fld (needC (lastOf deps s).isSome 8)) := by
  have h' := h
  obtain ⟨⟨dn, mv, ds, mn, fv, h1, h2⟩, h3, h4, h5, h6⟩ := h
  refine n_schema_checker_refer_sound ?_; unfold n_schema_checker_refer
  simp (disch := first | assumption | (simp only [ONE]; done) | rfl | (simp only [SZ]; done) | omega | (simp only [SZ] at *; omega)) only [↓PR, QR, Int.reduceBEq, Int.reduceBNe, Int.reduceLT, Int.reduceLE, Int.reduceGT, Int.reduceGE, Int.reduceNeg, Sw.joinK_eq, (cells_of_heap h1).1]
  rw [op_lookupO Try.underlying98 Try.underlying9 ty3 h3]
  simp (disch := first | assumption | (simp only [ONE]; done) | rfl | (simp only [SZ]; done) | omega | (simp only [SZ] at *; omega)) only [↓PR, QR, Int.reduceBEq, Int.reduceBNe, Int.reduceLT, Int.reduceLE, Int.reduceGT, Int.reduceGE, Int.reduceNeg]
  refine callK_flw (need_flw h' _ 8 (by decide)) (fun w' e h0 => ?_) (fun w' e h0 => ?_)
  · exact flwR_ret e h0
  · exact flwR_pan e rfl h0
def withinC (high : Int) : Int → List Int → Int
  | _, [] => 0
  | low, n :: l => orC (needC (decide (low ≤ n) && decide (n ≤ high)) 7) (withinC high n l)
def IntsOf (w : World) (v : Value) (l : List Int) : Prop := SliceOf w 1 EInt v l
theorem ints1 {w : World} {p : Nat} (hp : p = w.heap.size) (a : Int) (T : TypeId) : IntsOf (w.alloc (.cells #[.int .i64 a] T)) (.slice (some ⟨p, 0, none⟩) 1 1) [a] := by
  subst hp; exact SliceOf.new1 (E := EInt) (fun n : Int => .int .i64 n) (fun _ _ => rfl) w [a] T (by simp)
theorem ints2 {w : World} {p : Nat} (hp : p = w.heap.size) (a b : Int) (T : TypeId) : IntsOf (w.alloc (.cells #[.int .i64 a, .int .i64 b] T)) (.slice (some ⟨p, 0, none⟩) 2 2) [a, b] := by
  subst hp; exact SliceOf.new1 (E := EInt) (fun n : Int => .int .i64 n) (fun _ _ => rfl) w [a, b] T (by simp)
theorem within_flw (h : Chk w0 cb md ms deps strs at_ fld fs) (low high : Int) (v : Value) (l : List Int) (hs : IntsOf w0 v l) : Calls Try.prog 84 #[.pointer (some ⟨cb, 0, none⟩), .int .i64 low, .int .i64 high, v] w0 (flwR w0 at_ fld (withinC high low l)) := by
  obtain ⟨A, c, rfl, hlc, hcm, hlm, hel⟩ := SliceOf.open hs
  refine n_schema_checker_within_sound ?_; unfold n_schema_checker_within
  simp (disch := first | assumption | (simp only [ONE]; done) | rfl | (simp only [SZ]; done) | omega | (simp only [SZ] at *; omega)) only [↓PR, QR, Int.reduceBEq, Int.reduceBNe, Int.reduceLT, Int.reduceLE, Int.reduceGT, Int.reduceGE, Int.reduceNeg]
  refine loop2_intro (fun a0 a1 w => ∃ (k : Nat) (n : Int), a0 = .int .i64 n ∧ a1 = .int .i64 (k : Int) ∧ k ≤ l.length ∧ Ext w0 w ∧ withinC high n (l.drop k) = withinC high low l) (fun a0 a1 _ => l.length - (intOf a1).toNat) ⟨0, low, rfl, rfl, Nat.zero_le _, ee, rfl⟩ ?_
  rintro _ _ w ⟨k, n, rfl, rfl, hk, e, hI⟩
  have se := e.size
  rcases drop_cases hk with ⟨x, hx, hd, hlt, hdec⟩ | ⟨hk, hd, hdec⟩
  · obtain ⟨b, o, cs, rfl, hl, hA, rfl⟩ := hel k x hx
    rw [hd] at hI
    simp only [withinC] at hI
    simp (disch := first | assumption | (simp only [ONE]; done) | rfl | (simp only [SZ]; done) | omega | (simp only [SZ] at *; omega)) only [↓PR, QR, Int.reduceBEq, Int.reduceBNe, Int.reduceLT, Int.reduceLE, Int.reduceGT, Int.reduceGE, Int.reduceNeg, ↓n_schema_checker_within_c1, ↓n_schema_checker_within_c2, hdec, hA.c1]
    refine callK_flw (need_flw (h.ext e) _ 7 (by decide)) (fun w' e1 h0 => ?_) (fun w' e1 h0 => ?_)
    · rw [h0, orC_zero] at hI
      simp (disch := first | assumption | (simp only [ONE]; done) | rfl | (simp only [SZ]; done) | omega | (simp only [SZ] at *; omega)) only [↓PR, QR, Int.reduceBEq, Int.reduceBNe, Int.reduceLT, Int.reduceLE, Int.reduceGT, Int.reduceGE, Int.reduceNeg, ↓n_schema_checker_within_c1, ↓n_schema_checker_within_c2]
      exact ⟨⟨k + 1, _, rfl, rfl, by omega, ee, hI⟩, meas_lt hlt⟩
    · rw [orC_ne h0] at hI
      exact flwR_pan (e.trans e1) hI.symm h0
  · subst hk
    simp (disch := first | assumption | (simp only [ONE]; done) | rfl | (simp only [SZ]; done) | omega | (simp only [SZ] at *; omega)) only [↓PR, QR, Int.reduceBEq, Int.reduceBNe, Int.reduceLT, Int.reduceLE, Int.reduceGT, Int.reduceGE, Int.reduceNeg, ↓n_schema_checker_within_c1, ↓n_schema_checker_within_c2, hdec]
    rw [hd] at hI
    exact flwR_ret e hI.symm
def bitsB (f : FieldD) : Bool := decide (1 ≤ f.bits) && decide (f.bits ≤ 32) && (!f.little || (decide (8 < f.bits) && (f.bits.tmod 8 == 0)))
theorem bits_flw (h : Chk w0 cb md ms deps strs at_ fld fs) (v : Value) (f : FieldD) (hf : FieldVal w0 v f) : Calls Try.prog 83 #[.pointer (some ⟨cb, 0, none⟩), v] w0 (flwR w0 at_ fld (needC (bitsB f) 6)) := by
  obtain ⟨tv, cv, rfl, hT, hC, ht1, hc1⟩ := hf.op
  refine n_schema_checker_bits_sound ?_; unfold n_schema_checker_bits
  simp (disch := first | assumption | (simp only [ONE]; done) | rfl | (simp only [SZ]; done) | omega | (simp only [SZ] at *; omega)) only [↓PR, QR, Int.reduceBEq, Int.reduceBNe, Int.reduceLT, Int.reduceLE, Int.reduceGT, Int.reduceGE, Int.reduceNeg, ↓n_schema_checker_bits_c1, ↓n_schema_checker_bits_c2, ↓n_schema_checker_bits_c3, ↓n_schema_checker_bits_c4]
  have e0 : Ext w0 (w0.alloc (Obj.cells (fieldCells f tv cv).toArray 28)) := ee
  have fin : ∀ b, b = bitsB f → callK Try.prog 62 #[.pointer (some ⟨cb, 0, none⟩), .bool b, .int .i64 6] (panK (flwR w0 at_ fld (needC (bitsB f) 6))) (w0.alloc (Obj.cells (fieldCells f tv cv).toArray 28)) (fun _ w => flwR w0 at_ fld (needC (bitsB f) 6) (.returned (.tuple #[])) w) := by
    rintro b rfl
    exact callK_flw (need_flw (h.ext e0) _ 6 (by decide)) (fun w' e1 h0 => flwR_ret (e0.trans e1) h0) (fun w' e1 h0 => flwR_pan (e0.trans e1) rfl h0)
  unfold bitsB at fin ⊢
  generalize decide (1 ≤ f.bits) = b1 at fin ⊢
  generalize decide (f.bits ≤ 32) = b2 at fin ⊢
  generalize f.little = b3 at fin ⊢
  generalize decide (8 < f.bits) = b4 at fin ⊢
  generalize (f.bits.tmod 8 == 0) = b5 at fin ⊢
  cases b1 <;> cases b2 <;> cases b3 <;> cases b4 <;> cases b5 <;> simp (disch := first | assumption | (simp only [ONE]; done) | rfl | (simp only [SZ]; done) | omega | (simp only [SZ] at *; omega)) only [↓PR, QR, Int.reduceBEq, Int.reduceBNe, Int.reduceLT, Int.reduceLE, Int.reduceGT, Int.reduceGE, Int.reduceNeg, ↓n_schema_checker_bits_c1, ↓n_schema_checker_bits_c2, ↓n_schema_checker_bits_c3, ↓n_schema_checker_bits_c4] <;> exact fin _ rfl
def namesC (rp : List (ByteArray × Int × Int)) : List TermD → Int
  | [] => 0
  | t :: ts => orC (needC (lastR rp t.field).isSome 8) (namesC rp ts)
def lenB (base : Int) (ts : List TermD) (rp : List (ByteArray × Int × Int)) : Bool := (intervalE base ts rp == 0) && decide (0 ≤ intervalL base ts rp) && decide (intervalH base ts rp ≤ 1048576)
def sizedC (rp : List (ByteArray × Int × Int)) (f : FieldD) : Int := orC (needC (sizeB f.base f.terms) 9) (orC (namesC rp f.terms) (needC (lenB f.base f.terms rp) 9))
theorem sized_flw (h : Chk w0 cb md ms deps strs at_ fld fs) (i : Nat) (hi : fld = i) (hlt : i < fs.length) (v : Value) (f : FieldD) (hf : FieldVal w0 v f) (ht : f.terms.length ≤ 1048576) :
    Calls Try.prog 90 #[.pointer (some ⟨cb, 0, none⟩), v] w0 (flwR w0 at_ fld (sizedC (numR (fs.take i)) f)) := by
  obtain ⟨tv, cv, rfl, hT, hC, ht1, hc1⟩ := hf.op
  refine n_schema_checker_sized_sound ?_; unfold n_schema_checker_sized
  simp (disch := first | assumption | (simp only [ONE]; done) | rfl | (simp only [SZ]; done) | omega | (simp only [SZ] at *; omega)) only [↓PR, QR, Int.reduceBEq, Int.reduceBNe, Int.reduceLT, Int.reduceLE, Int.reduceGT, Int.reduceGE, Int.reduceNeg, ↓n_schema_checker_sized_c1, ↓n_schema_checker_sized_c2, ↓n_schema_checker_sized_c3, ↓n_schema_checker_sized_c4, ↓n_schema_checker_sized_c5, ↓n_schema_checker_sized_c6, ↓n_schema_checker_sized_c7, ↓n_schema_checker_sized_c8]
  generalize hW : World.alloc (World.alloc w0 _) _ = W
  have e0 : Ext w0 W := by rw [← hW]; exact ee
  have o2 : W.heap[w0.heap.size]? = some (.cells #[.pointer (some ⟨cb, 0, none⟩)] 93 (0, 0)) := by rw [← hW]; simp (disch := first | assumption | (simp only [ONE]; done) | rfl | (simp only [SZ]; done) | omega | (simp only [SZ] at *; omega)) only [↓PR, QR, Int.reduceBEq, Int.reduceBNe, Int.reduceLT, Int.reduceLE, Int.reduceGT, Int.reduceGE, Int.reduceNeg]
  have o3 : W.heap[w0.heap.size + 1]? = some (.cells (fieldCells f tv cv).toArray 28 (0, 0)) := by rw [← hW]; simp (disch := first | assumption | (simp only [ONE]; done) | rfl | (simp only [SZ]; done) | omega | (simp only [SZ] at *; omega)) only [↓PR, QR, Int.reduceBEq, Int.reduceBNe, Int.reduceLT, Int.reduceLE, Int.reduceGT, Int.reduceGE, Int.reduceNeg]
  clear hW
  simp only [World.size_alloc]
  refine drawK_intro ?_
  simp (disch := first | assumption | (simp only [ONE]; done) | rfl | (simp only [SZ]; done) | omega | (simp only [SZ] at *; omega)) only [↓PR, QR, Int.reduceBEq, Int.reduceBNe, Int.reduceLT, Int.reduceLE, Int.reduceGT, Int.reduceGE, Int.reduceNeg, ↓n_schema_checker_sized_c1, ↓n_schema_checker_sized_c2, ↓n_schema_checker_sized_c3, ↓n_schema_checker_sized_c4, ↓n_schema_checker_sized_c5, ↓n_schema_checker_sized_c6, ↓n_schema_checker_sized_c7, ↓n_schema_checker_sized_c8, (cells_of_heap o2).1, (cells_of_heap o3).1]
  refine callK_ret (Valid_ret _ _ f.base f.terms ⟨tv, rfl, TermsOf.ext hT ee⟩) ?_
  rintro _ w1 ⟨rfl, e1⟩
  refine ⟨e1, ?_⟩
  unfold sizedC
  refine callK_flw (need_flw (h.ext (e0.wdrew.trans e1)) _ 9 (by decide)) (fun w2 e2 h0 => ?_) (fun w2 e2 h0 => ?_)
  · rw [h0, orC_zero]
    refine ⟨e1.trans e2, ?_⟩
    have e3 : Ext W w2 := (Ext.refl W).wdrew.trans (e1.trans e2)
    have hv : sizeB f.base f.terms = true := by
      cases hb : sizeB f.base f.terms with
      | true => rfl
      | false => rw [hb] at h0; exact absurd h0 (by decide)
    simp (disch := first | assumption | (simp only [ONE]; done) | rfl | (simp only [SZ]; done) | omega | (simp only [SZ] at *; omega)) only [↓PR, QR, Int.reduceBEq, Int.reduceBNe, Int.reduceLT, Int.reduceLE, Int.reduceGT, Int.reduceGE, Int.reduceNeg, ↓n_schema_checker_sized_c1, ↓n_schema_checker_sized_c2, ↓n_schema_checker_sized_c3, ↓n_schema_checker_sized_c4, ↓n_schema_checker_sized_c5, ↓n_schema_checker_sized_c6, ↓n_schema_checker_sized_c7, ↓n_schema_checker_sized_c8, (cells_of_heap (e3.obj o2)).1]
    refine callK_ret (before_ret (h.ext (e0.trans e3)) i hi hlt) ?_
    rintro bv w4 ⟨hB, e4⟩
    simp (disch := first | assumption | (simp only [ONE]; done) | rfl | (simp only [SZ]; done) | omega | (simp only [SZ] at *; omega)) only [↓PR, QR, Int.reduceBEq, Int.reduceBNe, Int.reduceLT, Int.reduceLE, Int.reduceGT, Int.reduceGE, Int.reduceNeg, ↓n_schema_checker_sized_c1, ↓n_schema_checker_sized_c2, ↓n_schema_checker_sized_c3, ↓n_schema_checker_sized_c4, ↓n_schema_checker_sized_c5, ↓n_schema_checker_sized_c6, ↓n_schema_checker_sized_c7, ↓n_schema_checker_sized_c8]
    refine callK_ret (ranges_ret _ _ _ hB) ?_
    rintro _ w5 ⟨m, rfl, hmlo, hM, e5⟩
    rw [numPairs_RP] at hM
    have e6 : Ext W w5 := e3.trans (e4.trans e5)
    have l3 : w0.heap.size + 1 < w5.heap.size := (Array.getElem?_eq_some_iff.1 (e6.obj o3)).1
    simp (disch := first | assumption | (simp only [ONE]; done) | rfl | (simp only [SZ]; done) | omega | (simp only [SZ] at *; omega)) only [↓PR, QR, Int.reduceBEq, Int.reduceBNe, Int.reduceLT, Int.reduceLE, Int.reduceGT, Int.reduceGE, Int.reduceNeg, ↓n_schema_checker_sized_c1, ↓n_schema_checker_sized_c2, ↓n_schema_checker_sized_c3, ↓n_schema_checker_sized_c4, ↓n_schema_checker_sized_c5, ↓n_schema_checker_sized_c6, ↓n_schema_checker_sized_c7, ↓n_schema_checker_sized_c8, (cells_of_heap (e6.obj o3)).1]
    have e6' : Ext w0 w5 := e0.trans e6
    refine callK_ret (Names_ret _ _ f.base f.terms ⟨tv, rfl, TermsOf.ext hT ee⟩ ht) ?_
    rintro _ w7 ⟨pb, tv2, rfl, hTA, _, e7⟩
    rw [hv, if_pos rfl] at hTA
    have s7 := e7.size
    simp only [World.size_alloc] at s7
    have e8 : Ext W w7 := ee
    have p4 : w7.heap[w5.heap.size]? = some (.cells #[.map (some m)] 53 (0, 0)) := by simp (disch := first | assumption | (simp only [ONE]; done) | rfl | (simp only [SZ]; done) | omega | (simp only [SZ] at *; omega)) only [↓PR, QR, Int.reduceBEq, Int.reduceBNe, Int.reduceLT, Int.reduceLE, Int.reduceGT, Int.reduceGE, Int.reduceNeg, e7.heapQ]
    have hM7 : MapOf w7 m (RP (numR (fs.take i))) := hM.ext (((Ext.refl _).alloc _).trans e7)
    have h7 : Chk w7 cb md ms deps strs at_ fld fs := h.ext (e0.trans e8)
    have o2' := e8.obj o2
    have o3' := e8.obj o3
    have e07 : Ext w0 w7 := e0.trans e8
    clear e7 e6 e5 e4 e3 e2 e1 hM hB hmlo s7 l3 o2 o3 e8 e6'
    unfold n_schema_checker_sized_c5
    have hLI : ∀ k, Lasts w7.heap.size (fun w => Ext w7 w ∧ namesC (numR (fs.take i)) (f.terms.drop k) = namesC (numR (fs.take i)) f.terms) := fun k => Lasts.and (Lasts.from (Nat.le_refl _)) (Lasts.const _ _)
    refine ⟨_, _, f.terms.length, namesX f.terms, fun w => TermsAt w pb tv2 f.terms, fun k w => Ext w7 w ∧ namesC (numR (fs.take i)) (f.terms.drop k) = namesC (numR (fs.take i)) f.terms, fun _ _ => False,
      fun ch w => Ext w7 w ∧ ∃ c, c ≠ 0 ∧ ch = [flawEntry at_ fld c] ∧ namesC (numR (fs.take i)) f.terms = c, rfl, c116, Names_seq pb tv2 f.terms, ⟨Ext.refl _, rfl⟩, fun k w h => hTA.ext h.1, hLI, fun _ => Lasts.const _ _, ?_, ?_, ?_, ?_⟩
    · intro rec j w3 hj hI3 hrec hready
      refine ⟨hready, fun w4 hbz => ?_⟩
      have hrec4 := hrec.busied hbz
      obtain ⟨e4, hF⟩ := (hLI j).busied hbz (Nat.le_succ _) hI3
      clear hI3 hrec hready hbz
      obtain ⟨t, hx⟩ := getElem?_lt hj
      rw [show namesX f.terms j = .string t.field by unfold namesX; rw [hx]]
      have hd : f.terms.drop j = t :: f.terms.drop (j + 1) := by
        rw [List.drop_eq_getElem_cons hj]
        congr 1
        exact (List.getElem?_eq_some_iff.1 hx).2
      rw [hd] at hF
      simp only [namesC] at hF
      have o2 := e4.obj o2'
      have l2 : w0.heap.size < w4.heap.size := (Array.getElem?_eq_some_iff.1 o2).1
      simp (disch := first | assumption | (simp only [ONE]; done) | rfl | (simp only [SZ]; done) | omega | (simp only [SZ] at *; omega)) only [↓PR, QR, Int.reduceBEq, Int.reduceBNe, Int.reduceLT, Int.reduceLE, Int.reduceGT, Int.reduceGE, Int.reduceNeg, ↓n_schema_checker_sized_c1, ↓n_schema_checker_sized_c2, ↓n_schema_checker_sized_c3, ↓n_schema_checker_sized_c4, ↓n_schema_checker_sized_c5, ↓n_schema_checker_sized_c6, ↓n_schema_checker_sized_c7, ↓n_schema_checker_sized_c8, (cells_of_heap (e4.obj p4)).1]
      rw [op_lookupO Try.underlying53 Try.underlying9 ty31 (hM7.ext e4), lastOf_RP]
      have fin : ∀ w5 b, Ext w4 w5 → b = (lastR (numR (fs.take i)) t.field).isSome → callK Try.prog 62 #[.pointer (some ⟨cb, 0, none⟩), .bool b, .int .i64 8] (fun ch w'' => RecAt rec w7.heap.size w'' ∧ Ext w7 w'' ∧ ∃ c, c ≠ 0 ∧ ch = [flawEntry at_ fld c] ∧ namesC (numR (fs.take i)) f.terms = c) w5 (fun _ w'' => RecAt rec w7.heap.size w'' ∧ Ext w7 w'' ∧ namesC (numR (fs.take i)) (f.terms.drop (j + 1)) = namesC (numR (fs.take i)) f.terms) := by
        rintro w5 b e5 rfl
        refine callK_flw (need_flw (h7.ext (e4.trans e5)) _ 8 (by decide)) (fun w6 e6 h0 => ?_) (fun w6 e6 h0 => ?_)
        · rw [h0, orC_zero] at hF
          exact ⟨hrec4.ext (e5.trans e6), e4.trans (e5.trans e6), hF⟩
        · rw [orC_ne h0] at hF
          exact ⟨hrec4.ext (e5.trans e6), e4.trans (e5.trans e6), _, h0, rfl, hF.symm⟩
      cases hl : lastR (numR (fs.take i)) t.field with
      | none =>
        rw [hl] at fin
        simp (disch := first | assumption | (simp only [ONE]; done) | rfl | (simp only [SZ]; done) | omega | (simp only [SZ] at *; omega)) only [↓PR, QR, Int.reduceBEq, Int.reduceBNe, Int.reduceLT, Int.reduceLE, Int.reduceGT, Int.reduceGE, Int.reduceNeg, ↓n_schema_checker_sized_c1, ↓n_schema_checker_sized_c2, ↓n_schema_checker_sized_c3, ↓n_schema_checker_sized_c4, ↓n_schema_checker_sized_c5, ↓n_schema_checker_sized_c6, ↓n_schema_checker_sized_c7, ↓n_schema_checker_sized_c8, (cells_of_heap o2).1, Option.map_none]
        exact fin _ _ ee rfl
      | some q =>
        obtain ⟨lo, hi⟩ := q
        rw [hl] at fin
        simp (disch := first | assumption | (simp only [ONE]; done) | rfl | (simp only [SZ]; done) | omega | (simp only [SZ] at *; omega)) only [↓PR, QR, Int.reduceBEq, Int.reduceBNe, Int.reduceLT, Int.reduceLE, Int.reduceGT, Int.reduceGE, Int.reduceNeg, ↓n_schema_checker_sized_c1, ↓n_schema_checker_sized_c2, ↓n_schema_checker_sized_c3, ↓n_schema_checker_sized_c4, ↓n_schema_checker_sized_c5, ↓n_schema_checker_sized_c6, ↓n_schema_checker_sized_c7, ↓n_schema_checker_sized_c8, (cells_of_heap o2).1, rangeVal]
        exact fin _ _ ee rfl
    · rintro w3 ⟨e3, hF⟩ hmk
      rw [List.drop_length] at hF
      have l7 : w7.heap.size < w3.heap.size := (Array.getElem?_eq_some_iff.1 hmk).1
      rw [← hF]
      show n_schema_checker_sized_c4 _ _ _ _ (flwR w0 at_ fld (orC 0 _)) w3
      rw [orC_zero]
      simp (disch := first | assumption | (simp only [ONE]; done) | rfl | (simp only [SZ]; done) | omega | (simp only [SZ] at *; omega)) only [↓PR, QR, Int.reduceBEq, Int.reduceBNe, Int.reduceLT, Int.reduceLE, Int.reduceGT, Int.reduceGE, Int.reduceNeg, ↓n_schema_checker_sized_c1, ↓n_schema_checker_sized_c2, ↓n_schema_checker_sized_c3, ↓n_schema_checker_sized_c4, ↓n_schema_checker_sized_c5, ↓n_schema_checker_sized_c6, ↓n_schema_checker_sized_c7, ↓n_schema_checker_sized_c8, (cells_of_heap (e3.obj o3')).1, (cells_of_heap (e3.obj p4)).1]
      refine callK_ret (Interval_ret _ _ f.base f.terms m _ ⟨tv, rfl, TermsOf.ext hT (e07.trans e3)⟩ ht (hM7.ext e3)) ?_
      rintro _ w4 ⟨rfl, e4⟩
      have s4 := e4.size
      have o2 := (e3.trans e4).obj o2'
      have l2 : w0.heap.size < w4.heap.size := (Array.getElem?_eq_some_iff.1 o2).1
      simp (disch := first | assumption | (simp only [ONE]; done) | rfl | (simp only [SZ]; done) | omega | (simp only [SZ] at *; omega)) only [↓PR, QR, Int.reduceBEq, Int.reduceBNe, Int.reduceLT, Int.reduceLE, Int.reduceGT, Int.reduceGE, Int.reduceNeg, ↓n_schema_checker_sized_c1, ↓n_schema_checker_sized_c2, ↓n_schema_checker_sized_c3, ↓n_schema_checker_sized_c4, ↓n_schema_checker_sized_c5, ↓n_schema_checker_sized_c6, ↓n_schema_checker_sized_c7, ↓n_schema_checker_sized_c8, (cells_of_heap o2).1, rangeVal]
      have e5 : Ext w3 (w4.alloc (Obj.cells #[.int .i64 (intervalL f.base f.terms (numR (fs.take i))), .int .i64 (intervalH f.base f.terms (numR (fs.take i)))] 31)) := e4.alloc _
      have s07 := e07.size
      refine callK_flw (need_flw (h7.ext (e3.trans e5)) (lenB f.base f.terms (numR (fs.take i))) 9 (by decide)) (fun w6 e6 h0 => ?_) (fun w6 e6 h0 => ?_)
      · refine outX_mark (hmk.ext (e5.trans e6)) ?_
        rw [outX_nil]
        exact flwR_ret (((e07.trans e3).trans (e5.trans e6)).putObj (by omega) _) h0
      · refine outQ_mark (hmk.ext (e5.trans e6)) ?_
        rw [outQ_nil]
        exact flwR_pan (((e07.trans e3).trans (e5.trans e6)).putObj (by omega) _) rfl h0
    · rintro c w3 h
      exact h.elim
    · rintro ch w3 ⟨e3, c, hc, rfl, hF⟩ hmk
      have l7 : w7.heap.size < w3.heap.size := (Array.getElem?_eq_some_iff.1 hmk).1
      rw [hF, orC_ne hc]
      refine outQ_mark hmk ?_
      rw [outQ_nil]
      exact flwR_pan (by have := e07.size; exact ee) rfl hc
  · rw [orC_ne h0]
    exact flwR_pan (e0.wdrew.trans (e1.trans e2)) rfl h0
end
end Go.Proofs.Ytiajhbbmgglmlaa
namespace Go.Proofs.Ytiajhbbmgglmlaa
open Sw
open Go.RowKit (intOf Below)
set_option maxRecDepth 100000
theorem ContainsFunc_Field_ret (w0 : World) (v : Value) (l : List FieldD) (g : FuncId) (caps : Array Value) (p : FieldD → Bool) (hs : FieldsOf w0 v l) (hg : Callable Try.prog g) (hc : Tests w0 FieldVal g caps p l) :
    Ret Try.prog 111 #[v, .func (.func g) #[] caps] w0 fun r w' => r = .bool (l.any p) ∧ Ext w0 w' := by
  refine n_slices_ContainsFunc_api_Field_sound (R := retR _) ?_; unfold n_slices_ContainsFunc_api_Field
  refine callK_ret (IndexFunc_Field_ret _ _ l g caps p hs hg hc) ?_
  rintro r w' ⟨rfl, e⟩
  simp (disch := first | assumption | (simp only [ONE]; done) | rfl | (simp only [SZ]; done) | omega | (simp only [SZ] at *; omega)) only [↓PR, QR, Int.reduceBEq, Int.reduceBNe, Int.reduceLT, Int.reduceLE, Int.reduceGT, Int.reduceGE, Int.reduceNeg, Sw.joinK_eq]
  exact ⟨by rw [idx_neg], e⟩
def taggedP (tag : ByteArray) (o : FieldD) : Bool := o.kind == 9 && decide (o.tag = tag)
theorem casesS1_ret (w0 : World) (v : Value) (o f : FieldD) (pb : Nat) (tv cv : Value) (hv : FieldVal w0 v o) (hp : w0.heap[pb]? = some (.cells (fieldCells f tv cv).toArray 28 (0, 0))) :
    Ret Try.prog 112 #[v, .pointer (some ⟨pb, 0, none⟩)] w0 fun r w' => r = .bool (taggedP f.tag o) ∧ Ext w0 w' := by
  obtain ⟨tv', cv', rfl, hT, hC, ht1, hc1⟩ := hv.op
  have hlt := (Array.getElem?_eq_some_iff.1 hp).1
  refine n_schema_checker_cases_1_sound (R := retR _) ?_; unfold n_schema_checker_cases_1
  simp (disch := first | assumption | (simp only [ONE]; done) | rfl | (simp only [SZ]; done) | omega | (simp only [SZ] at *; omega)) only [↓PR, QR, Int.reduceBEq, Int.reduceBNe, Int.reduceLT, Int.reduceLE, Int.reduceGT, Int.reduceGE, Int.reduceNeg, Sw.joinK_eq, (cells_of_heap hp).1]
  exact ⟨by first | trivial | rfl, ee⟩
def casesL (hi : Int) (deps : List (ByteArray × Value)) : Int → List CaseD → Int
  | _, [] => 0
  | low, x :: xs => orC (withinC hi low [x.low, x.high]) (orC (needC (lastOf deps x.of).isSome 8) (casesL hi deps (IntKind.i64.wrap (x.high + 1)) xs))
def casesC (bef : List FieldD) (deps : List (ByteArray × Value)) (f : FieldD) : Int :=
  orC (needC ((lastR (numR bef) f.tag).isSome && !bef.any (taggedP f.tag)) 8) (orC (needC (decide (1 ≤ (f.cases.length : Int)) && decide ((f.cases.length : Int) ≤ 40)) 3) (casesL (((lastR (numR bef) f.tag).getD (0, 0)).2) deps (((lastR (numR bef) f.tag).getD (0, 0)).1) f.cases))
section
variable {w0 : World} {cb md ms : Nat} {deps strs : List (ByteArray × Value)} {at_ fld : Int} {fs : List FieldD}
theorem cases_tail {a0 : World} (e00 : Ext a0 w0) (h : Chk w0 cb md ms deps strs at_ fld fs) (pf p4 : Nat) (f : FieldD) (tv cv : Value) (lo hi : Int) (hC : CasesOf w0 cv f.cases) (o3 : w0.heap[pf]? = some (.cells (fieldCells f tv cv).toArray 28 (0, 0))) (o4 : w0.heap[p4]? = some (.cells #[.int .i64 lo, .int .i64 hi] 31 (0, 0))) :
    n_schema_checker_cases_c4 (.pointer (some ⟨cb, 0, none⟩)) (.pointer (some ⟨pf, 0, none⟩)) (.pointer (some ⟨p4, 0, none⟩)) (flwR a0 at_ fld (casesL hi deps lo f.cases)) w0 := by
  obtain ⟨A, c, rfl, hlc, hcm, hlm, hel⟩ := SliceOf.open hC
  simp (disch := first | assumption | (simp only [ONE]; done) | rfl | (simp only [SZ]; done) | omega | (simp only [SZ] at *; omega)) only [↓PR, QR, Int.reduceBEq, Int.reduceBNe, Int.reduceLT, Int.reduceLE, Int.reduceGT, Int.reduceGE, Int.reduceNeg, ↓n_schema_checker_cases_c1, ↓n_schema_checker_cases_c2, ↓n_schema_checker_cases_c3, ↓n_schema_checker_cases_c4, ↓n_schema_checker_cases_c5, ↓n_schema_checker_cases_c6, ↓n_schema_checker_cases_c7, ↓n_schema_checker_cases_c8, ↓n_schema_checker_cases_c9, ↓n_schema_checker_cases_c10, ↓n_schema_checker_cases_c11, ↓n_schema_checker_cases_c12, ↓n_schema_checker_cases_c13, (cells_of_heap o3).1, (cells_of_heap o4).1]
  refine loop2_intro (fun a0 a1 w => ∃ (k : Nat) (n : Int), a0 = .int .i64 n ∧ a1 = .int .i64 (k : Int) ∧ k ≤ f.cases.length ∧ Ext w0 w ∧ casesL hi deps n (f.cases.drop k) = casesL hi deps lo f.cases) (fun a0 a1 _ => f.cases.length - (intOf a1).toNat) ⟨0, lo, rfl, rfl, Nat.zero_le _, ee, rfl⟩ ?_
  rintro _ _ w ⟨k, n, rfl, rfl, hk, e, hI⟩
  have se := e.size
  rcases drop_cases hk with ⟨x, hx, hd, hlt, hdec⟩ | ⟨hk, hd, hdec⟩
  · obtain ⟨b, o, cs, rfl, hl, hA, rfl⟩ := hel k x hx
    have l4 : p4 < w.heap.size := (Array.getElem?_eq_some_iff.1 (e.obj o4)).1
    rw [hd] at hI
    simp only [casesL] at hI
    simp (disch := first | assumption | (simp only [ONE]; done) | rfl | (simp only [SZ]; done) | omega | (simp only [SZ] at *; omega)) only [↓PR, QR, Int.reduceBEq, Int.reduceBNe, Int.reduceLT, Int.reduceLE, Int.reduceGT, Int.reduceGE, Int.reduceNeg, ↓n_schema_checker_cases_c1, ↓n_schema_checker_cases_c2, ↓n_schema_checker_cases_c3, ↓n_schema_checker_cases_c4, ↓n_schema_checker_cases_c5, ↓n_schema_checker_cases_c6, ↓n_schema_checker_cases_c7, ↓n_schema_checker_cases_c8, ↓n_schema_checker_cases_c9, ↓n_schema_checker_cases_c10, ↓n_schema_checker_cases_c11, ↓n_schema_checker_cases_c12, ↓n_schema_checker_cases_c13, hdec, hA.c3, (cells_of_heap (e.obj o4)).1]
    generalize hW : World.alloc (World.alloc w _) _ = W
    have eW : Ext w W := by rw [← hW]; exact ee
    have o9 : W.heap[w.heap.size]? = some (.cells #[.int .i64 x.low, .int .i64 x.high, .string x.of] 62 (0, 0)) := by rw [← hW]; simp (disch := first | assumption | (simp only [ONE]; done) | rfl | (simp only [SZ]; done) | omega | (simp only [SZ] at *; omega)) only [↓PR, QR, Int.reduceBEq, Int.reduceBNe, Int.reduceLT, Int.reduceLE, Int.reduceGT, Int.reduceGE, Int.reduceNeg]
    have hIn : IntsOf W (.slice (some ⟨w.heap.size + 1, 0, none⟩) 2 2) [x.low, x.high] := by rw [← hW]; exact ints2 (by simp only [World.size_alloc]) _ _ _
    clear hW
    refine callK_flw (within_flw (h.ext (e.trans eW)) n hi _ _ hIn) (fun w1 e1 h0 => ?_) (fun w1 e1 h0 => ?_)
    · rw [h0, orC_zero] at hI
      have er1 := eW.trans e1
      simp (disch := first | assumption | (simp only [ONE]; done) | rfl | (simp only [SZ]; done) | omega | (simp only [SZ] at *; omega)) only [↓PR, QR, Int.reduceBEq, Int.reduceBNe, Int.reduceLT, Int.reduceLE, Int.reduceGT, Int.reduceGE, Int.reduceNeg, ↓n_schema_checker_cases_c1, ↓n_schema_checker_cases_c2, ↓n_schema_checker_cases_c3, ↓n_schema_checker_cases_c4, ↓n_schema_checker_cases_c5, ↓n_schema_checker_cases_c6, ↓n_schema_checker_cases_c7, ↓n_schema_checker_cases_c8, ↓n_schema_checker_cases_c9, ↓n_schema_checker_cases_c10, ↓n_schema_checker_cases_c11, ↓n_schema_checker_cases_c12, ↓n_schema_checker_cases_c13, (cells_of_heap (e1.obj o9)).1]
      refine callK_flw (refer_flw (h.ext (e.trans er1)) x.of) (fun w2 e2 h0 => ?_) (fun w2 e2 h0 => ?_)
      · rw [h0, orC_zero] at hI
        simp (disch := first | assumption | (simp only [ONE]; done) | rfl | (simp only [SZ]; done) | omega | (simp only [SZ] at *; omega)) only [↓PR, QR, Int.reduceBEq, Int.reduceBNe, Int.reduceLT, Int.reduceLE, Int.reduceGT, Int.reduceGE, Int.reduceNeg, ↓n_schema_checker_cases_c1, ↓n_schema_checker_cases_c2, ↓n_schema_checker_cases_c3, ↓n_schema_checker_cases_c4, ↓n_schema_checker_cases_c5, ↓n_schema_checker_cases_c6, ↓n_schema_checker_cases_c7, ↓n_schema_checker_cases_c8, ↓n_schema_checker_cases_c9, ↓n_schema_checker_cases_c10, ↓n_schema_checker_cases_c11, ↓n_schema_checker_cases_c12, ↓n_schema_checker_cases_c13, (cells_of_heap ((e1.trans e2).obj o9)).1]
        exact ⟨⟨k + 1, _, rfl, rfl, by omega, ee, hI⟩, meas_lt hlt⟩
      · rw [orC_ne h0] at hI
        exact flwR_pan (e00.trans (e.trans (er1.trans e2))) hI.symm h0
    · rw [orC_ne h0] at hI
      exact flwR_pan (e00.trans (e.trans (eW.trans e1))) hI.symm h0
  · subst hk
    simp (disch := first | assumption | (simp only [ONE]; done) | rfl | (simp only [SZ]; done) | omega | (simp only [SZ] at *; omega)) only [↓PR, QR, Int.reduceBEq, Int.reduceBNe, Int.reduceLT, Int.reduceLE, Int.reduceGT, Int.reduceGE, Int.reduceNeg, ↓n_schema_checker_cases_c1, ↓n_schema_checker_cases_c2, ↓n_schema_checker_cases_c3, ↓n_schema_checker_cases_c4, ↓n_schema_checker_cases_c5, ↓n_schema_checker_cases_c6, ↓n_schema_checker_cases_c7, ↓n_schema_checker_cases_c8, ↓n_schema_checker_cases_c9, ↓n_schema_checker_cases_c10, ↓n_schema_checker_cases_c11, ↓n_schema_checker_cases_c12, ↓n_schema_checker_cases_c13, hdec]
    rw [hd] at hI
    exact flwR_ret (e00.trans e) hI.symm
theorem cases_mid {a0 : World} (e00 : Ext a0 w0) (h : Chk w0 cb md ms deps strs at_ fld fs) (i : Nat) (hi : fld = i) (hlt : i < fs.length) (pf p4 : Nat) (f : FieldD) (tv cv : Value) (lo hi' : Int) (b : Bool) (hC : CasesOf w0 cv f.cases) (o3 : w0.heap[pf]? = some (.cells (fieldCells f tv cv).toArray 28 (0, 0))) (o4 : w0.heap[p4]? = some (.cells #[.int .i64 lo, .int .i64 hi'] 31 (0, 0)))
    (hb : b = (lastR (numR (fs.take i)) f.tag).isSome) (hlo : b = true → lo = ((lastR (numR (fs.take i)) f.tag).getD (0, 0)).1 ∧ hi' = ((lastR (numR (fs.take i)) f.tag).getD (0, 0)).2) :
    n_schema_checker_cases_c7 (.pointer (some ⟨cb, 0, none⟩)) (.pointer (some ⟨pf, 0, none⟩)) (.pointer (some ⟨p4, 0, none⟩)) (.bool b) (flwR a0 at_ fld (casesC (fs.take i) deps f)) w0 := by
  unfold n_schema_checker_cases_c7
  refine callK_ret (before_ret h i hi hlt) ?_
  rintro bv w1 ⟨hB, e1⟩
  simp (disch := first | assumption | (simp only [ONE]; done) | rfl | (simp only [SZ]; done) | omega | (simp only [SZ] at *; omega)) only [↓PR, QR, Int.reduceBEq, Int.reduceBNe, Int.reduceLT, Int.reduceLE, Int.reduceGT, Int.reduceGE, Int.reduceNeg]
  refine callK_ret (ContainsFunc_Field_ret _ _ _ _ _ (taggedP f.tag) hB c112 ?_) ?_
  · intro w v o _ e hv
    exact casesS1_ret w v o f pf tv cv hv ((e1.trans e).obj o3)
  rintro _ w2 ⟨rfl, e2⟩
  have e12 := e1.trans e2
  simp (disch := first | assumption | (simp only [ONE]; done) | rfl | (simp only [SZ]; done) | omega | (simp only [SZ] at *; omega)) only [↓PR, QR, Int.reduceBEq, Int.reduceBNe, Int.reduceLT, Int.reduceLE, Int.reduceGT, Int.reduceGE, Int.reduceNeg, ↓n_schema_checker_cases_c6]
  unfold casesC
  refine callK_flw (need_flw (h.ext e12) _ 8 (by decide)) (fun w3 e3 h0 => ?_) (fun w3 e3 h0 => ?_)
  · rw [← hb, h0, orC_zero]
    have hbt : b = true := by
      cases b with
      | true => rfl
      | false => exact absurd h0 (by simp [needC])
    obtain ⟨h1, h2⟩ := hlo hbt
    rw [← h1, ← h2]
    have e13 := e12.trans e3
    obtain ⟨A, c, rfl, _⟩ := SliceOf.open hC
    simp (disch := first | assumption | (simp only [ONE]; done) | rfl | (simp only [SZ]; done) | omega | (simp only [SZ] at *; omega)) only [↓PR, QR, Int.reduceBEq, Int.reduceBNe, Int.reduceLT, Int.reduceLE, Int.reduceGT, Int.reduceGE, Int.reduceNeg, ↓n_schema_checker_cases_c5, (cells_of_heap (e13.obj o3)).1]
    refine callK_flw (need_flw (h.ext e13) _ 3 (by decide)) (fun w4 e4 h0 => ?_) (fun w4 e4 h0 => ?_)
    · rw [h0, orC_zero]
      have e14 := e13.trans e4
      exact cases_tail (e00.trans e14) (h.ext e14) pf p4 f tv _ lo hi' (CasesOf.ext hC e14) (e14.obj o3) (e14.obj o4)
    · rw [orC_ne h0]
      exact flwR_pan (e00.trans (e13.trans e4)) rfl h0
  · rw [← hb, orC_ne h0]
    exact flwR_pan (e00.trans (e12.trans e3)) rfl h0
theorem cases_flw (h : Chk w0 cb md ms deps strs at_ fld fs) (i : Nat) (hi : fld = i) (hlt : i < fs.length) (v : Value) (f : FieldD) (hf : FieldVal w0 v f) : Calls Try.prog 101 #[.pointer (some ⟨cb, 0, none⟩), v] w0 (flwR w0 at_ fld (casesC (fs.take i) deps f)) := by
  obtain ⟨tv, cv, rfl, hT, hC, ht1, hc1⟩ := hf.op
  refine n_schema_checker_cases_sound ?_; unfold n_schema_checker_cases
  simp (disch := first | assumption | (simp only [ONE]; done) | rfl | (simp only [SZ]; done) | omega | (simp only [SZ] at *; omega)) only [↓PR, QR, Int.reduceBEq, Int.reduceBNe, Int.reduceLT, Int.reduceLE, Int.reduceGT, Int.reduceGE, Int.reduceNeg]
  generalize hW : World.alloc w0 _ = W
  have e0 : Ext w0 W := by rw [← hW]; exact ee
  have o3 : W.heap[w0.heap.size]? = some (.cells (fieldCells f tv cv).toArray 28 (0, 0)) := by rw [← hW]; simp (disch := first | assumption | (simp only [ONE]; done) | rfl | (simp only [SZ]; done) | omega | (simp only [SZ] at *; omega)) only [↓PR, QR, Int.reduceBEq, Int.reduceBNe, Int.reduceLT, Int.reduceLE, Int.reduceGT, Int.reduceGE, Int.reduceNeg]
  clear hW
  refine drawK_intro ?_
  simp (disch := first | assumption | (simp only [ONE]; done) | rfl | (simp only [SZ]; done) | omega | (simp only [SZ] at *; omega)) only [↓PR, QR, Int.reduceBEq, Int.reduceBNe, Int.reduceLT, Int.reduceLE, Int.reduceGT, Int.reduceGE, Int.reduceNeg, ↓n_schema_checker_cases_c13, (cells_of_heap o3).1]
  have key : ∀ w' p4 b lo hi', Ext W w' → w'.heap[p4]? = some (.cells #[.int .i64 lo, .int .i64 hi'] 31 (0, 0)) → b = (lastR (numR (fs.take i)) f.tag).isSome → (b = true → lo = ((lastR (numR (fs.take i)) f.tag).getD (0, 0)).1 ∧ hi' = ((lastR (numR (fs.take i)) f.tag).getD (0, 0)).2) →
      n_schema_checker_cases_c7 (.pointer (some ⟨cb, 0, none⟩)) (.pointer (some ⟨w0.heap.size, 0, none⟩)) (.pointer (some ⟨p4, 0, none⟩)) (.bool b) (flwR w0 at_ fld (casesC (fs.take i) deps f)) w' := by
    intro w' p4 b lo hi' e o4 hb hlo
    exact cases_mid (e0.trans e) (h.ext (e0.trans e)) i hi hlt _ p4 f tv cv lo hi' b (CasesOf.ext hC (e0.trans e)) (e.obj o3) o4 hb hlo
  have eD : Ext W W.drew := (Ext.refl W).wdrew
  have fin9 : ∀ (w2 : World) (m p4 : Nat) (u0 u1 : Value), Ext W.drew w2 → MapOf w2 m (RP (numR (fs.take i))) → w2.heap[p4]? = some (.cells #[u0, u1] 31 (0, 0)) → W.heap.size ≤ p4 →
      n_schema_checker_cases_c9 (.pointer (some ⟨p4, 0, none⟩)) (.map (some m)) (.string f.tag) (KL W.drew m (RP (numR (fs.take i)))) (fun t4 t5 w => n_schema_checker_cases_c7 (.pointer (some ⟨cb, 0, none⟩)) (.pointer (some ⟨w0.heap.size, 0, none⟩)) t4 t5 (flwR w0 at_ fld (casesC (fs.take i) deps f)) w) (flwR w0 at_ fld (casesC (fs.take i) deps f)) w2 := by
    intro w2 m p4 u0 u1 e2 hM o4 hp4
    haveI : ClassNe (KL W.drew m (RP (numR (fs.take i)))) := ⟨⟨w2, e2, hM⟩⟩
    unfold n_schema_checker_cases_c9
    rw [qV_lookupKL Try.underlying53 Try.underlying9 ty31 ⟨w2, e2, hM⟩, lastOf_RP]
    have hfin : ∀ lo hi' b, b = (lastR (numR (fs.take i)) f.tag).isSome → (b = true → lo = ((lastR (numR (fs.take i)) f.tag).getD (0, 0)).1 ∧ hi' = ((lastR (numR (fs.take i)) f.tag).getD (0, 0)).2) →
        KL W.drew m (RP (numR (fs.take i))) ((w2.setCell ⟨p4, 0, none⟩ (.int .i64 lo)).setCell ⟨p4, 1, none⟩ (.int .i64 hi')) ∧ n_schema_checker_cases_c7 (.pointer (some ⟨cb, 0, none⟩)) (.pointer (some ⟨w0.heap.size, 0, none⟩)) (.pointer (some ⟨p4, 0, none⟩)) (.bool b) (flwR w0 at_ fld (casesC (fs.take i) deps f)) ((w2.setCell ⟨p4, 0, none⟩ (.int .i64 lo)).setCell ⟨p4, 1, none⟩ (.int .i64 hi')) := by
      intro lo hi' b hb hlo
      have e3 : Ext W.drew ((w2.setCell ⟨p4, 0, none⟩ (.int .i64 lo)).setCell ⟨p4, 1, none⟩ (.int .i64 hi')) := (e2.setCell (show W.drew.heap.size ≤ (⟨p4, 0, none⟩ : Addr).block from hp4) _).setCell (show W.drew.heap.size ≤ (⟨p4, 1, none⟩ : Addr).block from hp4) _
      refine ⟨⟨e3, (hM.setCell _ _).setCell _ _⟩, key _ p4 b lo hi' (eD.trans e3) ?_ hb hlo⟩
      have := heap_set (o := 1) (heap_set (o := 0) o4 (.int .i64 lo)) (.int .i64 hi')
      simpa using this
    cases hl : lastR (numR (fs.take i)) f.tag with
    | none =>
      rw [hl] at hfin
      simp (disch := first | assumption | (simp only [ONE]; done) | rfl | (simp only [SZ]; done) | omega | (simp only [SZ] at *; omega)) only [↓PR, QR, Int.reduceBEq, Int.reduceBNe, Int.reduceLT, Int.reduceLE, Int.reduceGT, Int.reduceGE, Int.reduceNeg, Option.map_none, (cells_of_heap o4).1, (cells_of_heap o4).2]
      exact hfin 0 0 false rfl (by simp)
    | some q =>
      obtain ⟨lo, hi'⟩ := q
      rw [hl] at hfin
      simp (disch := first | assumption | (simp only [ONE]; done) | rfl | (simp only [SZ]; done) | omega | (simp only [SZ] at *; omega)) only [↓PR, QR, Int.reduceBEq, Int.reduceBNe, Int.reduceLT, Int.reduceLE, Int.reduceGT, Int.reduceGE, Int.reduceNeg, (cells_of_heap o4).1, (cells_of_heap o4).2, rangeVal]
      exact hfin lo hi' true rfl (fun _ => ⟨rfl, rfl⟩)
  refine ⟨?_, ?_⟩
  · refine callK_ret (before_ret (h.ext (e0.trans eD)) i hi hlt) ?_
    rintro bv w1 ⟨hB, e1⟩
    refine narrowK_same e1 ?_
    unfold n_schema_checker_cases_c10
    refine ⟨?_, ?_⟩
    · refine callK_ret (ranges_ret _ _ _ hB) ?_
      rintro _ w2 ⟨m, rfl, _, hM, e2⟩
      rw [numPairs_RP] at hM
      refine narrowK_KL (e1.trans e2) hM ?_
      unfold n_schema_checker_cases_c8
      simp only [drew_wdrew]
      haveI : ClassNe (KL W.drew m (RP (numR (fs.take i)))) := ⟨⟨w2, e1.trans e2, hM⟩⟩
      rw [qV_lookupKL Try.underlying53 Try.underlying9 ty31 ⟨w2, e1.trans e2, hM⟩]
      have h9 := fin9 (w2.alloc (.cells #[.int .i64 0, .int .i64 0] 31)) m w2.heap.size _ _ ((e1.trans e2).alloc _) (hM.ext ((Ext.refl _).alloc _)) (heap_new _ _ _) (by have := (e1.trans e2).size; simpa using this)
      unfold n_schema_checker_cases_c9 at h9
      rw [qV_lookupKL Try.underlying53 Try.underlying9 ty31 ⟨w2, e1.trans e2, hM⟩] at h9
      simp (disch := first | assumption | (simp only [ONE]; done) | rfl | (simp only [SZ]; done) | omega | (simp only [SZ] at *; omega)) only [↓PR, QR, Int.reduceBEq, Int.reduceBNe, Int.reduceLT, Int.reduceLE, Int.reduceGT, Int.reduceGE, Int.reduceNeg]
      refine ⟨⟨(e1.trans e2).alloc _, hM.ext ((Ext.refl _).alloc _)⟩, ?_⟩
      simp only [↓Sw.GENQ] at h9
      exact h9
    · simp (disch := first | assumption | (simp only [ONE]; done) | rfl | (simp only [SZ]; done) | omega | (simp only [SZ] at *; omega)) only [↓PR, QR, Int.reduceBEq, Int.reduceBNe, Int.reduceLT, Int.reduceLE, Int.reduceGT, Int.reduceGE, Int.reduceNeg]
      refine ⟨e1.alloc _, ?_⟩
      refine callK_ret (ranges_ret _ _ _ (FieldsOf.ext hB ((Ext.refl _).alloc _))) ?_
      rintro _ w2 ⟨m, rfl, _, hM, e2⟩
      rw [numPairs_RP] at hM
      have s1 := e1.size
      simp only [World.size_drew] at s1
      refine narrowK_KL ((e1.alloc _).trans e2) hM ?_
      exact fin9 w2 m w1.heap.size _ _ ((e1.alloc _).trans e2) hM (e2.obj (heap_new _ _ _)) s1
  · refine ⟨(Ext.refl _).alloc _, ?_⟩
    unfold n_schema_checker_cases_c12
    refine callK_ret (before_ret (h.ext ((e0.trans eD).alloc _)) i hi hlt) ?_
    rintro bv w1 ⟨hB, e1⟩
    refine narrowK_same (((Ext.refl _).alloc _).trans e1) ?_
    refine callK_ret (ranges_ret _ _ _ hB) ?_
    rintro _ w2 ⟨m, rfl, _, hM, e2⟩
    rw [numPairs_RP] at hM
    refine narrowK_KL (((Ext.refl _).alloc _).trans (e1.trans e2)) hM ?_
    exact fin9 w2 m W.heap.size _ _ (((Ext.refl _).alloc _).trans (e1.trans e2)) hM ((e1.trans e2).obj (heap_new W.drew _ _)) (Nat.le_refl _)
end
end Go.Proofs.Ytiajhbbmgglmlaa
namespace Go.Proofs.Ytiajhbbmgglmlaa
open Sw
open Go.RowKit (intOf Below)
set_option maxRecDepth 100000
section
variable {w0 : World} {cb md ms : Nat} {deps strs : List (ByteArray × Value)} {at_ fld : Int} {fs : List FieldD}
def topF (f : FieldD) : Int := 2 ^ f.bits.toNat - 1
theorem top_wrap {f : FieldD} (h : bitsB f = true) : 0 ≤ f.bits ∧ f.bits ≤ 64 ∧ IntKind.i64.wrap (IntKind.i64.wrap (1 * 2 ^ f.bits.toNat) - 1) = topF f := by
  unfold bitsB at h
  simp only [Bool.and_eq_true, decide_eq_true_eq] at h
  obtain ⟨⟨h1, h2⟩, _⟩ := h
  have hc : (2 : Int) ^ f.bits.toNat = ((2 ^ f.bits.toNat : Nat) : Int) := by simp
  have hp1 : 2 ^ f.bits.toNat ≤ 2 ^ 32 := Nat.pow_le_pow_right (by decide) (by omega)
  have hp : (2 : Int) ^ f.bits.toNat ≤ 4294967296 := by rw [hc]; omega
  have hp0 : (0 : Int) < 2 ^ f.bits.toNat := Int.pow_pos (by decide)
  refine ⟨by omega, by omega, ?_⟩
  unfold topF
  rw [Int.one_mul, show IntKind.i64.wrap (2 ^ f.bits.toNat) = 2 ^ f.bits.toNat from wrap_ok (by omega) (by omega), wrap_ok (by omega) (by omega)]
theorem needC_zero {b : Bool} {c : Int} (hc : c ≠ 0) (h : needC b c = 0) : b = true := by
  cases b with
  | true => rfl
  | false => exact absurd h hc
theorem uint_flw (h : Chk w0 cb md ms deps strs at_ fld fs) (v : Value) (f : FieldD) (hf : FieldVal w0 v f) : Calls Try.prog 82 #[.pointer (some ⟨cb, 0, none⟩), v] w0 (flwR w0 at_ fld (orC (needC (bitsB f) 6) (withinC (topF f) 0 [f.low, f.high]))) := by
  obtain ⟨tv, cv, rfl, hT, hC, ht1, hc1⟩ := hf.op
  refine n_schema_kinds_2_sound ?_; unfold n_schema_kinds_2
  simp (disch := first | assumption | (simp only [ONE]; done) | rfl | (simp only [SZ]; done) | omega | (simp only [SZ] at *; omega)) only [↓PR, QR, Int.reduceBEq, Int.reduceBNe, Int.reduceLT, Int.reduceLE, Int.reduceGT, Int.reduceGE, Int.reduceNeg]
  generalize hW : World.alloc w0 _ = W
  have e0 : Ext w0 W := by rw [← hW]; exact ee
  have o3 : W.heap[w0.heap.size]? = some (.cells (fieldCells f tv cv).toArray 28 (0, 0)) := by rw [← hW]; simp (disch := first | assumption | (simp only [ONE]; done) | rfl | (simp only [SZ]; done) | omega | (simp only [SZ] at *; omega)) only [↓PR, QR, Int.reduceBEq, Int.reduceBNe, Int.reduceLT, Int.reduceLE, Int.reduceGT, Int.reduceGE, Int.reduceNeg]
  clear hW
  simp (disch := first | assumption | (simp only [ONE]; done) | rfl | (simp only [SZ]; done) | omega | (simp only [SZ] at *; omega)) only [↓PR, QR, Int.reduceBEq, Int.reduceBNe, Int.reduceLT, Int.reduceLE, Int.reduceGT, Int.reduceGE, Int.reduceNeg, (cells_of_heap o3).1]
  refine callK_flw (bits_flw (h.ext e0) _ f ⟨tv, cv, rfl, TermsOf.ext hT e0, CasesOf.ext hC e0⟩) (fun w1 e1 h0 => ?_) (fun w1 e1 h0 => ?_)
  · rw [h0, orC_zero]
    obtain ⟨ha, hb, hw⟩ := top_wrap (needC_zero (by decide) h0)
    have e01 := e0.trans e1
    have l1 : w0.heap.size < w1.heap.size := (Array.getElem?_eq_some_iff.1 (e1.obj o3)).1
    refine drawK_intro ?_
    simp (disch := first | assumption | (simp only [ONE]; done) | rfl | (simp only [SZ]; done) | omega | (simp only [SZ] at *; omega)) only [↓PR, QR, Int.reduceBEq, Int.reduceBNe, Int.reduceLT, Int.reduceLE, Int.reduceGT, Int.reduceGE, Int.reduceNeg, ↓n_schema_kinds_2_c1, (cells_of_heap (e1.obj o3)).1, hw]
    generalize hW : World.alloc (World.drew w1) _ = W2
    have eD : Ext w1.drew W2 := by rw [← hW]; exact ee
    have hIn : IntsOf W2 (.slice (some ⟨w1.heap.size, 0, none⟩) 2 2) [f.low, f.high] := by rw [← hW]; exact ints2 rfl _ _ _
    clear hW
    have eE : Ext w0 W2 := (e01.wdrew).trans eD
    refine ⟨eD, ?_⟩
    refine callK_flw (within_flw (h.ext eE) 0 (topF f) _ _ hIn) (fun w2 e2 h0 => ?_) (fun w2 e2 h0 => ?_)
    · exact ⟨eD.trans e2, flwR_ret (eE.trans e2) h0⟩
    · exact flwR_pan (eE.trans e2) rfl h0
  · rw [orC_ne h0]
    exact flwR_pan (e0.trans e1) rfl h0
theorem const_flw (h : Chk w0 cb md ms deps strs at_ fld fs) (v : Value) (f : FieldD) (hf : FieldVal w0 v f) : Calls Try.prog 86 #[.pointer (some ⟨cb, 0, none⟩), v] w0 (flwR w0 at_ fld (orC (needC (bitsB f) 6) (withinC (topF f) 0 [f.low]))) := by
  obtain ⟨tv, cv, rfl, hT, hC, ht1, hc1⟩ := hf.op
  refine n_schema_kinds_4_sound ?_; unfold n_schema_kinds_4
  simp (disch := first | assumption | (simp only [ONE]; done) | rfl | (simp only [SZ]; done) | omega | (simp only [SZ] at *; omega)) only [↓PR, QR, Int.reduceBEq, Int.reduceBNe, Int.reduceLT, Int.reduceLE, Int.reduceGT, Int.reduceGE, Int.reduceNeg]
  generalize hW : World.alloc w0 _ = W
  have e0 : Ext w0 W := by rw [← hW]; exact ee
  have o3 : W.heap[w0.heap.size]? = some (.cells (fieldCells f tv cv).toArray 28 (0, 0)) := by rw [← hW]; simp (disch := first | assumption | (simp only [ONE]; done) | rfl | (simp only [SZ]; done) | omega | (simp only [SZ] at *; omega)) only [↓PR, QR, Int.reduceBEq, Int.reduceBNe, Int.reduceLT, Int.reduceLE, Int.reduceGT, Int.reduceGE, Int.reduceNeg]
  clear hW
  simp (disch := first | assumption | (simp only [ONE]; done) | rfl | (simp only [SZ]; done) | omega | (simp only [SZ] at *; omega)) only [↓PR, QR, Int.reduceBEq, Int.reduceBNe, Int.reduceLT, Int.reduceLE, Int.reduceGT, Int.reduceGE, Int.reduceNeg, (cells_of_heap o3).1]
  refine callK_flw (bits_flw (h.ext e0) _ f ⟨tv, cv, rfl, TermsOf.ext hT e0, CasesOf.ext hC e0⟩) (fun w1 e1 h0 => ?_) (fun w1 e1 h0 => ?_)
  · rw [h0, orC_zero]
    obtain ⟨ha, hb, hw⟩ := top_wrap (needC_zero (by decide) h0)
    have e01 := e0.trans e1
    have l1 : w0.heap.size < w1.heap.size := (Array.getElem?_eq_some_iff.1 (e1.obj o3)).1
    refine drawK_intro ?_
    simp (disch := first | assumption | (simp only [ONE]; done) | rfl | (simp only [SZ]; done) | omega | (simp only [SZ] at *; omega)) only [↓PR, QR, Int.reduceBEq, Int.reduceBNe, Int.reduceLT, Int.reduceLE, Int.reduceGT, Int.reduceGE, Int.reduceNeg, ↓n_schema_kinds_4_c1, (cells_of_heap (e1.obj o3)).1, hw]
    generalize hW : World.alloc (World.drew w1) _ = W2
    have eD : Ext w1.drew W2 := by rw [← hW]; exact ee
    have hIn : IntsOf W2 (.slice (some ⟨w1.heap.size, 0, none⟩) 1 1) [f.low] := by rw [← hW]; exact ints1 rfl _ _
    clear hW
    have eE : Ext w0 W2 := (e01.wdrew).trans eD
    refine ⟨eD, ?_⟩
    refine callK_flw (within_flw (h.ext eE) 0 (topF f) _ _ hIn) (fun w2 e2 h0 => ?_) (fun w2 e2 h0 => ?_)
    · exact ⟨eD.trans e2, flwR_ret (eE.trans e2) h0⟩
    · exact flwR_pan (eE.trans e2) rfl h0
  · rw [orC_ne h0]
    exact flwR_pan (e0.trans e1) rfl h0
theorem varint_flw (h : Chk w0 cb md ms deps strs at_ fld fs) (v : Value) (f : FieldD) (hf : FieldVal w0 v f) : Calls Try.prog 88 #[.pointer (some ⟨cb, 0, none⟩), v] w0 (flwR w0 at_ fld (withinC 34359738367 0 [f.low, f.high])) := by
  obtain ⟨tv, cv, rfl, hT, hC, ht1, hc1⟩ := hf.op
  refine n_schema_kinds_6_sound ?_; unfold n_schema_kinds_6
  simp (disch := first | assumption | (simp only [ONE]; done) | rfl | (simp only [SZ]; done) | omega | (simp only [SZ] at *; omega)) only [↓PR, QR, Int.reduceBEq, Int.reduceBNe, Int.reduceLT, Int.reduceLE, Int.reduceGT, Int.reduceGE, Int.reduceNeg]
  generalize hW : World.alloc (World.alloc w0 _) _ = W
  have e0 : Ext w0 W := by rw [← hW]; exact ee
  have o3 : W.heap[w0.heap.size]? = some (.cells (fieldCells f tv cv).toArray 28 (0, 0)) := by rw [← hW]; simp (disch := first | assumption | (simp only [ONE]; done) | rfl | (simp only [SZ]; done) | omega | (simp only [SZ] at *; omega)) only [↓PR, QR, Int.reduceBEq, Int.reduceBNe, Int.reduceLT, Int.reduceLE, Int.reduceGT, Int.reduceGE, Int.reduceNeg]
  have hIn : IntsOf W (.slice (some ⟨w0.heap.size + 1, 0, none⟩) 2 2) [f.low, f.high] := by rw [← hW]; exact ints2 (by simp only [World.size_alloc]) _ _ _
  clear hW
  refine callK_flw (within_flw (h.ext e0) 0 34359738367 _ _ hIn) (fun w1 e1 h0 => ?_) (fun w1 e1 h0 => ?_)
  · exact flwR_ret (e0.trans e1) h0
  · exact flwR_pan (e0.trans e1) rfl h0
theorem headers_flw (h : Chk w0 cb md ms deps strs at_ fld fs) (v : Value) (f : FieldD) (hf : FieldVal w0 v f) : Calls Try.prog 94 #[.pointer (some ⟨cb, 0, none⟩), v] w0 (flwR w0 at_ fld (withinC 1048576 2 [f.high])) := by
  obtain ⟨tv, cv, rfl, hT, hC, ht1, hc1⟩ := hf.op
  refine n_schema_kinds_11_sound ?_; unfold n_schema_kinds_11
  simp (disch := first | assumption | (simp only [ONE]; done) | rfl | (simp only [SZ]; done) | omega | (simp only [SZ] at *; omega)) only [↓PR, QR, Int.reduceBEq, Int.reduceBNe, Int.reduceLT, Int.reduceLE, Int.reduceGT, Int.reduceGE, Int.reduceNeg]
  generalize hW : World.alloc (World.alloc w0 _) _ = W
  have e0 : Ext w0 W := by rw [← hW]; exact ee
  have o3 : W.heap[w0.heap.size]? = some (.cells (fieldCells f tv cv).toArray 28 (0, 0)) := by rw [← hW]; simp (disch := first | assumption | (simp only [ONE]; done) | rfl | (simp only [SZ]; done) | omega | (simp only [SZ] at *; omega)) only [↓PR, QR, Int.reduceBEq, Int.reduceBNe, Int.reduceLT, Int.reduceLE, Int.reduceGT, Int.reduceGE, Int.reduceNeg]
  have hIn : IntsOf W (.slice (some ⟨w0.heap.size + 1, 0, none⟩) 1 1) [f.high] := by rw [← hW]; exact ints1 (by simp only [World.size_alloc]) _ _
  clear hW
  refine callK_flw (within_flw (h.ext e0) 2 1048576 _ _ hIn) (fun w1 e1 h0 => ?_) (fun w1 e1 h0 => ?_)
  · exact flwR_ret (e0.trans e1) h0
  · exact flwR_pan (e0.trans e1) rfl h0
theorem until_flw (h : Chk w0 cb md ms deps strs at_ fld fs) (v : Value) (f : FieldD) (hf : FieldVal w0 v f) : Calls Try.prog 92 #[.pointer (some ⟨cb, 0, none⟩), v] w0 (flwR w0 at_ fld (orC (withinC 255 0 [f.low]) (withinC 1048576 0 [f.high]))) := by
  obtain ⟨tv, cv, rfl, hT, hC, ht1, hc1⟩ := hf.op
  refine n_schema_kinds_9_sound ?_; unfold n_schema_kinds_9
  simp (disch := first | assumption | (simp only [ONE]; done) | rfl | (simp only [SZ]; done) | omega | (simp only [SZ] at *; omega)) only [↓PR, QR, Int.reduceBEq, Int.reduceBNe, Int.reduceLT, Int.reduceLE, Int.reduceGT, Int.reduceGE, Int.reduceNeg]
  generalize hW : World.alloc (World.alloc w0 _) _ = W
  have e0 : Ext w0 W := by rw [← hW]; exact ee
  have o3 : W.heap[w0.heap.size]? = some (.cells (fieldCells f tv cv).toArray 28 (0, 0)) := by rw [← hW]; simp (disch := first | assumption | (simp only [ONE]; done) | rfl | (simp only [SZ]; done) | omega | (simp only [SZ] at *; omega)) only [↓PR, QR, Int.reduceBEq, Int.reduceBNe, Int.reduceLT, Int.reduceLE, Int.reduceGT, Int.reduceGE, Int.reduceNeg]
  have hIn : IntsOf W (.slice (some ⟨w0.heap.size + 1, 0, none⟩) 1 1) [f.low] := by rw [← hW]; exact ints1 (by simp only [World.size_alloc]) _ _
  clear hW
  refine callK_flw (within_flw (h.ext e0) 0 255 _ _ hIn) (fun w1 e1 h0 => ?_) (fun w1 e1 h0 => ?_)
  · rw [h0, orC_zero]
    have e01 := e0.trans e1
    simp (disch := first | assumption | (simp only [ONE]; done) | rfl | (simp only [SZ]; done) | omega | (simp only [SZ] at *; omega)) only [↓PR, QR, Int.reduceBEq, Int.reduceBNe, Int.reduceLT, Int.reduceLE, Int.reduceGT, Int.reduceGE, Int.reduceNeg, ↓n_schema_kinds_9_c1, (cells_of_heap (e1.obj o3)).1]
    refine callK_flw (within_flw ((h.ext e01).ext ((Ext.refl _).alloc _)) 0 1048576 _ _ (ints1 rfl _ _)) (fun w2 e2 h0 => ?_) (fun w2 e2 h0 => ?_)
    · exact flwR_ret ((e01.alloc _).trans e2) h0
    · exact flwR_pan ((e01.alloc _).trans e2) rfl h0
  · rw [orC_ne h0]
    exact flwR_pan (e0.trans e1) rfl h0
theorem message_flw (h : Chk w0 cb md ms deps strs at_ fld fs) (v : Value) (f : FieldD) (hf : FieldVal w0 v f) : Calls Try.prog 99 #[.pointer (some ⟨cb, 0, none⟩), v] w0 (flwR w0 at_ fld (needC (lastOf deps f.of).isSome 8)) := by
  obtain ⟨tv, cv, rfl, hT, hC, ht1, hc1⟩ := hf.op
  refine n_schema_kinds_15_sound ?_; unfold n_schema_kinds_15
  simp (disch := first | assumption | (simp only [ONE]; done) | rfl | (simp only [SZ]; done) | omega | (simp only [SZ] at *; omega)) only [↓PR, QR, Int.reduceBEq, Int.reduceBNe, Int.reduceLT, Int.reduceLE, Int.reduceGT, Int.reduceGE, Int.reduceNeg]
  generalize hW : World.alloc w0 _ = W
  have e0 : Ext w0 W := by rw [← hW]; exact ee
  have o3 : W.heap[w0.heap.size]? = some (.cells (fieldCells f tv cv).toArray 28 (0, 0)) := by rw [← hW]; simp (disch := first | assumption | (simp only [ONE]; done) | rfl | (simp only [SZ]; done) | omega | (simp only [SZ] at *; omega)) only [↓PR, QR, Int.reduceBEq, Int.reduceBNe, Int.reduceLT, Int.reduceLE, Int.reduceGT, Int.reduceGE, Int.reduceNeg]
  clear hW
  simp (disch := first | assumption | (simp only [ONE]; done) | rfl | (simp only [SZ]; done) | omega | (simp only [SZ] at *; omega)) only [↓PR, QR, Int.reduceBEq, Int.reduceBNe, Int.reduceLT, Int.reduceLE, Int.reduceGT, Int.reduceGE, Int.reduceNeg, (cells_of_heap o3).1]
  refine callK_flw (refer_flw (h.ext e0) f.of) (fun w1 e1 h0 => ?_) (fun w1 e1 h0 => ?_)
  · exact flwR_ret (e0.trans e1) h0
  · exact flwR_pan (e0.trans e1) rfl h0
theorem list_flw (h : Chk w0 cb md ms deps strs at_ fld fs) (i : Nat) (hi : fld = i) (hlt : i < fs.length) (v : Value) (f : FieldD) (hf : FieldVal w0 v f) (ht : f.terms.length ≤ 1048576) : Calls Try.prog 96 #[.pointer (some ⟨cb, 0, none⟩), v] w0 (flwR w0 at_ fld (orC (needC (lastOf deps f.of).isSome 8) (sizedC (numR (fs.take i)) f))) := by
  obtain ⟨tv, cv, rfl, hT, hC, ht1, hc1⟩ := hf.op
  refine n_schema_kinds_13_sound ?_; unfold n_schema_kinds_13
  simp (disch := first | assumption | (simp only [ONE]; done) | rfl | (simp only [SZ]; done) | omega | (simp only [SZ] at *; omega)) only [↓PR, QR, Int.reduceBEq, Int.reduceBNe, Int.reduceLT, Int.reduceLE, Int.reduceGT, Int.reduceGE, Int.reduceNeg]
  generalize hW : World.alloc w0 _ = W
  have e0 : Ext w0 W := by rw [← hW]; exact ee
  have o3 : W.heap[w0.heap.size]? = some (.cells (fieldCells f tv cv).toArray 28 (0, 0)) := by rw [← hW]; simp (disch := first | assumption | (simp only [ONE]; done) | rfl | (simp only [SZ]; done) | omega | (simp only [SZ] at *; omega)) only [↓PR, QR, Int.reduceBEq, Int.reduceBNe, Int.reduceLT, Int.reduceLE, Int.reduceGT, Int.reduceGE, Int.reduceNeg]
  clear hW
  simp (disch := first | assumption | (simp only [ONE]; done) | rfl | (simp only [SZ]; done) | omega | (simp only [SZ] at *; omega)) only [↓PR, QR, Int.reduceBEq, Int.reduceBNe, Int.reduceLT, Int.reduceLE, Int.reduceGT, Int.reduceGE, Int.reduceNeg, (cells_of_heap o3).1]
  refine callK_flw (refer_flw (h.ext e0) f.of) (fun w1 e1 h0 => ?_) (fun w1 e1 h0 => ?_)
  · rw [h0, orC_zero]
    have e01 := e0.trans e1
    simp (disch := first | assumption | (simp only [ONE]; done) | rfl | (simp only [SZ]; done) | omega | (simp only [SZ] at *; omega)) only [↓PR, QR, Int.reduceBEq, Int.reduceBNe, Int.reduceLT, Int.reduceLE, Int.reduceGT, Int.reduceGE, Int.reduceNeg, (cells_of_heap (e1.obj o3)).1]
    refine callK_flw (sized_flw (h.ext e01) i hi hlt _ f ⟨tv, cv, rfl, TermsOf.ext hT e01, CasesOf.ext hC e01⟩ ht) (fun w2 e2 h0 => ?_) (fun w2 e2 h0 => ?_)
    · exact flwR_ret (e01.trans e2) h0
    · exact flwR_pan (e01.trans e2) rfl h0
  · rw [orC_ne h0]
    exact flwR_pan (e0.trans e1) rfl h0
theorem view_flw (h : Chk w0 cb md ms deps strs at_ fld fs) (i : Nat) (hi : fld = i) (hlt : i < fs.length) (v : Value) (f : FieldD) (hf : FieldVal w0 v f) (ht : f.terms.length ≤ 1048576) : Calls Try.prog 107 #[.pointer (some ⟨cb, 0, none⟩), v] w0 (flwR w0 at_ fld (orC (withinC 4294967295 0 [f.key]) (orC (needC (strB strs f.of) 8) (sizedC (numR (fs.take i)) f)))) := by
  obtain ⟨tv, cv, rfl, hT, hC, ht1, hc1⟩ := hf.op
  refine n_schema_kinds_22_sound ?_; unfold n_schema_kinds_22
  simp (disch := first | assumption | (simp only [ONE]; done) | rfl | (simp only [SZ]; done) | omega | (simp only [SZ] at *; omega)) only [↓PR, QR, Int.reduceBEq, Int.reduceBNe, Int.reduceLT, Int.reduceLE, Int.reduceGT, Int.reduceGE, Int.reduceNeg]
  generalize hW : World.alloc (World.alloc w0 _) _ = W
  have e0 : Ext w0 W := by rw [← hW]; exact ee
  have o3 : W.heap[w0.heap.size]? = some (.cells (fieldCells f tv cv).toArray 28 (0, 0)) := by rw [← hW]; simp (disch := first | assumption | (simp only [ONE]; done) | rfl | (simp only [SZ]; done) | omega | (simp only [SZ] at *; omega)) only [↓PR, QR, Int.reduceBEq, Int.reduceBNe, Int.reduceLT, Int.reduceLE, Int.reduceGT, Int.reduceGE, Int.reduceNeg]
  have hIn : IntsOf W (.slice (some ⟨w0.heap.size + 1, 0, none⟩) 1 1) [f.key] := by rw [← hW]; exact ints1 (by simp only [World.size_alloc]) _ _
  clear hW
  refine callK_flw (within_flw (h.ext e0) 0 4294967295 _ _ hIn) (fun w1 e1 h0 => ?_) (fun w1 e1 h0 => ?_)
  · rw [h0, orC_zero]
    have e01 := e0.trans e1
    have h1 := h.ext e01.wdrew
    obtain ⟨⟨dn, mv, ds, mn, fv, k1, k2⟩, k3, k4, k5, k6⟩ := id h1
    refine drawK_intro ?_
    simp (disch := first | assumption | (simp only [ONE]; done) | rfl | (simp only [SZ]; done) | omega | (simp only [SZ] at *; omega)) only [↓PR, QR, Int.reduceBEq, Int.reduceBNe, Int.reduceLT, Int.reduceLE, Int.reduceGT, Int.reduceGE, Int.reduceNeg, ↓n_schema_kinds_22_c1, (cells_of_heap (e1.obj o3)).1, (cells_of_heap k1).1]
    have k1' := (cells_of_heap k1).1
    simp only [World.cell?] at k1'
    rw [qV_lookup1E Try.underlying99 Try.underlying9 ty4 k4]
    rw [h1.strV f.of]
    refine callK_flw (need_flw h1 _ 8 (by decide)) (fun w2 e2 h0 => ?_) (fun w2 e2 h0 => ?_)
    · rw [h0, orC_zero]
      refine ⟨e2, ?_⟩
      have e02 := (e01.wdrew).trans e2
      have e12 : Ext W w2 := (e1.wdrew).trans e2
      simp (disch := first | assumption | (simp only [ONE]; done) | rfl | (simp only [SZ]; done) | omega | (simp only [SZ] at *; omega)) only [↓PR, QR, Int.reduceBEq, Int.reduceBNe, Int.reduceLT, Int.reduceLE, Int.reduceGT, Int.reduceGE, Int.reduceNeg, (cells_of_heap (e12.obj o3)).1]
      refine callK_flw (sized_flw (h.ext e02) i hi hlt _ f ⟨tv, cv, rfl, TermsOf.ext hT e02, CasesOf.ext hC e02⟩ ht) (fun w3 e3 h0 => ?_) (fun w3 e3 h0 => ?_)
      · exact flwR_ret (e02.trans e3) h0
      · exact flwR_pan (e02.trans e3) rfl h0
    · rw [orC_ne h0]
      exact flwR_pan (e01.wdrew.trans e2) rfl h0
  · rw [orC_ne h0]
    exact flwR_pan (e0.trans e1) rfl h0
theorem check_flw (h : Chk w0 cb md ms deps strs at_ fld fs) (i : Nat) (hi : fld = i) (hlt : i < fs.length) (v : Value) (f : FieldD) (hf : FieldVal w0 v f) : Calls Try.prog 105 #[.pointer (some ⟨cb, 0, none⟩), v] w0 (flwR w0 at_ fld (orC (withinC 3 1 [f.check]) (needC ((fs.take i).any fun o => decide (o.name = f.fr)) 8))) := by
  obtain ⟨tv, cv, rfl, hT, hC, ht1, hc1⟩ := hf.op
  refine n_schema_kinds_20_sound ?_; unfold n_schema_kinds_20
  simp (disch := first | assumption | (simp only [ONE]; done) | rfl | (simp only [SZ]; done) | omega | (simp only [SZ] at *; omega)) only [↓PR, QR, Int.reduceBEq, Int.reduceBNe, Int.reduceLT, Int.reduceLE, Int.reduceGT, Int.reduceGE, Int.reduceNeg]
  generalize hW : World.alloc (World.alloc w0 _) _ = W
  have e0 : Ext w0 W := by rw [← hW]; exact ee
  have o3 : W.heap[w0.heap.size]? = some (.cells (fieldCells f tv cv).toArray 28 (0, 0)) := by rw [← hW]; simp (disch := first | assumption | (simp only [ONE]; done) | rfl | (simp only [SZ]; done) | omega | (simp only [SZ] at *; omega)) only [↓PR, QR, Int.reduceBEq, Int.reduceBNe, Int.reduceLT, Int.reduceLE, Int.reduceGT, Int.reduceGE, Int.reduceNeg]
  have hIn : IntsOf W (.slice (some ⟨w0.heap.size + 1, 0, none⟩) 1 1) [f.check] := by rw [← hW]; exact ints1 (by simp only [World.size_alloc]) _ _
  clear hW
  refine callK_flw (within_flw (h.ext e0) 1 3 _ _ hIn) (fun w1 e1 h0 => ?_) (fun w1 e1 h0 => ?_)
  · rw [h0, orC_zero]
    have e01 := e0.trans e1
    refine drawK_intro ?_
    simp (disch := first | assumption | (simp only [ONE]; done) | rfl | (simp only [SZ]; done) | omega | (simp only [SZ] at *; omega)) only [↓PR, QR, Int.reduceBEq, Int.reduceBNe, Int.reduceLT, Int.reduceLE, Int.reduceGT, Int.reduceGE, Int.reduceNeg, ↓n_schema_kinds_20_c1, ↓n_schema_kinds_20_c2, (cells_of_heap (e1.obj o3)).1]
    refine callK_ret (before_ret (h.ext e01.wdrew) i hi hlt) ?_
    rintro bv w2 ⟨hB, e2⟩
    refine ⟨e2, ?_⟩
    have hb1 := SliceOf.oneCell hB
    simp (disch := first | assumption | (simp only [ONE]; done) | rfl | (simp only [SZ]; done) | omega | (simp only [SZ] at *; omega)) only [↓PR, QR, Int.reduceBEq, Int.reduceBNe, Int.reduceLT, Int.reduceLE, Int.reduceGT, Int.reduceGE, Int.reduceNeg, ↓n_schema_kinds_20_c1, ↓n_schema_kinds_20_c2]
    refine callK_ret (Field_ret w2 _ ⟨ByteArray.empty, fs.take i⟩ f.fr ⟨bv, rfl, hB⟩) ?_
    rintro _ w3 ⟨rfl, e3⟩
    refine ⟨e2.trans e3, ?_⟩
    simp (disch := first | assumption | (simp only [ONE]; done) | rfl | (simp only [SZ]; done) | omega | (simp only [SZ] at *; omega)) only [↓PR, QR, Int.reduceBEq, Int.reduceBNe, Int.reduceLT, Int.reduceLE, Int.reduceGT, Int.reduceGE, Int.reduceNeg, ↓n_schema_kinds_20_c1, ↓n_schema_kinds_20_c2]
    have e03 := (e01.wdrew).trans (e2.trans e3)
    refine callK_flw (need_flw (h.ext e03) _ 8 (by decide)) (fun w4 e4 h0 => ?_) (fun w4 e4 h0 => ?_)
    · exact flwR_ret (e03.trans e4) h0
    · exact flwR_pan (e03.trans e4) rfl h0
  · rw [orC_ne h0]
    exact flwR_pan (e0.trans e1) rfl h0
def padB (f : FieldD) : Bool := (f.bits == 2) || (f.bits == 4) || (decide (8 ≤ f.bits) && decide (f.bits ≤ 512) && (f.bits.tmod 8 == 0))
theorem pad_flw (h : Chk w0 cb md ms deps strs at_ fld fs) (v : Value) (f : FieldD) (hf : FieldVal w0 v f) : Calls Try.prog 103 #[.pointer (some ⟨cb, 0, none⟩), v] w0 (flwR w0 at_ fld (needC (padB f) 6)) := by
  obtain ⟨tv, cv, rfl, hT, hC, ht1, hc1⟩ := hf.op
  refine n_schema_kinds_18_sound ?_; unfold n_schema_kinds_18
  simp (disch := first | assumption | (simp only [ONE]; done) | rfl | (simp only [SZ]; done) | omega | (simp only [SZ] at *; omega)) only [↓PR, QR, Int.reduceBEq, Int.reduceBNe, Int.reduceLT, Int.reduceLE, Int.reduceGT, Int.reduceGE, Int.reduceNeg, ↓n_schema_kinds_18_c1, ↓n_schema_kinds_18_c2, ↓n_schema_kinds_18_c3, ↓n_schema_kinds_18_c4]
  have e0 : Ext w0 (w0.alloc (Obj.cells (fieldCells f tv cv).toArray 28)) := ee
  have fin : ∀ b, b = padB f → callK Try.prog 62 #[.pointer (some ⟨cb, 0, none⟩), .bool b, .int .i64 6] (panK (flwR w0 at_ fld (needC (padB f) 6))) (w0.alloc (Obj.cells (fieldCells f tv cv).toArray 28)) (fun _ w => flwR w0 at_ fld (needC (padB f) 6) (.returned (.tuple #[])) w) := by
    rintro b rfl
    exact callK_flw (need_flw (h.ext e0) _ 6 (by decide)) (fun w' e1 h0 => flwR_ret (e0.trans e1) h0) (fun w' e1 h0 => flwR_pan (e0.trans e1) rfl h0)
  unfold padB at fin ⊢
  generalize (f.bits == 2) = b1 at fin ⊢
  generalize (f.bits == 4) = b2 at fin ⊢
  generalize decide (8 ≤ f.bits) = b3 at fin ⊢
  generalize decide (f.bits ≤ 512) = b4 at fin ⊢
  cases b1 <;> cases b2 <;> cases b3 <;> cases b4 <;> simp (disch := first | assumption | (simp only [ONE]; done) | rfl | (simp only [SZ]; done) | omega | (simp only [SZ] at *; omega)) only [↓PR, QR, Int.reduceBEq, Int.reduceBNe, Int.reduceLT, Int.reduceLE, Int.reduceGT, Int.reduceGE, Int.reduceNeg, ↓n_schema_kinds_18_c1, ↓n_schema_kinds_18_c2, ↓n_schema_kinds_18_c3, ↓n_schema_kinds_18_c4] <;> first | exact fin _ rfl | exact fin _ (by simp)
end
end Go.Proofs.Ytiajhbbmgglmlaa
namespace Go.Proofs.Ytiajhbbmgglmlaa
open Sw
open Go.RowKit (intOf Below)
set_option maxRecDepth 100000
theorem eq_Term (x y : TermD) : (decide (x.field = y.field) && decide (x.factor = y.factor)) = decide (x = y) := by
  cases x; cases y
  rw [Bool.eq_iff_iff]
  simp
theorem Equal_Term_ret (w0 : World) (v u : Value) (l m : List TermD) (hl : TermsOf w0 v l) (hm : TermsOf w0 u m) :
    Ret Try.prog 68 #[v, u] w0 fun r w' => r = .bool (decide (l = m)) ∧ Ext w0 w' := by
  obtain ⟨A, c, rfl, hlc, hcm, hlm, hel⟩ := SliceOf.open hl
  obtain ⟨A', c', rfl, hlc', hcm', hlm', hel'⟩ := SliceOf.open hm
  refine n_slices_Equal_api_Term_sound (R := retR _) ?_; unfold n_slices_Equal_api_Term
  simp (disch := first | assumption | (simp only [ONE]; done) | rfl | (simp only [SZ]; done) | omega | (simp only [SZ] at *; omega)) only [↓PR, QR, Int.reduceBEq, Int.reduceBNe, Int.reduceLT, Int.reduceLE, Int.reduceGT, Int.reduceGE, Int.reduceNeg]
  by_cases hlen : l.length = m.length
  · have hne : ((l.length : Int) != (m.length : Int)) = false := by simp [hlen]
    simp (disch := first | assumption | (simp only [ONE]; done) | rfl | (simp only [SZ]; done) | omega | (simp only [SZ] at *; omega)) only [↓PR, QR, Int.reduceBEq, Int.reduceBNe, Int.reduceLT, Int.reduceLE, Int.reduceGT, Int.reduceGE, Int.reduceNeg, ↓n_slices_Equal_api_Term_c1, ↓n_slices_Equal_api_Term_c2, hne]
    refine loop1_intro (fun a0 w => ∃ (k : Nat) , a0 = .int .i64 (k : Int) ∧ k ≤ l.length ∧ Ext w0 w ∧ l.take k = m.take k) (fun a0 _ => l.length - (intOf a0).toNat) ⟨0, rfl, Nat.zero_le _, ee, rfl⟩ ?_
    rintro _ w ⟨k, rfl, hk, e, hI⟩
    have se := e.size
    rcases drop_cases hk with ⟨x, hx, hd, hlt, hdec⟩ | ⟨hk, hd, hdec⟩
    · obtain ⟨b, o, cs, rfl, _, hA, rfl⟩ := hel k x hx
      obtain ⟨y, hy⟩ := getElem?_lt (l := m) (k := k) (by omega)
      obtain ⟨b', o', cs', rfl, _, hA', rfl⟩ := hel' k y hy
      have hlt' : k < m.length := by omega
      have eD : Ext w0 w.drew := e.wdrew
      simp (disch := first | assumption | (simp only [ONE]; done) | rfl | (simp only [SZ]; done) | omega | (simp only [SZ] at *; omega)) only [↓PR, QR, Int.reduceBEq, Int.reduceBNe, Int.reduceLT, Int.reduceLE, Int.reduceGT, Int.reduceGE, Int.reduceNeg, ↓n_slices_Equal_api_Term_c1, ↓n_slices_Equal_api_Term_c2, hdec]
      refine drawK_intro ?_
      simp (disch := first | assumption | (simp only [ONE]; done) | rfl | (simp only [SZ]; done) | omega | (simp only [SZ] at *; omega)) only [↓PR, QR, Int.reduceBEq, Int.reduceBNe, Int.reduceLT, Int.reduceLE, Int.reduceGT, Int.reduceGE, Int.reduceNeg, ↓n_slices_Equal_api_Term_c1, ↓n_slices_Equal_api_Term_c2, hA.c2, hA'.c2]
      rw [eq_Term]
      by_cases hxy : x = y
      · subst hxy
        simp only [decide_true, Bool.not_true]
        simp (disch := first | assumption | (simp only [ONE]; done) | rfl | (simp only [SZ]; done) | omega | (simp only [SZ] at *; omega)) only [↓PR, QR, Int.reduceBEq, Int.reduceBNe, Int.reduceLT, Int.reduceLE, Int.reduceGT, Int.reduceGE, Int.reduceNeg, ↓n_slices_Equal_api_Term_c1, ↓n_slices_Equal_api_Term_c2]
        exact ⟨⟨k + 1, rfl, by omega, ee, by rw [List.take_add_one, List.take_add_one, hx, hy, hI]⟩, meas_lt hlt⟩
      · simp only [hxy, decide_false, Bool.not_false]
        simp (disch := first | assumption | (simp only [ONE]; done) | rfl | (simp only [SZ]; done) | omega | (simp only [SZ] at *; omega)) only [↓PR, QR, Int.reduceBEq, Int.reduceBNe, Int.reduceLT, Int.reduceLE, Int.reduceGT, Int.reduceGE, Int.reduceNeg, ↓n_slices_Equal_api_Term_c1, ↓n_slices_Equal_api_Term_c2]
        refine ⟨?_, eD⟩
        have hne' : ¬ l = m := by
          rintro rfl
          rw [hx] at hy
          injection hy with hy
          exact hxy hy
        simp [hne']
    · subst hk
      simp (disch := first | assumption | (simp only [ONE]; done) | rfl | (simp only [SZ]; done) | omega | (simp only [SZ] at *; omega)) only [↓PR, QR, Int.reduceBEq, Int.reduceBNe, Int.reduceLT, Int.reduceLE, Int.reduceGT, Int.reduceGE, Int.reduceNeg, ↓n_slices_Equal_api_Term_c1, ↓n_slices_Equal_api_Term_c2, hdec]
      rw [List.take_length, hlen, List.take_length] at hI
      exact ⟨by simp [hI], e⟩
  · have hne : ((l.length : Int) != (m.length : Int)) = true := by simp; omega
    simp (disch := first | assumption | (simp only [ONE]; done) | rfl | (simp only [SZ]; done) | omega | (simp only [SZ] at *; omega)) only [↓PR, QR, Int.reduceBEq, Int.reduceBNe, Int.reduceLT, Int.reduceLE, Int.reduceGT, Int.reduceGE, Int.reduceNeg, ↓n_slices_Equal_api_Term_c1, ↓n_slices_Equal_api_Term_c2, hne]
    have hne' : ¬ l = m := fun h => hlen (by rw [h])
    exact ⟨by simp [hne'], Ext.refl _⟩
theorem eq_Case (x y : CaseD) : (decide (x.low = y.low) && (decide (x.high = y.high) && decide (x.of = y.of))) = decide (x = y) := by
  cases x; cases y
  rw [Bool.eq_iff_iff]
  simp
theorem Equal_Case_ret (w0 : World) (v u : Value) (l m : List CaseD) (hl : CasesOf w0 v l) (hm : CasesOf w0 u m) :
    Ret Try.prog 69 #[v, u] w0 fun r w' => r = .bool (decide (l = m)) ∧ Ext w0 w' := by
  obtain ⟨A, c, rfl, hlc, hcm, hlm, hel⟩ := SliceOf.open hl
  obtain ⟨A', c', rfl, hlc', hcm', hlm', hel'⟩ := SliceOf.open hm
  refine n_slices_Equal_api_Case_sound (R := retR _) ?_; unfold n_slices_Equal_api_Case
  simp (disch := first | assumption | (simp only [ONE]; done) | rfl | (simp only [SZ]; done) | omega | (simp only [SZ] at *; omega)) only [↓PR, QR, Int.reduceBEq, Int.reduceBNe, Int.reduceLT, Int.reduceLE, Int.reduceGT, Int.reduceGE, Int.reduceNeg]
  by_cases hlen : l.length = m.length
  · have hne : ((l.length : Int) != (m.length : Int)) = false := by simp [hlen]
    simp (disch := first | assumption | (simp only [ONE]; done) | rfl | (simp only [SZ]; done) | omega | (simp only [SZ] at *; omega)) only [↓PR, QR, Int.reduceBEq, Int.reduceBNe, Int.reduceLT, Int.reduceLE, Int.reduceGT, Int.reduceGE, Int.reduceNeg, ↓n_slices_Equal_api_Case_c1, ↓n_slices_Equal_api_Case_c2, hne]
    refine loop1_intro (fun a0 w => ∃ (k : Nat) , a0 = .int .i64 (k : Int) ∧ k ≤ l.length ∧ Ext w0 w ∧ l.take k = m.take k) (fun a0 _ => l.length - (intOf a0).toNat) ⟨0, rfl, Nat.zero_le _, ee, rfl⟩ ?_
    rintro _ w ⟨k, rfl, hk, e, hI⟩
    have se := e.size
    rcases drop_cases hk with ⟨x, hx, hd, hlt, hdec⟩ | ⟨hk, hd, hdec⟩
    · obtain ⟨b, o, cs, rfl, _, hA, rfl⟩ := hel k x hx
      obtain ⟨y, hy⟩ := getElem?_lt (l := m) (k := k) (by omega)
      obtain ⟨b', o', cs', rfl, _, hA', rfl⟩ := hel' k y hy
      have hlt' : k < m.length := by omega
      have eD : Ext w0 w.drew := e.wdrew
      simp (disch := first | assumption | (simp only [ONE]; done) | rfl | (simp only [SZ]; done) | omega | (simp only [SZ] at *; omega)) only [↓PR, QR, Int.reduceBEq, Int.reduceBNe, Int.reduceLT, Int.reduceLE, Int.reduceGT, Int.reduceGE, Int.reduceNeg, ↓n_slices_Equal_api_Case_c1, ↓n_slices_Equal_api_Case_c2, hdec]
      refine drawK_intro ?_
      simp (disch := first | assumption | (simp only [ONE]; done) | rfl | (simp only [SZ]; done) | omega | (simp only [SZ] at *; omega)) only [↓PR, QR, Int.reduceBEq, Int.reduceBNe, Int.reduceLT, Int.reduceLE, Int.reduceGT, Int.reduceGE, Int.reduceNeg, ↓n_slices_Equal_api_Case_c1, ↓n_slices_Equal_api_Case_c2, hA.c3, hA'.c3]
      rw [eq_Case]
      by_cases hxy : x = y
      · subst hxy
        simp only [decide_true, Bool.not_true]
        simp (disch := first | assumption | (simp only [ONE]; done) | rfl | (simp only [SZ]; done) | omega | (simp only [SZ] at *; omega)) only [↓PR, QR, Int.reduceBEq, Int.reduceBNe, Int.reduceLT, Int.reduceLE, Int.reduceGT, Int.reduceGE, Int.reduceNeg, ↓n_slices_Equal_api_Case_c1, ↓n_slices_Equal_api_Case_c2]
        exact ⟨⟨k + 1, rfl, by omega, ee, by rw [List.take_add_one, List.take_add_one, hx, hy, hI]⟩, meas_lt hlt⟩
      · simp only [hxy, decide_false, Bool.not_false]
        simp (disch := first | assumption | (simp only [ONE]; done) | rfl | (simp only [SZ]; done) | omega | (simp only [SZ] at *; omega)) only [↓PR, QR, Int.reduceBEq, Int.reduceBNe, Int.reduceLT, Int.reduceLE, Int.reduceGT, Int.reduceGE, Int.reduceNeg, ↓n_slices_Equal_api_Case_c1, ↓n_slices_Equal_api_Case_c2]
        refine ⟨?_, eD⟩
        have hne' : ¬ l = m := by
          rintro rfl
          rw [hx] at hy
          injection hy with hy
          exact hxy hy
        simp [hne']
    · subst hk
      simp (disch := first | assumption | (simp only [ONE]; done) | rfl | (simp only [SZ]; done) | omega | (simp only [SZ] at *; omega)) only [↓PR, QR, Int.reduceBEq, Int.reduceBNe, Int.reduceLT, Int.reduceLE, Int.reduceGT, Int.reduceGE, Int.reduceNeg, ↓n_slices_Equal_api_Case_c1, ↓n_slices_Equal_api_Case_c2, hdec]
      rw [List.take_length, hlen, List.take_length] at hI
      exact ⟨by simp [hI], e⟩
  · have hne : ((l.length : Int) != (m.length : Int)) = true := by simp; omega
    simp (disch := first | assumption | (simp only [ONE]; done) | rfl | (simp only [SZ]; done) | omega | (simp only [SZ] at *; omega)) only [↓PR, QR, Int.reduceBEq, Int.reduceBNe, Int.reduceLT, Int.reduceLE, Int.reduceGT, Int.reduceGE, Int.reduceNeg, ↓n_slices_Equal_api_Case_c1, ↓n_slices_Equal_api_Case_c2, hne]
    have hne' : ¬ l = m := fun h => hlen (by rw [h])
    exact ⟨by simp [hne'], Ext.refl _⟩
abbrev partsVal (f : FieldD) : Value := .agg #[.string f.name, .string f.of, .string f.tag, .string f.fr, .int .i64 f.kind, .int .i64 f.bits, .int .i64 f.low, .int .i64 f.high, .int .i64 f.base, .int .i64 f.check, .int .i64 f.key, .bool f.little, .bool f.loose]
theorem parts_ret (w0 : World) (v : Value) (f : FieldD) (hf : FieldVal w0 v f) : Ret Try.prog 67 #[v] w0 fun r w' => r = partsVal f ∧ Ext w0 w' := by
  obtain ⟨tv, cv, rfl, hT, hC, ht1, hc1⟩ := hf.op
  refine n_schema_parts_sound (R := retR _) ?_; unfold n_schema_parts
  simp (disch := first | assumption | (simp only [ONE]; done) | rfl | (simp only [SZ]; done) | omega | (simp only [SZ] at *; omega)) only [↓PR, QR, Int.reduceBEq, Int.reduceBNe, Int.reduceLT, Int.reduceLE, Int.reduceGT, Int.reduceGE, Int.reduceNeg, Sw.joinK_eq]
  exact ⟨by first | trivial | rfl, ee⟩
theorem sameField_ret (w0 : World) (v u : Value) (f g : FieldD) (hf : FieldVal w0 v f) (hg : FieldVal w0 u g) : Ret Try.prog 56 #[v, u] w0 fun r w' => r = .bool (decide (f = g)) ∧ Ext w0 w' := by
  obtain ⟨tv, cv, rfl, hT, hC, ht1, hc1⟩ := hf.op
  obtain ⟨tv', cv', rfl, hT', hC', ht1', hc1'⟩ := hg.op
  refine n_schema_sameField_sound (R := retR _) ?_; unfold n_schema_sameField
  simp (disch := first | assumption | (simp only [ONE]; done) | rfl | (simp only [SZ]; done) | omega | (simp only [SZ] at *; omega)) only [↓PR, QR, Int.reduceBEq, Int.reduceBNe, Int.reduceLT, Int.reduceLE, Int.reduceGT, Int.reduceGE, Int.reduceNeg]
  generalize hW : World.alloc (World.alloc w0 _) _ = W
  have e0 : Ext w0 W := by rw [← hW]; exact ee
  have o3 : W.heap[w0.heap.size]? = some (.cells (fieldCells f tv cv).toArray 28 (0, 0)) := by rw [← hW]; simp (disch := first | assumption | (simp only [ONE]; done) | rfl | (simp only [SZ]; done) | omega | (simp only [SZ] at *; omega)) only [↓PR, QR, Int.reduceBEq, Int.reduceBNe, Int.reduceLT, Int.reduceLE, Int.reduceGT, Int.reduceGE, Int.reduceNeg]
  have o4 : W.heap[w0.heap.size + 1]? = some (.cells (fieldCells g tv' cv').toArray 28 (0, 0)) := by rw [← hW]; simp (disch := first | assumption | (simp only [ONE]; done) | rfl | (simp only [SZ]; done) | omega | (simp only [SZ] at *; omega)) only [↓PR, QR, Int.reduceBEq, Int.reduceBNe, Int.reduceLT, Int.reduceLE, Int.reduceGT, Int.reduceGE, Int.reduceNeg]
  clear hW
  simp only [World.size_alloc]
  refine drawK_intro ?_
  have eD : Ext w0 W.drew := e0.wdrew
  simp (disch := first | assumption | (simp only [ONE]; done) | rfl | (simp only [SZ]; done) | omega | (simp only [SZ] at *; omega)) only [↓PR, QR, Int.reduceBEq, Int.reduceBNe, Int.reduceLT, Int.reduceLE, Int.reduceGT, Int.reduceGE, Int.reduceNeg, ↓n_schema_sameField_c1, ↓n_schema_sameField_c2, ↓n_schema_sameField_c3, (cells_of_heap o3).1, (cells_of_heap o4).1]
  refine callK_ret (parts_ret _ _ f ⟨tv, cv, rfl, TermsOf.ext hT eD, CasesOf.ext hC eD⟩) ?_
  rintro _ w1 ⟨rfl, e1⟩
  refine ⟨e1, ?_⟩
  have eD1 := eD.trans e1
  refine callK_ret (parts_ret _ _ g ⟨tv', cv', rfl, TermsOf.ext hT' eD1, CasesOf.ext hC' eD1⟩) ?_
  rintro _ w2 ⟨rfl, e2⟩
  refine ⟨e1.trans e2, ?_⟩
  simp (disch := first | assumption | (simp only [ONE]; done) | rfl | (simp only [SZ]; done) | omega | (simp only [SZ] at *; omega)) only [↓PR, QR, Int.reduceBEq, Int.reduceBNe, Int.reduceLT, Int.reduceLE, Int.reduceGT, Int.reduceGE, Int.reduceNeg, ↓n_schema_sameField_c1, ↓n_schema_sameField_c2, ↓n_schema_sameField_c3, (cells_of_heap o3).1, (cells_of_heap o4).1]
  have eW2 : Ext W w2 := (Ext.refl W).wdrew.trans (e1.trans e2)
  generalize hb : (_ && _ : Bool) = b1
  cases b1 with
  | false =>
    simp (disch := first | assumption | (simp only [ONE]; done) | rfl | (simp only [SZ]; done) | omega | (simp only [SZ] at *; omega)) only [↓PR, QR, Int.reduceBEq, Int.reduceBNe, Int.reduceLT, Int.reduceLE, Int.reduceGT, Int.reduceGE, Int.reduceNeg, ↓n_schema_sameField_c1, ↓n_schema_sameField_c2, ↓n_schema_sameField_c3]
    refine ⟨?_, e0.trans eW2⟩
    have hne : ¬ f = g := by
      rintro rfl
      simp at hb
    simp [hne]
  | true =>
    have hbt := hb
    simp only [Bool.and_eq_true, decide_eq_true_eq] at hb
    obtain ⟨h1, h2, h3, h4, h5, h6, h7, h8, h9, h10, h11, h12, h13⟩ := hb
    simp (disch := first | assumption | (simp only [ONE]; done) | rfl | (simp only [SZ]; done) | omega | (simp only [SZ] at *; omega)) only [↓PR, QR, Int.reduceBEq, Int.reduceBNe, Int.reduceLT, Int.reduceLE, Int.reduceGT, Int.reduceGE, Int.reduceNeg, ↓n_schema_sameField_c1, ↓n_schema_sameField_c2, ↓n_schema_sameField_c3, (cells_of_heap o3).1, (cells_of_heap o4).1]
    refine callK_ret (Equal_Term_ret _ _ _ _ _ (TermsOf.ext hT (e0.trans eW2)) (TermsOf.ext hT' (e0.trans eW2))) ?_
    rintro _ w3 ⟨rfl, e3⟩
    refine ⟨(e1.trans e2).trans e3, ?_⟩
    have eW3 := eW2.trans e3
    by_cases ht : f.terms = g.terms
    · simp only [ht, decide_true]
      simp (disch := first | assumption | (simp only [ONE]; done) | rfl | (simp only [SZ]; done) | omega | (simp only [SZ] at *; omega)) only [↓PR, QR, Int.reduceBEq, Int.reduceBNe, Int.reduceLT, Int.reduceLE, Int.reduceGT, Int.reduceGE, Int.reduceNeg, ↓n_schema_sameField_c1, ↓n_schema_sameField_c2, ↓n_schema_sameField_c3, hbt, (cells_of_heap o3).1, (cells_of_heap o4).1]
      refine callK_ret (Equal_Case_ret _ _ _ _ _ (CasesOf.ext hC (e0.trans eW3)) (CasesOf.ext hC' (e0.trans eW3))) ?_
      rintro _ w4 ⟨rfl, e4⟩
      refine ⟨((e1.trans e2).trans e3).trans e4, ?_⟩
      simp (disch := first | assumption | (simp only [ONE]; done) | rfl | (simp only [SZ]; done) | omega | (simp only [SZ] at *; omega)) only [↓PR, QR, Int.reduceBEq, Int.reduceBNe, Int.reduceLT, Int.reduceLE, Int.reduceGT, Int.reduceGE, Int.reduceNeg, ↓n_schema_sameField_c1, ↓n_schema_sameField_c2, ↓n_schema_sameField_c3]
      refine ⟨?_, e0.trans (eW3.trans e4)⟩
      congr 1
      rw [Bool.eq_iff_iff]
      simp only [decide_eq_true_eq]
      constructor
      · intro hc; cases f; cases g; simp_all
      · rintro rfl; rfl
    · simp only [ht, decide_false]
      simp (disch := first | assumption | (simp only [ONE]; done) | rfl | (simp only [SZ]; done) | omega | (simp only [SZ] at *; omega)) only [↓PR, QR, Int.reduceBEq, Int.reduceBNe, Int.reduceLT, Int.reduceLE, Int.reduceGT, Int.reduceGE, Int.reduceNeg, ↓n_schema_sameField_c1, ↓n_schema_sameField_c2, ↓n_schema_sameField_c3, hbt]
      refine ⟨?_, e0.trans eW3⟩
      have hne : ¬ f = g := by rintro rfl; exact ht rfl
      simp [hne]
end Go.Proofs.Ytiajhbbmgglmlaa
namespace Go.Proofs.Ytiajhbbmgglmlaa
open Sw
open Go.RowKit (intOf Below)
set_option maxRecDepth 100000
def Clears (g : FuncId) (cl : FieldD → FieldD) (ct cc : Bool) : Prop := ∀ (w : World) (p : Nat) (f : FieldD) (tv cv : Value), tv.oneCell' = true → cv.oneCell' = true → w.heap[p]? = some (.cells (fieldCells f tv cv).toArray 28 (0, 0)) →
  Ret Try.prog g #[.pointer (some ⟨p, 0, none⟩)] w fun _ w' => w'.heap[p]? = some (.cells (fieldCells (cl f) (if ct then .slice none 0 0 else tv) (if cc then .slice none 0 0 else cv)).toArray 28 (0, 0)) ∧ ∀ a, Ext a w → a.heap.size ≤ p → Ext a w'
def clear1 (f : FieldD) : FieldD := { f with bits := 0, little := false, low := 0, high := 0 }
theorem clears1 : Clears 81 clear1 false false := by
  intro w p f tv cv ht1 hc1 hp
  have hlt := (Array.getElem?_eq_some_iff.1 hp).1
  refine n_schema_kinds_1_sound (R := retR _) ?_; unfold n_schema_kinds_1
  simp (disch := first | assumption | (simp only [ONE]; done) | rfl | (simp only [SZ]; done) | omega | (simp only [SZ] at *; omega)) only [↓PR, QR, Int.reduceBEq, Int.reduceBNe, Int.reduceLT, Int.reduceLE, Int.reduceGT, Int.reduceGE, Int.reduceNeg, Sw.joinK_eq, (cells_of_heap hp).1, (cells_of_heap hp).2]
  refine ⟨?_, fun a e hp' => ?_⟩
  · simp only [heap_set_map, hp, Option.map_some, setObj_cells, List.setIfInBounds_toArray, List.set_cons_zero, List.set_cons_succ, Bool.false_eq_true, if_false, if_true]
    try rfl
  · exact ee
def clear2 (f : FieldD) : FieldD := { f with bits := 0, little := false, low := 0 }
theorem clears2 : Clears 85 clear2 false false := by
  intro w p f tv cv ht1 hc1 hp
  have hlt := (Array.getElem?_eq_some_iff.1 hp).1
  refine n_schema_kinds_3_sound (R := retR _) ?_; unfold n_schema_kinds_3
  simp (disch := first | assumption | (simp only [ONE]; done) | rfl | (simp only [SZ]; done) | omega | (simp only [SZ] at *; omega)) only [↓PR, QR, Int.reduceBEq, Int.reduceBNe, Int.reduceLT, Int.reduceLE, Int.reduceGT, Int.reduceGE, Int.reduceNeg, Sw.joinK_eq, (cells_of_heap hp).1, (cells_of_heap hp).2]
  refine ⟨?_, fun a e hp' => ?_⟩
  · simp only [heap_set_map, hp, Option.map_some, setObj_cells, List.setIfInBounds_toArray, List.set_cons_zero, List.set_cons_succ, Bool.false_eq_true, if_false, if_true]
    try rfl
  · exact ee
def clear3 (f : FieldD) : FieldD := { f with loose := false, low := 0, high := 0 }
theorem clears3 : Clears 87 clear3 false false := by
  intro w p f tv cv ht1 hc1 hp
  have hlt := (Array.getElem?_eq_some_iff.1 hp).1
  refine n_schema_kinds_5_sound (R := retR _) ?_; unfold n_schema_kinds_5
  simp (disch := first | assumption | (simp only [ONE]; done) | rfl | (simp only [SZ]; done) | omega | (simp only [SZ] at *; omega)) only [↓PR, QR, Int.reduceBEq, Int.reduceBNe, Int.reduceLT, Int.reduceLE, Int.reduceGT, Int.reduceGE, Int.reduceNeg, Sw.joinK_eq, (cells_of_heap hp).1, (cells_of_heap hp).2]
  refine ⟨?_, fun a e hp' => ?_⟩
  · simp only [heap_set_map, hp, Option.map_some, setObj_cells, List.setIfInBounds_toArray, List.set_cons_zero, List.set_cons_succ, Bool.false_eq_true, if_false, if_true]
    try rfl
  · exact ee
def clear4 (f : FieldD) : FieldD := { f with base := 0, terms := [] }
theorem clears4 : Clears 89 clear4 true false := by
  intro w p f tv cv ht1 hc1 hp
  have hlt := (Array.getElem?_eq_some_iff.1 hp).1
  refine n_schema_kinds_7_sound (R := retR _) ?_; unfold n_schema_kinds_7
  simp (disch := first | assumption | (simp only [ONE]; done) | rfl | (simp only [SZ]; done) | omega | (simp only [SZ] at *; omega)) only [↓PR, QR, Int.reduceBEq, Int.reduceBNe, Int.reduceLT, Int.reduceLE, Int.reduceGT, Int.reduceGE, Int.reduceNeg, Sw.joinK_eq, (cells_of_heap hp).1, (cells_of_heap hp).2]
  refine ⟨?_, fun a e hp' => ?_⟩
  · simp only [heap_set_map, hp, Option.map_some, setObj_cells, List.setIfInBounds_toArray, List.set_cons_zero, List.set_cons_succ, Bool.false_eq_true, if_false, if_true]
    try rfl
  · exact ee
def clear5 (f : FieldD) : FieldD := { f with low := 0, high := 0 }
theorem clears5 : Clears 91 clear5 false false := by
  intro w p f tv cv ht1 hc1 hp
  have hlt := (Array.getElem?_eq_some_iff.1 hp).1
  refine n_schema_kinds_8_sound (R := retR _) ?_; unfold n_schema_kinds_8
  simp (disch := first | assumption | (simp only [ONE]; done) | rfl | (simp only [SZ]; done) | omega | (simp only [SZ] at *; omega)) only [↓PR, QR, Int.reduceBEq, Int.reduceBNe, Int.reduceLT, Int.reduceLE, Int.reduceGT, Int.reduceGE, Int.reduceNeg, Sw.joinK_eq, (cells_of_heap hp).1, (cells_of_heap hp).2]
  refine ⟨?_, fun a e hp' => ?_⟩
  · simp only [heap_set_map, hp, Option.map_some, setObj_cells, List.setIfInBounds_toArray, List.set_cons_zero, List.set_cons_succ, Bool.false_eq_true, if_false, if_true]
    try rfl
  · exact ee
def clear6 (f : FieldD) : FieldD := { f with loose := false, high := 0 }
theorem clears6 : Clears 93 clear6 false false := by
  intro w p f tv cv ht1 hc1 hp
  have hlt := (Array.getElem?_eq_some_iff.1 hp).1
  refine n_schema_kinds_10_sound (R := retR _) ?_; unfold n_schema_kinds_10
  simp (disch := first | assumption | (simp only [ONE]; done) | rfl | (simp only [SZ]; done) | omega | (simp only [SZ] at *; omega)) only [↓PR, QR, Int.reduceBEq, Int.reduceBNe, Int.reduceLT, Int.reduceLE, Int.reduceGT, Int.reduceGE, Int.reduceNeg, Sw.joinK_eq, (cells_of_heap hp).1, (cells_of_heap hp).2]
  refine ⟨?_, fun a e hp' => ?_⟩
  · simp only [heap_set_map, hp, Option.map_some, setObj_cells, List.setIfInBounds_toArray, List.set_cons_zero, List.set_cons_succ, Bool.false_eq_true, if_false, if_true]
    try rfl
  · exact ee
def clear7 (f : FieldD) : FieldD := { f with of := ByteArray.empty, base := 0, terms := [] }
theorem clears7 : Clears 95 clear7 true false := by
  intro w p f tv cv ht1 hc1 hp
  have hlt := (Array.getElem?_eq_some_iff.1 hp).1
  refine n_schema_kinds_12_sound (R := retR _) ?_; unfold n_schema_kinds_12
  simp (disch := first | assumption | (simp only [ONE]; done) | rfl | (simp only [SZ]; done) | omega | (simp only [SZ] at *; omega)) only [↓PR, QR, Int.reduceBEq, Int.reduceBNe, Int.reduceLT, Int.reduceLE, Int.reduceGT, Int.reduceGE, Int.reduceNeg, Sw.joinK_eq, (cells_of_heap hp).1, (cells_of_heap hp).2]
  refine ⟨?_, fun a e hp' => ?_⟩
  · simp only [heap_set_map, hp, Option.map_some, setObj_cells, List.setIfInBounds_toArray, List.set_cons_zero, List.set_cons_succ, Bool.false_eq_true, if_false, if_true]
    try rfl
  · exact ee
def clear8 (f : FieldD) : FieldD := { f with of := ByteArray.empty }
theorem clears8 : Clears 98 clear8 false false := by
  intro w p f tv cv ht1 hc1 hp
  have hlt := (Array.getElem?_eq_some_iff.1 hp).1
  refine n_schema_kinds_14_sound (R := retR _) ?_; unfold n_schema_kinds_14
  simp (disch := first | assumption | (simp only [ONE]; done) | rfl | (simp only [SZ]; done) | omega | (simp only [SZ] at *; omega)) only [↓PR, QR, Int.reduceBEq, Int.reduceBNe, Int.reduceLT, Int.reduceLE, Int.reduceGT, Int.reduceGE, Int.reduceNeg, Sw.joinK_eq, (cells_of_heap hp).1, (cells_of_heap hp).2]
  refine ⟨?_, fun a e hp' => ?_⟩
  · simp only [heap_set_map, hp, Option.map_some, setObj_cells, List.setIfInBounds_toArray, List.set_cons_zero, List.set_cons_succ, Bool.false_eq_true, if_false, if_true]
    try rfl
  · exact ee
def clear9 (f : FieldD) : FieldD := { f with tag := ByteArray.empty, cases := [] }
theorem clears9 : Clears 100 clear9 false true := by
  intro w p f tv cv ht1 hc1 hp
  have hlt := (Array.getElem?_eq_some_iff.1 hp).1
  refine n_schema_kinds_16_sound (R := retR _) ?_; unfold n_schema_kinds_16
  simp (disch := first | assumption | (simp only [ONE]; done) | rfl | (simp only [SZ]; done) | omega | (simp only [SZ] at *; omega)) only [↓PR, QR, Int.reduceBEq, Int.reduceBNe, Int.reduceLT, Int.reduceLE, Int.reduceGT, Int.reduceGE, Int.reduceNeg, Sw.joinK_eq, (cells_of_heap hp).1, (cells_of_heap hp).2]
  refine ⟨?_, fun a e hp' => ?_⟩
  · simp only [heap_set_map, hp, Option.map_some, setObj_cells, List.setIfInBounds_toArray, List.set_cons_zero, List.set_cons_succ, Bool.false_eq_true, if_false, if_true]
    try rfl
  · exact ee
def clear10 (f : FieldD) : FieldD := { f with bits := 0 }
theorem clears10 : Clears 102 clear10 false false := by
  intro w p f tv cv ht1 hc1 hp
  have hlt := (Array.getElem?_eq_some_iff.1 hp).1
  refine n_schema_kinds_17_sound (R := retR _) ?_; unfold n_schema_kinds_17
  simp (disch := first | assumption | (simp only [ONE]; done) | rfl | (simp only [SZ]; done) | omega | (simp only [SZ] at *; omega)) only [↓PR, QR, Int.reduceBEq, Int.reduceBNe, Int.reduceLT, Int.reduceLE, Int.reduceGT, Int.reduceGE, Int.reduceNeg, Sw.joinK_eq, (cells_of_heap hp).1, (cells_of_heap hp).2]
  refine ⟨?_, fun a e hp' => ?_⟩
  · simp only [heap_set_map, hp, Option.map_some, setObj_cells, List.setIfInBounds_toArray, List.set_cons_zero, List.set_cons_succ, Bool.false_eq_true, if_false, if_true]
    try rfl
  · exact ee
def clear11 (f : FieldD) : FieldD := { f with fr := ByteArray.empty, check := 0 }
theorem clears11 : Clears 104 clear11 false false := by
  intro w p f tv cv ht1 hc1 hp
  have hlt := (Array.getElem?_eq_some_iff.1 hp).1
  refine n_schema_kinds_19_sound (R := retR _) ?_; unfold n_schema_kinds_19
  simp (disch := first | assumption | (simp only [ONE]; done) | rfl | (simp only [SZ]; done) | omega | (simp only [SZ] at *; omega)) only [↓PR, QR, Int.reduceBEq, Int.reduceBNe, Int.reduceLT, Int.reduceLE, Int.reduceGT, Int.reduceGE, Int.reduceNeg, Sw.joinK_eq, (cells_of_heap hp).1, (cells_of_heap hp).2]
  refine ⟨?_, fun a e hp' => ?_⟩
  · simp only [heap_set_map, hp, Option.map_some, setObj_cells, List.setIfInBounds_toArray, List.set_cons_zero, List.set_cons_succ, Bool.false_eq_true, if_false, if_true]
    try rfl
  · exact ee
def clear12 (f : FieldD) : FieldD := { f with of := ByteArray.empty, base := 0, terms := [], key := 0 }
theorem clears12 : Clears 106 clear12 true false := by
  intro w p f tv cv ht1 hc1 hp
  have hlt := (Array.getElem?_eq_some_iff.1 hp).1
  refine n_schema_kinds_21_sound (R := retR _) ?_; unfold n_schema_kinds_21
  simp (disch := first | assumption | (simp only [ONE]; done) | rfl | (simp only [SZ]; done) | omega | (simp only [SZ] at *; omega)) only [↓PR, QR, Int.reduceBEq, Int.reduceBNe, Int.reduceLT, Int.reduceLE, Int.reduceGT, Int.reduceGE, Int.reduceNeg, Sw.joinK_eq, (cells_of_heap hp).1, (cells_of_heap hp).2]
  refine ⟨?_, fun a e hp' => ?_⟩
  · simp only [heap_set_map, hp, Option.map_some, setObj_cells, List.setIfInBounds_toArray, List.set_cons_zero, List.set_cons_succ, Bool.false_eq_true, if_false, if_true]
    try rfl
  · exact ee
abbrev kindEnc : Int → Value := fun n => .int .i64 n
def KindsIn (L : List (Int × Value × Nat)) : Prop := (∀ k, ¬ (1 ≤ k ∧ k ≤ 12) → Sw.look L k = none) ∧ Sw.look L 1 = some (.agg #[.func (.func 81) #[] #[], .func (.func 82) #[] #[]]) ∧ Sw.look L 2 = some (.agg #[.func (.func 85) #[] #[], .func (.func 86) #[] #[]]) ∧ Sw.look L 3 = some (.agg #[.func (.func 87) #[] #[], .func (.func 88) #[] #[]]) ∧ Sw.look L 4 = some (.agg #[.func (.func 89) #[] #[], .func (.func 90) #[] #[]]) ∧ Sw.look L 5 = some (.agg #[.func (.func 91) #[] #[], .func (.func 92) #[] #[]]) ∧ Sw.look L 6 = some (.agg #[.func (.func 93) #[] #[], .func (.func 94) #[] #[]]) ∧ Sw.look L 7 = some (.agg #[.func (.func 95) #[] #[], .func (.func 96) #[] #[]]) ∧ Sw.look L 8 = some (.agg #[.func (.func 98) #[] #[], .func (.func 99) #[] #[]]) ∧ Sw.look L 9 = some (.agg #[.func (.func 100) #[] #[], .func (.func 101) #[] #[]]) ∧ Sw.look L 10 = some (.agg #[.func (.func 102) #[] #[], .func (.func 103) #[] #[]]) ∧ Sw.look L 11 = some (.agg #[.func (.func 104) #[] #[], .func (.func 105) #[] #[]]) ∧ Sw.look L 12 = some (.agg #[.func (.func 106) #[] #[], .func (.func 107) #[] #[]])
theorem kind_step {w0 w : World} {m c : Nat} {L : List (Int × Value × Nat)} {QP : List PanicEntry → World → Prop} {ku : World → Prop} (hM : MapB w m kindEnc L c) (e : Ext w0 w) (hm : w0.heap.size ≤ m) (k : Int) (v : Value)
    (h : ∀ w' L' c', MapB w' m kindEnc L' c' → (∀ k', Sw.look L' k' = if k' = k then some v else Sw.look L k') → Ext w0 w' → ku w') : opU Try.prog (Instr.mapUpdate 132 (.map (some m)) (.int .i64 k) v) QP w ku := by
  rw [op_mapUpdate Try.underlying132 (KeyOK.int Try.underlying22) hM k v]
  exact h _ _ _ (hM.put k v) (fun k' => look_put _ _ _ _ _) (e.putObj hm _)
theorem kinds_ret (w0 : World) : Ret Try.prog 79 #[] w0 fun r w' => ∃ m L c, r = .map (some m) ∧ w0.heap.size ≤ m ∧ MapB w' m kindEnc L c ∧ KindsIn L ∧ Ext w0 w' := by
  refine n_schema_kinds_sound (R := retR _) ?_; unfold n_schema_kinds
  simp (disch := first | assumption | (simp only [ONE]; done) | rfl | (simp only [SZ]; done) | omega | (simp only [SZ] at *; omega)) only [↓PR, QR, Int.reduceBEq, Int.reduceBNe, Int.reduceLT, Int.reduceLE, Int.reduceGT, Int.reduceGE, Int.reduceNeg]
  have hM0 : MapB (w0.alloc (.map #[] 0)) w0.heap.size kindEnc [] 0 := MapB.new w0 _
  have e0 : Ext w0 (w0.alloc (.map #[] 0)) := ee
  refine kind_step hM0 e0 (Nat.le_refl _) 1 _ (fun w1 L1 c1 hM1 hl1 e1 => ?_)
  simp (disch := first | assumption | (simp only [ONE]; done) | rfl | (simp only [SZ]; done) | omega | (simp only [SZ] at *; omega)) only [↓PR, QR, Int.reduceBEq, Int.reduceBNe, Int.reduceLT, Int.reduceLE, Int.reduceGT, Int.reduceGE, Int.reduceNeg]
  refine kind_step hM1 e1 (Nat.le_refl _) 2 _ (fun w2 L2 c2 hM2 hl2 e2 => ?_)
  simp (disch := first | assumption | (simp only [ONE]; done) | rfl | (simp only [SZ]; done) | omega | (simp only [SZ] at *; omega)) only [↓PR, QR, Int.reduceBEq, Int.reduceBNe, Int.reduceLT, Int.reduceLE, Int.reduceGT, Int.reduceGE, Int.reduceNeg]
  refine kind_step hM2 e2 (Nat.le_refl _) 3 _ (fun w3 L3 c3 hM3 hl3 e3 => ?_)
  simp (disch := first | assumption | (simp only [ONE]; done) | rfl | (simp only [SZ]; done) | omega | (simp only [SZ] at *; omega)) only [↓PR, QR, Int.reduceBEq, Int.reduceBNe, Int.reduceLT, Int.reduceLE, Int.reduceGT, Int.reduceGE, Int.reduceNeg]
  refine kind_step hM3 e3 (Nat.le_refl _) 4 _ (fun w4 L4 c4 hM4 hl4 e4 => ?_)
  simp (disch := first | assumption | (simp only [ONE]; done) | rfl | (simp only [SZ]; done) | omega | (simp only [SZ] at *; omega)) only [↓PR, QR, Int.reduceBEq, Int.reduceBNe, Int.reduceLT, Int.reduceLE, Int.reduceGT, Int.reduceGE, Int.reduceNeg]
  refine kind_step hM4 e4 (Nat.le_refl _) 5 _ (fun w5 L5 c5 hM5 hl5 e5 => ?_)
  simp (disch := first | assumption | (simp only [ONE]; done) | rfl | (simp only [SZ]; done) | omega | (simp only [SZ] at *; omega)) only [↓PR, QR, Int.reduceBEq, Int.reduceBNe, Int.reduceLT, Int.reduceLE, Int.reduceGT, Int.reduceGE, Int.reduceNeg]
  refine kind_step hM5 e5 (Nat.le_refl _) 6 _ (fun w6 L6 c6 hM6 hl6 e6 => ?_)
  simp (disch := first | assumption | (simp only [ONE]; done) | rfl | (simp only [SZ]; done) | omega | (simp only [SZ] at *; omega)) only [↓PR, QR, Int.reduceBEq, Int.reduceBNe, Int.reduceLT, Int.reduceLE, Int.reduceGT, Int.reduceGE, Int.reduceNeg]
  refine kind_step hM6 e6 (Nat.le_refl _) 7 _ (fun w7 L7 c7 hM7 hl7 e7 => ?_)
  simp (disch := first | assumption | (simp only [ONE]; done) | rfl | (simp only [SZ]; done) | omega | (simp only [SZ] at *; omega)) only [↓PR, QR, Int.reduceBEq, Int.reduceBNe, Int.reduceLT, Int.reduceLE, Int.reduceGT, Int.reduceGE, Int.reduceNeg]
  refine kind_step hM7 e7 (Nat.le_refl _) 8 _ (fun w8 L8 c8 hM8 hl8 e8 => ?_)
  simp (disch := first | assumption | (simp only [ONE]; done) | rfl | (simp only [SZ]; done) | omega | (simp only [SZ] at *; omega)) only [↓PR, QR, Int.reduceBEq, Int.reduceBNe, Int.reduceLT, Int.reduceLE, Int.reduceGT, Int.reduceGE, Int.reduceNeg]
  refine kind_step hM8 e8 (Nat.le_refl _) 9 _ (fun w9 L9 c9 hM9 hl9 e9 => ?_)
  simp (disch := first | assumption | (simp only [ONE]; done) | rfl | (simp only [SZ]; done) | omega | (simp only [SZ] at *; omega)) only [↓PR, QR, Int.reduceBEq, Int.reduceBNe, Int.reduceLT, Int.reduceLE, Int.reduceGT, Int.reduceGE, Int.reduceNeg]
  refine kind_step hM9 e9 (Nat.le_refl _) 10 _ (fun w10 L10 c10 hM10 hl10 e10 => ?_)
  simp (disch := first | assumption | (simp only [ONE]; done) | rfl | (simp only [SZ]; done) | omega | (simp only [SZ] at *; omega)) only [↓PR, QR, Int.reduceBEq, Int.reduceBNe, Int.reduceLT, Int.reduceLE, Int.reduceGT, Int.reduceGE, Int.reduceNeg]
  refine kind_step hM10 e10 (Nat.le_refl _) 11 _ (fun w11 L11 c11 hM11 hl11 e11 => ?_)
  simp (disch := first | assumption | (simp only [ONE]; done) | rfl | (simp only [SZ]; done) | omega | (simp only [SZ] at *; omega)) only [↓PR, QR, Int.reduceBEq, Int.reduceBNe, Int.reduceLT, Int.reduceLE, Int.reduceGT, Int.reduceGE, Int.reduceNeg]
  refine kind_step hM11 e11 (Nat.le_refl _) 12 _ (fun w12 L12 c12 hM12 hl12 e12 => ?_)
  simp (disch := first | assumption | (simp only [ONE]; done) | rfl | (simp only [SZ]; done) | omega | (simp only [SZ] at *; omega)) only [↓PR, QR, Int.reduceBEq, Int.reduceBNe, Int.reduceLT, Int.reduceLE, Int.reduceGT, Int.reduceGE, Int.reduceNeg]
  have hn : ∀ k, Sw.look ([] : List (Int × Value × Nat)) k = none := fun _ => rfl
  refine ⟨_, _, _, rfl, Nat.le_refl _, hM12, ⟨fun k hk => ?_, ?_, ?_, ?_, ?_, ?_, ?_, ?_, ?_, ?_, ?_, ?_, ?_⟩, e12⟩
  · rw [hl12, if_neg (by omega), hl11, if_neg (by omega), hl10, if_neg (by omega), hl9, if_neg (by omega), hl8, if_neg (by omega), hl7, if_neg (by omega), hl6, if_neg (by omega), hl5, if_neg (by omega), hl4, if_neg (by omega), hl3, if_neg (by omega), hl2, if_neg (by omega), hl1, if_neg (by omega), hn]
  · rw [hl12, if_neg (by decide), hl11, if_neg (by decide), hl10, if_neg (by decide), hl9, if_neg (by decide), hl8, if_neg (by decide), hl7, if_neg (by decide), hl6, if_neg (by decide), hl5, if_neg (by decide), hl4, if_neg (by decide), hl3, if_neg (by decide), hl2, if_neg (by decide), hl1, if_pos rfl]
  · rw [hl12, if_neg (by decide), hl11, if_neg (by decide), hl10, if_neg (by decide), hl9, if_neg (by decide), hl8, if_neg (by decide), hl7, if_neg (by decide), hl6, if_neg (by decide), hl5, if_neg (by decide), hl4, if_neg (by decide), hl3, if_neg (by decide), hl2, if_pos rfl]
  · rw [hl12, if_neg (by decide), hl11, if_neg (by decide), hl10, if_neg (by decide), hl9, if_neg (by decide), hl8, if_neg (by decide), hl7, if_neg (by decide), hl6, if_neg (by decide), hl5, if_neg (by decide), hl4, if_neg (by decide), hl3, if_pos rfl]
  · rw [hl12, if_neg (by decide), hl11, if_neg (by decide), hl10, if_neg (by decide), hl9, if_neg (by decide), hl8, if_neg (by decide), hl7, if_neg (by decide), hl6, if_neg (by decide), hl5, if_neg (by decide), hl4, if_pos rfl]
  · rw [hl12, if_neg (by decide), hl11, if_neg (by decide), hl10, if_neg (by decide), hl9, if_neg (by decide), hl8, if_neg (by decide), hl7, if_neg (by decide), hl6, if_neg (by decide), hl5, if_pos rfl]
  · rw [hl12, if_neg (by decide), hl11, if_neg (by decide), hl10, if_neg (by decide), hl9, if_neg (by decide), hl8, if_neg (by decide), hl7, if_neg (by decide), hl6, if_pos rfl]
  · rw [hl12, if_neg (by decide), hl11, if_neg (by decide), hl10, if_neg (by decide), hl9, if_neg (by decide), hl8, if_neg (by decide), hl7, if_pos rfl]
  · rw [hl12, if_neg (by decide), hl11, if_neg (by decide), hl10, if_neg (by decide), hl9, if_neg (by decide), hl8, if_pos rfl]
  · rw [hl12, if_neg (by decide), hl11, if_neg (by decide), hl10, if_neg (by decide), hl9, if_pos rfl]
  · rw [hl12, if_neg (by decide), hl11, if_neg (by decide), hl10, if_pos rfl]
  · rw [hl12, if_neg (by decide), hl11, if_pos rfl]
  · rw [hl12, if_pos rfl]
def bareF (f : FieldD) : FieldD := { name := f.name, kind := f.kind, bits := 0, little := false, loose := false, low := 0, high := 0, base := 0, terms := [], of := ByteArray.empty, tag := ByteArray.empty, fr := ByteArray.empty, cases := [], check := 0, key := 0 }
section
variable {w0 : World} {cb md ms : Nat} {deps strs : List (ByteArray × Value)} {at_ fld : Int} {fs : List FieldD}
theorem exa_tail {a0 : World} (e00 : Ext a0 w0) (h : Chk w0 cb md ms deps strs at_ fld fs) (p3 p6 : Nat) (f : FieldD) (tv cv : Value) (hT : TermsOf w0 tv f.terms) (hC : CasesOf w0 cv f.cases) (o3 : w0.heap[p3]? = some (.cells (fieldCells f tv cv).toArray 28 (0, 0)))
    (g1 g2 : FuncId) (o6 : w0.heap[p6]? = some (.cells #[.func (.func g1) #[] #[], .func (.func g2) #[] #[]] 130 (0, 0))) (hc1 : Callable Try.prog g1) (hc2 : Callable Try.prog g2) (cl : FieldD → FieldD) (ct cc : Bool) (hcl : Clears g1 cl ct cc)
    (hterms : (cl f).terms = if ct then [] else f.terms) (hcases : (cl f).cases = if cc then [] else f.cases) (code : Int)
    (hchk : ∀ w v, Chk w cb md ms deps strs at_ fld fs → FieldVal w v f → Calls Try.prog g2 #[.pointer (some ⟨cb, 0, none⟩), v] w (flwR w at_ fld code)) :
    n_schema_checker_examine_c3 (.pointer (some ⟨cb, 0, none⟩)) (.pointer (some ⟨p3, 0, none⟩)) (.pointer (some ⟨p6, 0, none⟩)) (flwR a0 at_ fld (orC (needC (decide (cl f = bareF f)) 5) code)) w0 := by
  have ht1 := SliceOf.oneCell hT
  have hv1 := SliceOf.oneCell hC
  have l6 : p6 < w0.heap.size := (Array.getElem?_eq_some_iff.1 o6).1
  unfold n_schema_checker_examine_c3
  simp (disch := first | assumption | (simp only [ONE]; done) | rfl | (simp only [SZ]; done) | omega | (simp only [SZ] at *; omega)) only [↓PR, QR, Int.reduceBEq, Int.reduceBNe, Int.reduceLT, Int.reduceLE, Int.reduceGT, Int.reduceGE, Int.reduceNeg, (cells_of_heap o3).1, (cells_of_heap o6).1]
  have e1 : Ext w0 (w0.alloc (Obj.cells (fieldCells f tv cv).toArray 28)) := ee
  have o7 := heap_new w0 (fieldCells f tv cv).toArray 28
  rw [callV_func hc1]
  simp only [Array.empty_append, Array.append_empty]
  refine callK_ret (hcl _ w0.heap.size f tv cv ht1 hv1 o7) ?_
  rintro r w2 ⟨o7', hE⟩
  have e2 := hE w0 e1 (Nat.le_refl _)
  clear hE o7 e1
  have hT2 : TermsOf w2 (if ct then .slice none 0 0 else tv) (cl f).terms := by
    rw [hterms]
    cases ct
    · exact TermsOf.ext hT e2
    · exact SliceOf.nil _ _ _
  have hC2 : CasesOf w2 (if cc then .slice none 0 0 else cv) (cl f).cases := by
    rw [hcases]
    cases cc
    · exact CasesOf.ext hC e2
    · exact SliceOf.nil _ _ _
  generalize (if ct = true then Value.slice none 0 0 else tv) = tv2 at o7' hT2
  generalize (if cc = true then Value.slice none 0 0 else cv) = cv2 at o7' hC2
  generalize cl f = g at o7' hT2 hC2 ⊢
  have o3' := e2.obj o3
  clear hterms hcases hcl
  unfold n_schema_checker_examine_c2
  have hL : Loads Try.prog w2 28 ⟨w0.heap.size, 0, none⟩ (.agg (fieldCells g tv2 cv2).toArray) := Loads.many ty28 rfl (fun j v hv => by rw [Addr.add_lit, (cells_of_heap o7').1]; simpa using hv)
  rw [op_load hL]
  simp (disch := first | assumption | (simp only [ONE]; done) | rfl | (simp only [SZ]; done) | omega | (simp only [SZ] at *; omega)) only [↓PR, QR, Int.reduceBEq, Int.reduceBNe, Int.reduceLT, Int.reduceLE, Int.reduceGT, Int.reduceGE, Int.reduceNeg, (cells_of_heap o3').1]
  refine callK_ret (sameField_ret w2 _ _ g (bareF f) ⟨_, _, rfl, hT2, hC2⟩ ⟨.slice none 0 0, .slice none 0 0, rfl, SliceOf.nil _ _ _, SliceOf.nil _ _ _⟩) ?_
  rintro _ w3 ⟨rfl, e3⟩
  have e23 := e2.trans e3
  refine callK_flw (need_flw (h.ext e23) _ 5 (by decide)) (fun w4 e4 h0 => ?_) (fun w4 e4 h0 => ?_)
  · rw [h0, orC_zero]
    have e24 := e23.trans e4
    simp (disch := first | assumption | (simp only [ONE]; done) | rfl | (simp only [SZ]; done) | omega | (simp only [SZ] at *; omega)) only [↓PR, QR, Int.reduceBEq, Int.reduceBNe, Int.reduceLT, Int.reduceLE, Int.reduceGT, Int.reduceGE, Int.reduceNeg, ↓n_schema_checker_examine_c1, (cells_of_heap (e24.obj o6)).1, (cells_of_heap (e24.obj o3)).1]
    rw [callV_func hc2]
    simp only [Array.empty_append, Array.append_empty]
    refine callK_flw (hchk w4 _ (h.ext e24) ⟨tv, cv, rfl, TermsOf.ext hT e24, CasesOf.ext hC e24⟩) (fun w5 e5 h0 => ?_) (fun w5 e5 h0 => ?_)
    · exact flwR_ret (e00.trans (e24.trans e5)) h0
    · exact flwR_pan (e00.trans (e24.trans e5)) rfl h0
  · rw [orC_ne h0]
    exact flwR_pan (e00.trans (e23.trans e4)) rfl h0
end
def checkC (bef : List FieldD) (deps strs : List (ByteArray × Value)) (f : FieldD) : Int :=
  if f.kind = 1 then orC (needC (bitsB f) 6) (withinC (topF f) 0 [f.low, f.high]) else
  if f.kind = 2 then orC (needC (bitsB f) 6) (withinC (topF f) 0 [f.low]) else
  if f.kind = 3 then withinC 34359738367 0 [f.low, f.high] else
  if f.kind = 4 then sizedC (numR bef) f else
  if f.kind = 5 then orC (withinC 255 0 [f.low]) (withinC 1048576 0 [f.high]) else
  if f.kind = 6 then withinC 1048576 2 [f.high] else
  if f.kind = 7 then orC (needC (lastOf deps f.of).isSome 8) (sizedC (numR bef) f) else
  if f.kind = 8 then needC (lastOf deps f.of).isSome 8 else
  if f.kind = 9 then casesC bef deps f else
  if f.kind = 10 then needC (padB f) 6 else
  if f.kind = 11 then orC (withinC 3 1 [f.check]) (needC (bef.any fun o => decide (o.name = f.fr)) 8) else
  if f.kind = 12 then orC (withinC 4294967295 0 [f.key]) (orC (needC (strB strs f.of) 8) (sizedC (numR bef) f)) else 0
def clearK (f : FieldD) : FieldD :=
  if f.kind = 1 then clear1 f else
  if f.kind = 2 then clear2 f else
  if f.kind = 3 then clear3 f else
  if f.kind = 4 then clear4 f else
  if f.kind = 5 then clear5 f else
  if f.kind = 6 then clear6 f else
  if f.kind = 7 then clear7 f else
  if f.kind = 8 then clear8 f else
  if f.kind = 9 then clear9 f else
  if f.kind = 10 then clear10 f else
  if f.kind = 11 then clear11 f else
  if f.kind = 12 then clear12 f else f
def examineC (bef : List FieldD) (deps strs : List (ByteArray × Value)) (f : FieldD) : Int :=
  orC (needC (nameB f.name) 1) (orC (needC (!bef.any fun o => decide (o.name = f.name)) 2) (orC (needC (decide (1 ≤ f.kind ∧ f.kind ≤ 12)) 4) (orC (needC (decide (clearK f = bareF f)) 5) (checkC bef deps strs f))))
section
variable {w0 : World} {cb md ms : Nat} {deps strs : List (ByteArray × Value)} {at_ fld : Int} {fs : List FieldD}
theorem exa_mid {a0 : World} (e00 : Ext a0 w0) (h : Chk w0 cb md ms deps strs at_ fld fs) (i : Nat) (hi : fld = i) (hlt : i < fs.length) (p3 p6 : Nat) (f : FieldD) (tv cv : Value) (ht : f.terms.length ≤ 1048576) (hT : TermsOf w0 tv f.terms) (hC : CasesOf w0 cv f.cases) (o3 : w0.heap[p3]? = some (.cells (fieldCells f tv cv).toArray 28 (0, 0)))
    (L : List (Int × Value × Nat)) (hL : KindsIn L) (a b : Value) (ok : Bool) (hab : (Sw.look L f.kind).getD (.agg #[.nilFunc, .nilFunc]) = .agg #[a, b]) (hok : ok = (Sw.look L f.kind).isSome) (o6 : w0.heap[p6]? = some (.cells #[a, b] 130 (0, 0))) :
    callK Try.prog 62 #[.pointer (some ⟨cb, 0, none⟩), .bool ok, .int .i64 4] (panK (flwR a0 at_ fld (orC (needC (decide (1 ≤ f.kind ∧ f.kind ≤ 12)) 4) (orC (needC (decide (clearK f = bareF f)) 5) (checkC (fs.take i) deps strs f))))) w0
      (fun _ w => n_schema_checker_examine_c3 (.pointer (some ⟨cb, 0, none⟩)) (.pointer (some ⟨p3, 0, none⟩)) (.pointer (some ⟨p6, 0, none⟩)) (flwR a0 at_ fld (orC (needC (decide (1 ≤ f.kind ∧ f.kind ≤ 12)) 4) (orC (needC (decide (clearK f = bareF f)) 5) (checkC (fs.take i) deps strs f)))) w) := by
  obtain ⟨hn, k1, k2, k3, k4, k5, k6, k7, k8, k9, k10, k11, k12⟩ := hL
  by_cases hk : 1 ≤ f.kind ∧ f.kind ≤ 12
  · have hd : decide (1 ≤ f.kind ∧ f.kind ≤ 12) = true := by simpa using hk
    rw [hd]
    show callK _ _ _ (panK (flwR a0 at_ fld (orC 0 _))) _ _
    simp only [show needC true 4 = 0 from rfl, orC_zero]
    have hs : ok = true := by
      rw [hok]
      have : f.kind = 1 ∨ f.kind = 2 ∨ f.kind = 3 ∨ f.kind = 4 ∨ f.kind = 5 ∨ f.kind = 6 ∨ f.kind = 7 ∨ f.kind = 8 ∨ f.kind = 9 ∨ f.kind = 10 ∨ f.kind = 11 ∨ f.kind = 12 := by omega
      rcases this with h | h | h | h | h | h | h | h | h | h | h | h <;> simp only [h, k1, k2, k3, k4, k5, k6, k7, k8, k9, k10, k11, k12, Option.isSome_some]
    subst hs
    refine callK_flw (need_flw h true 4 (by decide)) (fun w1 e1 _ => ?_) (fun w1 e1 h0 => absurd rfl h0)
    have hw := h.ext e1
    have hT1 := TermsOf.ext hT e1
    have hC1 := CasesOf.ext hC e1
    have o31 := e1.obj o3
    have this : f.kind = 1 ∨ f.kind = 2 ∨ f.kind = 3 ∨ f.kind = 4 ∨ f.kind = 5 ∨ f.kind = 6 ∨ f.kind = 7 ∨ f.kind = 8 ∨ f.kind = 9 ∨ f.kind = 10 ∨ f.kind = 11 ∨ f.kind = 12 := by omega
    rcases this with hkk | hkk | hkk | hkk | hkk | hkk | hkk | hkk | hkk | hkk | hkk | hkk
    · rw [hkk, k1, Option.getD_some] at hab
      injection hab with hab
      have hab := congrArg Array.toList hab
      simp only [List.cons.injEq, and_true] at hab
      obtain ⟨rfl, rfl⟩ := hab
      have hcl : clearK f = clear1 f := by unfold clearK; simp [hkk]
      have hcc : checkC (fs.take i) deps strs f = orC (needC (bitsB f) 6) (withinC (topF f) 0 [f.low, f.high]) := by unfold checkC; simp [hkk]
      rw [hcl, hcc]
      exact exa_tail (e00.trans e1) hw p3 p6 f tv cv hT1 hC1 o31 _ _ (e1.obj o6) c81 c82 clear1 false false clears1 rfl rfl _ (fun w v hw hf => uint_flw hw v f hf)
    · rw [hkk, k2, Option.getD_some] at hab
      injection hab with hab
      have hab := congrArg Array.toList hab
      simp only [List.cons.injEq, and_true] at hab
      obtain ⟨rfl, rfl⟩ := hab
      have hcl : clearK f = clear2 f := by unfold clearK; simp [hkk]
      have hcc : checkC (fs.take i) deps strs f = orC (needC (bitsB f) 6) (withinC (topF f) 0 [f.low]) := by unfold checkC; simp [hkk]
      rw [hcl, hcc]
      exact exa_tail (e00.trans e1) hw p3 p6 f tv cv hT1 hC1 o31 _ _ (e1.obj o6) c85 c86 clear2 false false clears2 rfl rfl _ (fun w v hw hf => const_flw hw v f hf)
    · rw [hkk, k3, Option.getD_some] at hab
      injection hab with hab
      have hab := congrArg Array.toList hab
      simp only [List.cons.injEq, and_true] at hab
      obtain ⟨rfl, rfl⟩ := hab
      have hcl : clearK f = clear3 f := by unfold clearK; simp [hkk]
      have hcc : checkC (fs.take i) deps strs f = withinC 34359738367 0 [f.low, f.high] := by unfold checkC; simp [hkk]
      rw [hcl, hcc]
      exact exa_tail (e00.trans e1) hw p3 p6 f tv cv hT1 hC1 o31 _ _ (e1.obj o6) c87 c88 clear3 false false clears3 rfl rfl _ (fun w v hw hf => varint_flw hw v f hf)
    · rw [hkk, k4, Option.getD_some] at hab
      injection hab with hab
      have hab := congrArg Array.toList hab
      simp only [List.cons.injEq, and_true] at hab
      obtain ⟨rfl, rfl⟩ := hab
      have hcl : clearK f = clear4 f := by unfold clearK; simp [hkk]
      have hcc : checkC (fs.take i) deps strs f = sizedC (numR (fs.take i)) f := by unfold checkC; simp [hkk]
      rw [hcl, hcc]
      exact exa_tail (e00.trans e1) hw p3 p6 f tv cv hT1 hC1 o31 _ _ (e1.obj o6) c89 c90 clear4 true false clears4 rfl rfl _ (fun w v hw hf => sized_flw hw i hi hlt v f hf ht)
    · rw [hkk, k5, Option.getD_some] at hab
      injection hab with hab
      have hab := congrArg Array.toList hab
      simp only [List.cons.injEq, and_true] at hab
      obtain ⟨rfl, rfl⟩ := hab
      have hcl : clearK f = clear5 f := by unfold clearK; simp [hkk]
      have hcc : checkC (fs.take i) deps strs f = orC (withinC 255 0 [f.low]) (withinC 1048576 0 [f.high]) := by unfold checkC; simp [hkk]
      rw [hcl, hcc]
      exact exa_tail (e00.trans e1) hw p3 p6 f tv cv hT1 hC1 o31 _ _ (e1.obj o6) c91 c92 clear5 false false clears5 rfl rfl _ (fun w v hw hf => until_flw hw v f hf)
    · rw [hkk, k6, Option.getD_some] at hab
      injection hab with hab
      have hab := congrArg Array.toList hab
      simp only [List.cons.injEq, and_true] at hab
      obtain ⟨rfl, rfl⟩ := hab
      have hcl : clearK f = clear6 f := by unfold clearK; simp [hkk]
      have hcc : checkC (fs.take i) deps strs f = withinC 1048576 2 [f.high] := by unfold checkC; simp [hkk]
      rw [hcl, hcc]
      exact exa_tail (e00.trans e1) hw p3 p6 f tv cv hT1 hC1 o31 _ _ (e1.obj o6) c93 c94 clear6 false false clears6 rfl rfl _ (fun w v hw hf => headers_flw hw v f hf)
    · rw [hkk, k7, Option.getD_some] at hab
      injection hab with hab
      have hab := congrArg Array.toList hab
      simp only [List.cons.injEq, and_true] at hab
      obtain ⟨rfl, rfl⟩ := hab
      have hcl : clearK f = clear7 f := by unfold clearK; simp [hkk]
      have hcc : checkC (fs.take i) deps strs f = orC (needC (lastOf deps f.of).isSome 8) (sizedC (numR (fs.take i)) f) := by unfold checkC; simp [hkk]
      rw [hcl, hcc]
      exact exa_tail (e00.trans e1) hw p3 p6 f tv cv hT1 hC1 o31 _ _ (e1.obj o6) c95 c96 clear7 true false clears7 rfl rfl _ (fun w v hw hf => list_flw hw i hi hlt v f hf ht)
    · rw [hkk, k8, Option.getD_some] at hab
      injection hab with hab
      have hab := congrArg Array.toList hab
      simp only [List.cons.injEq, and_true] at hab
      obtain ⟨rfl, rfl⟩ := hab
      have hcl : clearK f = clear8 f := by unfold clearK; simp [hkk]
      have hcc : checkC (fs.take i) deps strs f = needC (lastOf deps f.of).isSome 8 := by unfold checkC; simp [hkk]
      rw [hcl, hcc]
      exact exa_tail (e00.trans e1) hw p3 p6 f tv cv hT1 hC1 o31 _ _ (e1.obj o6) c98 c99 clear8 false false clears8 rfl rfl _ (fun w v hw hf => message_flw hw v f hf)
    · rw [hkk, k9, Option.getD_some] at hab
      injection hab with hab
      have hab := congrArg Array.toList hab
      simp only [List.cons.injEq, and_true] at hab
      obtain ⟨rfl, rfl⟩ := hab
      have hcl : clearK f = clear9 f := by unfold clearK; simp [hkk]
      have hcc : checkC (fs.take i) deps strs f = casesC (fs.take i) deps f := by unfold checkC; simp [hkk]
      rw [hcl, hcc]
      exact exa_tail (e00.trans e1) hw p3 p6 f tv cv hT1 hC1 o31 _ _ (e1.obj o6) c100 c101 clear9 false true clears9 rfl rfl _ (fun w v hw hf => cases_flw hw i hi hlt v f hf)
    · rw [hkk, k10, Option.getD_some] at hab
      injection hab with hab
      have hab := congrArg Array.toList hab
      simp only [List.cons.injEq, and_true] at hab
      obtain ⟨rfl, rfl⟩ := hab
      have hcl : clearK f = clear10 f := by unfold clearK; simp [hkk]
      have hcc : checkC (fs.take i) deps strs f = needC (padB f) 6 := by unfold checkC; simp [hkk]
      rw [hcl, hcc]
      exact exa_tail (e00.trans e1) hw p3 p6 f tv cv hT1 hC1 o31 _ _ (e1.obj o6) c102 c103 clear10 false false clears10 rfl rfl _ (fun w v hw hf => pad_flw hw v f hf)
    · rw [hkk, k11, Option.getD_some] at hab
      injection hab with hab
      have hab := congrArg Array.toList hab
      simp only [List.cons.injEq, and_true] at hab
      obtain ⟨rfl, rfl⟩ := hab
      have hcl : clearK f = clear11 f := by unfold clearK; simp [hkk]
      have hcc : checkC (fs.take i) deps strs f = orC (withinC 3 1 [f.check]) (needC ((fs.take i).any fun o => decide (o.name = f.fr)) 8) := by unfold checkC; simp [hkk]
      rw [hcl, hcc]
      exact exa_tail (e00.trans e1) hw p3 p6 f tv cv hT1 hC1 o31 _ _ (e1.obj o6) c104 c105 clear11 false false clears11 rfl rfl _ (fun w v hw hf => check_flw hw i hi hlt v f hf)
    · rw [hkk, k12, Option.getD_some] at hab
      injection hab with hab
      have hab := congrArg Array.toList hab
      simp only [List.cons.injEq, and_true] at hab
      obtain ⟨rfl, rfl⟩ := hab
      have hcl : clearK f = clear12 f := by unfold clearK; simp [hkk]
      have hcc : checkC (fs.take i) deps strs f = orC (withinC 4294967295 0 [f.key]) (orC (needC (strB strs f.of) 8) (sizedC (numR (fs.take i)) f)) := by unfold checkC; simp [hkk]
      rw [hcl, hcc]
      exact exa_tail (e00.trans e1) hw p3 p6 f tv cv hT1 hC1 o31 _ _ (e1.obj o6) c106 c107 clear12 true false clears12 rfl rfl _ (fun w v hw hf => view_flw hw i hi hlt v f hf ht)
  · have hd : decide (1 ≤ f.kind ∧ f.kind ≤ 12) = false := by simpa using hk
    rw [hd]
    have hs : ok = false := by rw [hok, hn _ hk]; rfl
    subst hs
    refine callK_flw (need_flw h false 4 (by decide)) (fun w1 e1 h0 => absurd h0 (by decide)) (fun w1 e1 h0 => ?_)
    exact flwR_pan (e00.trans e1) rfl h0
end
end Go.Proofs.Ytiajhbbmgglmlaa
namespace Go.Proofs.Ytiajhbbmgglmlaa
open Sw
open Go.RowKit (intOf Below)
set_option maxRecDepth 100000
section
variable {w0 : World} {cb md ms : Nat} {deps strs : List (ByteArray × Value)} {at_ fld : Int} {fs : List FieldD}
theorem examine_flw (h : Chk w0 cb md ms deps strs at_ fld fs) (i : Nat) (hi : fld = i) (hlt : i < fs.length) (v : Value) (f : FieldD) (hf : FieldVal w0 v f) (ht : f.terms.length ≤ 1048576) :
    Calls Try.prog 75 #[.pointer (some ⟨cb, 0, none⟩), v] w0 (flwR w0 at_ fld (examineC (fs.take i) deps strs f)) := by
  obtain ⟨tv, cv, rfl, hT, hC, ht1, hc1⟩ := hf.op
  refine n_schema_checker_examine_sound ?_; unfold n_schema_checker_examine
  simp (disch := first | assumption | (simp only [ONE]; done) | rfl | (simp only [SZ]; done) | omega | (simp only [SZ] at *; omega)) only [↓PR, QR, Int.reduceBEq, Int.reduceBNe, Int.reduceLT, Int.reduceLE, Int.reduceGT, Int.reduceGE, Int.reduceNeg]
  generalize hW : World.alloc w0 _ = W
  have e0 : Ext w0 W := by rw [← hW]; exact ee
  have o3 : W.heap[w0.heap.size]? = some (.cells (fieldCells f tv cv).toArray 28 (0, 0)) := by rw [← hW]; simp (disch := first | assumption | (simp only [ONE]; done) | rfl | (simp only [SZ]; done) | omega | (simp only [SZ] at *; omega)) only [↓PR, QR, Int.reduceBEq, Int.reduceBNe, Int.reduceLT, Int.reduceLE, Int.reduceGT, Int.reduceGE, Int.reduceNeg]
  clear hW
  refine callK_ret (Name_ret _ f.name) ?_
  rintro _ w1 ⟨rfl, e1⟩
  have e01 := e0.trans e1
  unfold examineC
  refine callK_flw (need_flw (h.ext e01) _ 1 (by decide)) (fun w2 e2 h0 => ?_) (fun w2 e2 h0 => ?_)
  · rw [h0, orC_zero]
    have e02 := e01.trans e2
    have o32 := (e1.trans e2).obj o3
    refine drawK_intro ?_
    simp (disch := first | assumption | (simp only [ONE]; done) | rfl | (simp only [SZ]; done) | omega | (simp only [SZ] at *; omega)) only [↓PR, QR, Int.reduceBEq, Int.reduceBNe, Int.reduceLT, Int.reduceLE, Int.reduceGT, Int.reduceGE, Int.reduceNeg, ↓n_schema_checker_examine_c8, (cells_of_heap o32).1]
    have eD : Ext w0 w2.drew := e02.wdrew
    refine callK_ret (before_ret (h.ext eD) i hi hlt) ?_
    rintro bv w3 ⟨hB, e3⟩
    refine ⟨e3, ?_⟩
    have hb1 := SliceOf.oneCell hB
    simp (disch := first | assumption | (simp only [ONE]; done) | rfl | (simp only [SZ]; done) | omega | (simp only [SZ] at *; omega)) only [↓PR, QR, Int.reduceBEq, Int.reduceBNe, Int.reduceLT, Int.reduceLE, Int.reduceGT, Int.reduceGE, Int.reduceNeg]
    refine callK_ret (Field_ret w3 _ ⟨ByteArray.empty, fs.take i⟩ f.name ⟨bv, rfl, hB⟩) ?_
    rintro _ w4 ⟨rfl, e4⟩
    refine ⟨e3.trans e4, ?_⟩
    simp (disch := first | assumption | (simp only [ONE]; done) | rfl | (simp only [SZ]; done) | omega | (simp only [SZ] at *; omega)) only [↓PR, QR, Int.reduceBEq, Int.reduceBNe, Int.reduceLT, Int.reduceLE, Int.reduceGT, Int.reduceGE, Int.reduceNeg, ↓n_schema_checker_examine_c7]
    have e04 := eD.trans (e3.trans e4)
    have e24 : Ext w2 w4 := (Ext.refl w2).wdrew.trans (e3.trans e4)
    refine callK_flw (need_flw (h.ext e04) _ 2 (by decide)) (fun w5 e5 h0 => ?_) (fun w5 e5 h0 => ?_)
    · rw [h0, orC_zero]
      have e05 := e04.trans e5
      have o35 := (e24.trans e5).obj o32
      clear e24 e04 e3 e4 hB eD e02 e01 e1 e2 o32
      refine drawK_intro ?_
      simp (disch := first | assumption | (simp only [ONE]; done) | rfl | (simp only [SZ]; done) | omega | (simp only [SZ] at *; omega)) only [↓PR, QR, Int.reduceBEq, Int.reduceBNe, Int.reduceLT, Int.reduceLE, Int.reduceGT, Int.reduceGE, Int.reduceNeg, ↓n_schema_checker_examine_c6, (cells_of_heap o35).1]
      have eD : Ext w5 w5.drew := (Ext.refl _).wdrew
      have fin5 : ∀ (w' : World) (m p6 c : Nat) (L : List (Int × Value × Nat)) (u0 u1 : Value), Ext w5.drew w' → MapB w' m kindEnc L c → KindsIn L → w'.heap[p6]? = some (.cells #[u0, u1] 130 (0, 0)) → w5.heap.size ≤ p6 →
          n_schema_checker_examine_c5 (.pointer (some ⟨p6, 0, none⟩)) (.map (some m)) (.int .i64 f.kind) (KM w5.drew m kindEnc L c) (fun t5 t6 w => callK Try.prog 62 #[.pointer (some ⟨cb, 0, none⟩), t5, .int .i64 4] (panK (flwR w0 at_ fld (orC (needC (decide (1 ≤ f.kind ∧ f.kind ≤ 12)) 4) (orC (needC (decide (clearK f = bareF f)) 5) (checkC (fs.take i) deps strs f))))) w fun _ w => n_schema_checker_examine_c3 (.pointer (some ⟨cb, 0, none⟩)) (.pointer (some ⟨w0.heap.size, 0, none⟩)) t6 (flwR w0 at_ fld (orC (needC (decide (1 ≤ f.kind ∧ f.kind ≤ 12)) 4) (orC (needC (decide (clearK f = bareF f)) 5) (checkC (fs.take i) deps strs f)))) w)
            (flwR w0 at_ fld (orC (needC (decide (1 ≤ f.kind ∧ f.kind ≤ 12)) 4) (orC (needC (decide (clearK f = bareF f)) 5) (checkC (fs.take i) deps strs f)))) w' := by
        intro w' m p6 c L u0 u1 e' hM hL o6 hp6
        haveI : ClassNe (KM w5.drew m kindEnc L c) := ⟨⟨w', e', hM⟩⟩
        unfold n_schema_checker_examine_c5
        rw [qV_lookupKM Try.underlying132 (KeyOK.int Try.underlying22) ty130 ⟨w', e', hM⟩]
        obtain ⟨a, b, hab, ha, hb⟩ : ∃ a b, (Sw.look L f.kind).getD (.agg #[.nilFunc, .nilFunc]) = .agg #[a, b] ∧ a.oneCell' = true ∧ b.oneCell' = true := by
          obtain ⟨hn, k1, k2, k3, k4, k5, k6, k7, k8, k9, k10, k11, k12⟩ := hL
          by_cases hk : 1 ≤ f.kind ∧ f.kind ≤ 12
          · have this : f.kind = 1 ∨ f.kind = 2 ∨ f.kind = 3 ∨ f.kind = 4 ∨ f.kind = 5 ∨ f.kind = 6 ∨ f.kind = 7 ∨ f.kind = 8 ∨ f.kind = 9 ∨ f.kind = 10 ∨ f.kind = 11 ∨ f.kind = 12 := by omega
            rcases this with h | h | h | h | h | h | h | h | h | h | h | h <;> simp only [h, k1, k2, k3, k4, k5, k6, k7, k8, k9, k10, k11, k12, Option.getD_some] <;> exact ⟨_, _, rfl, rfl, rfl⟩
          · rw [hn _ hk]; exact ⟨_, _, rfl, rfl, rfl⟩
        rw [hab]
        simp (disch := first | assumption | (simp only [ONE]; done) | rfl | (simp only [SZ]; done) | omega | (simp only [SZ] at *; omega)) only [↓PR, QR, Int.reduceBEq, Int.reduceBNe, Int.reduceLT, Int.reduceLE, Int.reduceGT, Int.reduceGE, Int.reduceNeg, (cells_of_heap o6).1, (cells_of_heap o6).2]
        have e6 : Ext w5.drew ((w'.setCell ⟨p6, 0, none⟩ a).setCell ⟨p6, 1, none⟩ b) := (e'.setCell (show w5.drew.heap.size ≤ (⟨p6, 0, none⟩ : Addr).block from hp6) _).setCell (show w5.drew.heap.size ≤ (⟨p6, 1, none⟩ : Addr).block from hp6) _
        refine ⟨⟨e6, (hM.setCell _ _).setCell _ _⟩, ?_⟩
        have e06 := (e05.trans eD).trans e6
        have o6' := heap_set (o := 1) (heap_set (o := 0) o6 a) b
        exact exa_mid e06 (h.ext e06) i hi hlt _ p6 f tv cv ht (TermsOf.ext hT e06) (CasesOf.ext hC e06) ((eD.trans e6).obj o35) L hL a b _ hab rfl (by simpa using o6')
      refine ⟨?_, ?_⟩
      · refine callK_ret (kinds_ret _) ?_
        rintro _ w6 ⟨m, L, c, rfl, hm, hM, hL, e6⟩
        refine narrowK_KM e6 hM ?_
        have h9 := fin5 (w6.alloc (.cells #[.nilFunc, .nilFunc] 130)) m w6.heap.size c L _ _ (e6.alloc _) (hM.ext ((Ext.refl _).alloc _)) hL (heap_new _ _ _) (by have := e6.size; simpa using this)
        unfold n_schema_checker_examine_c5 at h9
        unfold n_schema_checker_examine_c4
        simp only [drew_wdrew]
        haveI : ClassNe (KM w5.drew m kindEnc L c) := ⟨⟨w6, e6, hM⟩⟩
        rw [qV_lookupKM Try.underlying132 (KeyOK.int Try.underlying22) ty130 ⟨w6, e6, hM⟩] at h9 ⊢
        simp (disch := first | assumption | (simp only [ONE]; done) | rfl | (simp only [SZ]; done) | omega | (simp only [SZ] at *; omega)) only [↓PR, QR, Int.reduceBEq, Int.reduceBNe, Int.reduceLT, Int.reduceLE, Int.reduceGT, Int.reduceGE, Int.reduceNeg]
        simp only [↓Sw.GENQ] at h9
        exact ⟨⟨e6.alloc _, hM.ext ((Ext.refl _).alloc _)⟩, h9⟩
      · refine ⟨(Ext.refl _).alloc _, ?_⟩
        refine callK_ret (kinds_ret _) ?_
        rintro _ w6 ⟨m, L, c, rfl, hm, hM, hL, e6⟩
        refine narrowK_KM (((Ext.refl _).alloc _).trans e6) hM ?_
        exact fin5 w6 m w5.heap.size c L _ _ (((Ext.refl _).alloc _).trans e6) hM hL (e6.obj (heap_new w5.drew _ _)) (Nat.le_refl _)
    · rw [orC_ne h0]
      exact flwR_pan (e04.trans e5) rfl h0
  · rw [orC_ne h0]
    exact flwR_pan (e01.trans e2) rfl h0
end
end Go.Proofs.Ytiajhbbmgglmlaa
namespace Go.Proofs.Ytiajhbbmgglmlaa
open Sw
def n_schema_Refers_c1 (t3 t29 t31 : Value) (next4 : Value → World → Prop) (R : Ending → World → Prop) (w : World) : Prop :=
 opV Try.prog (Instr.indexAt 26 t29 t31) (panK R) w fun t33 w =>
 opV Try.prog (Instr.loadAt 62 t33) (panK R) w fun t34 w =>
 opV Try.prog (Instr.alloc 62 true (.tuple #[])) (panK R) w fun t7 w =>
 opU Try.prog (Instr.storeAt 62 t7 t34) (panK R) w fun w =>
 opV Try.prog (Instr.loadAt 63 t3) (panK R) w fun t35 w =>
 opV Try.prog (Instr.fieldAt 62 t7 2) (panK R) w fun t36 w =>
 opV Try.prog (Instr.loadAt 9 t36) (panK R) w fun t37 w =>
 opV Try.prog (Instr.buildSlice 63 1 #[(0, t37)]) (panK R) w fun t38 w =>
 opV Try.prog (Builtin.append_ #[63, 63] 63 #[t35, t38]) (panK R) w fun t39 w =>
 opU Try.prog (Instr.storeAt 63 t3 t39) (panK R) w fun w =>
 opV Try.prog (binS .add 3 true t31 (.int .i64 1)) (panK R) w fun t40 w =>
 next4 t40 w
def n_schema_Refers_c2 (t3 t5 : Value) (K3 : World → Prop) (R : Ending → World → Prop) (w : World) : Prop :=
 opV Try.prog (Instr.fieldAt 28 t5 11) (panK R) w fun t28 w =>
 opV Try.prog (Instr.loadAt 26 t28) (panK R) w fun t29 w =>
 opV Try.prog (Builtin.len_ #[26] 3 #[t29]) (panK R) w fun t30 w =>
 loop1 (fun t31 w next4 =>
 opV Try.prog (binS .lss 3 false t31 t30) (panK R) w fun t32 w =>
 condP t32 (
 n_schema_Refers_c1 t3 t29 t31 next4 R w) (
 K3 w)) (.int .i64 0) w
def n_schema_Refers_c3 (t3 t5 : Value) (K3 : World → Prop) (R : Ending → World → Prop) (w : World) : Prop :=
 opV Try.prog (Instr.loadAt 63 t3) (panK R) w fun t21 w =>
 opV Try.prog (Instr.fieldAt 28 t5 8) (panK R) w fun t22 w =>
 opV Try.prog (Instr.loadAt 9 t22) (panK R) w fun t23 w =>
 opV Try.prog (Instr.buildSlice 63 1 #[(0, t23)]) (panK R) w fun t24 w =>
 opV Try.prog (Builtin.append_ #[63, 63] 63 #[t21, t24]) (panK R) w fun t25 w =>
 opU Try.prog (Instr.storeAt 63 t3 t25) (panK R) w fun w =>
 K3 w
def n_schema_Refers_c4 (t3 t5 t11 t16 t17 : Value) (next1 : Value → World → Prop) (R : Ending → World → Prop) (w : World) : Prop :=
 joinK (fun (w : World) =>
 opV Try.prog (binS .add 3 true t11 (.int .i64 1)) (panK R) w fun t41 w =>
 next1 t41 w) fun K3 =>
 condP t17 (
 n_schema_Refers_c3 t3 t5 K3 R w) (
 opV Try.prog (binS .eql 22 true t16 (.int .i64 9)) (panK R) w fun t27 w =>
 condP t27 (
 n_schema_Refers_c2 t3 t5 K3 R w) (
 K3 w))
def n_schema_Refers_c5 (t16 : Value) (K2 : Value → World → Prop) (R : Ending → World → Prop) (w : World) : Prop :=
 opV Try.prog (binS .eql 22 true t16 (.int .i64 8)) (panK R) w fun t19 w =>
 condP t19 (
 K2 t19 w) (
 opV Try.prog (binS .eql 22 true t16 (.int .i64 12)) (panK R) w fun t20 w =>
 K2 t20 w)
def n_schema_Refers_c6 (t3 t9 t11 : Value) (next1 : Value → World → Prop) (R : Ending → World → Prop) (w : World) : Prop :=
 opV Try.prog (Instr.indexAt 48 t9 t11) (panK R) w fun t13 w =>
 opV Try.prog (Instr.loadAt 28 t13) (panK R) w fun t14 w =>
 opV Try.prog (Instr.alloc 28 true (.tuple #[])) (panK R) w fun t5 w =>
 opU Try.prog (Instr.storeAt 28 t5 t14) (panK R) w fun w =>
 opV Try.prog (Instr.fieldAt 28 t5 1) (panK R) w fun t15 w =>
 opV Try.prog (Instr.loadAt 22 t15) (panK R) w fun t16 w =>
 opV Try.prog (binS .eql 22 true t16 (.int .i64 7)) (panK R) w fun t18 w =>
 joinK (fun (t17 : Value) (w : World) =>
 n_schema_Refers_c4 t3 t5 t11 t16 t17 next1 R w) fun K2 =>
 condP t18 (
 K2 t18 w) (
 n_schema_Refers_c5 t16 K2 R w)
def n_schema_Refers_c7 (t3 t9 t10 t11 : Value) (next1 : Value → World → Prop) (R : Ending → World → Prop) (w : World) : Prop :=
 opV Try.prog (binS .lss 3 false t11 t10) (panK R) w fun t12 w =>
 condP t12 (
 n_schema_Refers_c6 t3 t9 t11 next1 R w) (
 opV Try.prog (Instr.makeFunc (.func 45) #[] #[t3]) (panK R) w fun t42 w =>
 R (.returned t42) w)
def n_schema_Refers (t0 : Value) (R : Ending → World → Prop) (w : World) : Prop :=
 opV Try.prog (Instr.box 50 t0) (panK R) w fun t1 w =>
 opV Try.prog (Instr.alloc 63 true (.tuple #[])) (panK R) w fun t3 w =>
 opV Try.prog (Instr.fieldAt 50 t1 1) (panK R) w fun t8 w =>
 opV Try.prog (Instr.loadAt 48 t8) (panK R) w fun t9 w =>
 opV Try.prog (Builtin.len_ #[48] 3 #[t9]) (panK R) w fun t10 w =>
 loop1 (fun t11 w next1 =>
 n_schema_Refers_c7 t3 t9 t10 t11 next1 R w) (.int .i64 0) w
set_option maxRecDepth 100000 in
set_option maxHeartbeats 4000000 in
theorem n_schema_Refers_sound {t0 : Value} {R : Ending → World → Prop} {w : World} (h : n_schema_Refers t0 R w) : Calls Try.prog 24 #[t0] w R := by
  refine calls_of_den (args := [t0]) Try.func24 rfl (Nat.le_of_ble_eq_true rfl) ?_
  unfold n_schema_Refers at h
  refine zs <| zr ?_
  refine zv h fun t1 w h => ?_
  refine zm <| zn <| zk <| zs <| zr ?_
  refine zv h fun t3 w h => ?_
  refine zn <| zk <| zs <| zs <| zr ?_
  refine zv h fun t8 w h => ?_
  refine zv h fun t9 w h => ?_
  refine zx h fun t10 w h => ?_
  refine zm <| zn <| zk <| sim_block ?_
  obtain ⟨I, μ, h0, hr⟩ := h
  refine sim_loop [5, 7, 11, 12, 13, 14, 15, 16, 17, 18, 19, 20, 21, 22, 23, 24, 25, 26, 27, 28, 29, 30, 31, 32, 33, 34, 35, 36, 37, 38, 39, 40, 41] (by kernel_rfl) (fun ρ w => I (ρ 11) w) (fun ρ w => μ (ρ 11) w) h0 (fun σ w hI => ?_)
  have h := hr _ _ hI
  clear hr h0 hI
  refine zs <| zr ?_
  refine zb h fun t12 w h => ?_
  refine zn <| zk <| zs ?_
  refine sim_cond h rfl (fun h => ?_) (fun h => ?_)
  · refine sim_skip <| zk <| zs <| sim_block <| zs <| zr ?_
    refine zv h fun t13 w h => ?_
    refine zv h fun t14 w h => ?_
    refine zv h fun t5 w h => ?_
    refine zu h fun w h => ?_
    refine zn <| zk <| zs <| zr ?_
    refine zv h fun t15 w h => ?_
    refine zv h fun t16 w h => ?_
    refine zn <| zk <| sim_block <| zs <| zs <| zr ?_
    refine zb h fun t18 w h => ?_
    refine zm <| zn <| zk ?_
    refine joinK_elim h (fun K2 hK h => ?_)
    refine sim_joinQ [17, 19, 20] (fun ρ w => K2 (ρ 17) w) (fun _ hkK2 => ?_) (fun σ w h => ?_)
    · refine sim_cond h rfl (fun h => ?_) (fun h => ?_)
      · refine sim_skip <| zk ?_
        exact zt hkK2 h
      · refine zs <| zr ?_
        refine zb h fun t19 w h => ?_
        refine zm <| zn <| zk ?_
        refine sim_cond h rfl (fun h => ?_) (fun h => ?_)
        · refine sim_skip <| zk ?_
          exact zt hkK2 h
        · refine zr ?_
          refine zb h fun t20 w h => ?_
          refine zm <| zn <| zk ?_
          exact zt hkK2 h
    subst hK
    refine zk ?_
    refine joinK_elim h (fun K3 hK h => ?_)
    refine sim_joinQ [7, 21, 22, 23, 24, 25, 26, 27, 28, 29, 30, 31, 32, 33, 34, 35, 36, 37, 38, 39, 40] (fun ρ w => K3 w) (fun _ hkK3 => ?_) (fun σ w h => ?_)
    · refine sim_cond h rfl (fun h => ?_) (fun h => ?_)
      · refine zr ?_
        refine zv h fun t21 w h => ?_
        refine zv h fun t22 w h => ?_
        refine zv h fun t23 w h => ?_
        refine sim_buildSlice h rfl (fun _ _ h => ⟨rfl, h⟩) ?_; intro t24 w h
        refine zx h fun t25 w h => ?_
        refine zu h fun w h => ?_
        refine zn <| zk ?_
        exact zt hkK3 h
      · refine zs <| zr ?_
        refine zb h fun t27 w h => ?_
        refine zm <| zn <| zk ?_
        refine sim_cond h rfl (fun h => ?_) (fun h => ?_)
        · refine zs <| zr ?_
          refine zv h fun t28 w h => ?_
          refine zv h fun t29 w h => ?_
          refine zx h fun t30 w h => ?_
          refine zm <| zn <| zk <| sim_block ?_
          obtain ⟨I, μ, h0, hr⟩ := h
          refine sim_loop [7, 31, 32, 33, 34, 35, 36, 37, 38, 39, 40] (by kernel_rfl) (fun ρ w => I (ρ 31) w) (fun ρ w => μ (ρ 31) w) h0 (fun σ w hI => ?_)
          have h := hr _ _ hI
          clear hr h0 hI
          refine zs <| zr ?_
          refine zb h fun t32 w h => ?_
          refine zn <| zk <| zs ?_
          refine sim_cond h rfl (fun h => ?_) (fun h => ?_)
          · refine sim_skip <| zk <| zs <| sim_block <| zs <| zr ?_
            refine zv h fun t33 w h => ?_
            refine zv h fun t34 w h => ?_
            refine zv h fun t7 w h => ?_
            refine zu h fun w h => ?_
            refine zn <| zk <| zr ?_
            refine zv h fun t35 w h => ?_
            refine zv h fun t36 w h => ?_
            refine zv h fun t37 w h => ?_
            refine sim_buildSlice h rfl (fun _ _ h => ⟨rfl, h⟩) ?_; intro t38 w h
            refine zx h fun t39 w h => ?_
            refine zu h fun w h => ?_
            refine zn <| sim_block_normal <| zk <| zr ?_
            refine zb h fun t40 w h => ?_
            refine zm <| zn <| zk ?_
            exact ⟨rfl, h⟩
          · refine sim_exit <| sim_then_exit <| sim_then_exit <| sim_block_hit <| zk ?_
            exact zt hkK3 h
        · refine sim_skip <| zk ?_
          exact zt hkK3 h
    subst hK
    refine sim_block_normal <| sim_block_normal <| zk <| zr ?_
    refine zb h fun t41 w h => ?_
    refine zm <| zn <| zk ?_
    exact ⟨rfl, h⟩
  · refine sim_exit <| sim_then_exit <| sim_then_exit <| sim_block_hit <| zk <| zs <| zr ?_
    refine sim_makeFunc h rfl rfl (fun _ _ h => ⟨rfl, h⟩) ?_; intro t42 w h
    refine zm <| zn <| zk <| sim_ret ?_
    exact body_ret1 rfl rfl h
def n_schema_Check_c1 (t2 t9 : Value) (R : Ending → World → Prop) (w : World) : Prop :=
 opV Try.prog (Instr.extract t9 0) (panK R) w fun t10 w =>
 opV Try.prog (Instr.extract t9 1) (panK R) w fun t11 w =>
 opV Try.prog (Instr.extract t9 2) (panK R) w fun t12 w =>
 opV Try.prog (Instr.alloc 68 true (.tuple #[])) (panK R) w fun t5 w =>
 opU Try.prog (Instr.storeAt 68 t5 t11) (panK R) w fun w =>
 opV Try.prog (Instr.loadAt 68 t5) (panK R) w fun t13 w =>
 opU Try.prog (Instr.storeAt 68 t2 t13) (panK R) w fun w =>
 qW Try.prog 68 t2 w fun r0 =>
 R (.returned (.tuple #[r0, t12])) w
def n_schema_Check (t0 : Value) (R : Ending → World → Prop) (w : World) : Prop :=
 opV Try.prog (Instr.box 44 t0) (panK R) w fun t1 w =>
 opV Try.prog (Instr.alloc 68 true (.tuple #[])) (panK R) w fun t2 w =>
 opV Try.prog (Instr.loadAt 44 t1) (panK R) w fun t8 w =>
 callK Try.prog 47 #[t8] (panK R) w fun t9 w =>
 n_schema_Check_c1 t2 t9 R w
set_option maxRecDepth 100000 in
set_option maxHeartbeats 4000000 in
theorem n_schema_Check_sound {t0 : Value} {R : Ending → World → Prop} {w : World} (h : n_schema_Check t0 R w) : Calls Try.prog 26 #[t0] w R := by
  refine calls_of_den (args := [t0]) Try.func26 rfl (Nat.le_of_ble_eq_true rfl) ?_
  unfold n_schema_Check at h
  refine zs <| zr ?_
  refine zv h fun t1 w h => ?_
  refine zv h fun t2 w h => ?_
  refine zm <| zn <| zk <| zs <| zr ?_
  refine zv h fun t8 w h => ?_
  refine zc h c47 fun t9 w h => ?_
  refine zm ?_
  refine zv h fun t10 w h => ?_
  refine zv h fun t11 w h => ?_
  refine zv h fun t12 w h => ?_
  refine zv h fun t5 w h => ?_
  refine zm ?_
  refine zu h fun w h => ?_
  refine zm <| zn <| zk <| zs <| zr ?_
  refine zv h fun t13 w h => ?_
  refine zm ?_
  refine zu h fun w h => ?_
  refine zm <| zn <| zk <| sim_ret ?_
  exact body_retCT rfl rfl rfl h
def n_schema_Valid_c1 (t7 : Value) (R : Ending → World → Prop) (w : World) : Prop :=
 opV Try.prog (Instr.extract t7 0) (panK R) w fun t8 w =>
 opV Try.prog (Instr.extract t7 1) (panK R) w fun t9 w =>
 opV Try.prog (Instr.alloc 68 true (.tuple #[])) (panK R) w fun t3 w =>
 opU Try.prog (Instr.storeAt 68 t3 t8) (panK R) w fun w =>
 opV Try.prog (Op.unary .not t9) (panK R) w fun t11 w =>
 R (.returned t11) w
def n_schema_Valid (t0 : Value) (R : Ending → World → Prop) (w : World) : Prop :=
 opV Try.prog (Instr.box 44 t0) (panK R) w fun t1 w =>
 opV Try.prog (Instr.loadAt 44 t1) (panK R) w fun t6 w =>
 callK Try.prog 26 #[t6] (panK R) w fun t7 w =>
 n_schema_Valid_c1 t7 R w
set_option maxRecDepth 100000 in
set_option maxHeartbeats 4000000 in
theorem n_schema_Valid_sound {t0 : Value} {R : Ending → World → Prop} {w : World} (h : n_schema_Valid t0 R w) : Calls Try.prog 27 #[t0] w R := by
  refine calls_of_den (args := [t0]) Try.func27 rfl (Nat.le_of_ble_eq_true rfl) ?_
  unfold n_schema_Valid at h
  refine zs <| zr ?_
  refine zv h fun t1 w h => ?_
  refine zm <| zn <| zk <| zs <| zr ?_
  refine zv h fun t6 w h => ?_
  refine zc h c26 fun t7 w h => ?_
  refine zm ?_
  refine zv h fun t8 w h => ?_
  refine zv h fun t9 w h => ?_
  refine zv h fun t3 w h => ?_
  refine zu h fun w h => ?_
  refine zm <| zn <| zk <| zs <| zr <| zm ?_
  refine zv h fun t11 w h => ?_
  refine zm <| zn <| zk <| sim_ret ?_
  exact body_ret1 rfl rfl h
def n_schema_Depth (t0 t1 : Value) (R : Ending → World → Prop) (w : World) : Prop :=
 opV Try.prog (Instr.box 44 t0) (panK R) w fun t2 w =>
 opV Try.prog (Instr.loadAt 44 t2) (panK R) w fun t6 w =>
 callK Try.prog 50 #[t6, t1, (.func (.func 51) #[] #[])] (panK R) w fun t8 w =>
 opV Try.prog (Instr.extract t8 0) (panK R) w fun t9 w =>
 opV Try.prog (Instr.extract t8 1) (panK R) w fun t10 w =>
 R (.returned (.tuple #[t9, t10])) w
set_option maxRecDepth 100000 in
set_option maxHeartbeats 4000000 in
theorem n_schema_Depth_sound {t0 t1 : Value} {R : Ending → World → Prop} {w : World} (h : n_schema_Depth t0 t1 R w) : Calls Try.prog 29 #[t0, t1] w R := by
  refine calls_of_den (args := [t0, t1]) Try.func29 rfl (Nat.le_of_ble_eq_true rfl) ?_
  unfold n_schema_Depth at h
  refine zs <| zr ?_
  refine zv h fun t2 w h => ?_
  refine zm <| zm <| zn <| zk <| zs <| zr ?_
  refine zv h fun t6 w h => ?_
  refine zm ?_
  refine zc h c50 fun t8 w h => ?_
  refine zv h fun t9 w h => ?_
  refine zv h fun t10 w h => ?_
  refine zm <| zm <| zn <| zk <| sim_ret ?_
  exact body_ret2 rfl rfl rfl h
end Go.Proofs.Ytiajhbbmgglmlaa
namespace Go.Proofs.Ytiajhbbmgglmlaa
open Sw
open Go.RowKit (intOf Below)
set_option maxRecDepth 100000
def refsF (f : FieldD) : List ByteArray := if f.kind = 7 ∨ f.kind = 8 ∨ f.kind = 12 then [f.of] else if f.kind = 9 then f.cases.map (·.of) else []
def allRefs (l : List FieldD) : List ByteArray := l.flatMap refsF
abbrev strEnc (s : ByteArray) : List Value := [.string s]
theorem append_str {w : World} {QP : List PanicEntry → World → Prop} {k : Value → World → Prop} {base : Nat} {v : Value} {l : List ByteArray} (s : ByteArray) {b : Nat} (hown : OwnE w base 9 1 strEnc v l) (hc : w.cell? ⟨b, 0, none⟩ = some (.string s)) (hbase : base ≤ w.heap.size) (hl : l.length ≤ 1048576)
    (hk : ∀ v' w', OwnE w' base 9 1 strEnc v' (l ++ [s]) → w.grownBy w' v.ownBlock → k v' w') :
    opV Try.prog (Builtin.append_ #[63, 63] 63 #[v, .slice (some ⟨b, 0, none⟩) 1 1]) QP w k := by
  have hby := by9
  refine op_appendE (l' := [s]) Try.underlying63 ty9 rfl (by decide) (fun _ => rfl) (fun x _ u hu => by simp at hu; subst hu; rfl) hown (fun j x hx => ?_) hbase ?_ (by simp; omega) hk
  · cases j with
    | zero =>
      simp at hx; subst hx
      intro j v hv
      cases j with
      | zero => simp at hv; subst hv; simpa using hc
      | succ j => simp at hv
    | succ j => simp at hx
  · simp only [List.length_cons, List.length_nil]
    exact Nat.le_trans (Nat.mul_le_mul (Nat.add_le_add_right hl 1) hby) (by decide)
def StrsAt (w : World) (pb : Nat) (sv : Value) (l : List ByteArray) : Prop := w.cell? ⟨pb, 0, none⟩ = some sv ∧ SliceOf w 1 EStr sv l ∧ ∀ A m c, sv = .slice (some A) m c → pb < A.block
theorem StrsAt.ext {w w' : World} {pb : Nat} {sv : Value} {l : List ByteArray} (h : StrsAt w pb sv l) (e : Ext w w') : StrsAt w' pb sv l := ⟨e.cell h.1, h.2.1.ext keptStr e, h.2.2⟩
theorem append_cell {w0 w : World} {QP : List PanicEntry → World → Prop} {ku : World → Prop} {pb lo p : Nat} {sv : Value} {l : List ByteArray} (s : ByteArray) {T T' : TypeId} (hp : p = w.heap.size) (e : Ext w0 w) (h0 : w0.heap.size ≤ pb) (hlo : pb < lo) (o3 : w.heap[pb]? = some (.cells #[sv] T (0, 0))) (hO : OwnE w lo 9 1 strEnc sv l) (hs : lo ≤ w.heap.size) (hl : l.length ≤ 1048576)
    (hk : ∀ w' sv', Ext w0 w' → w'.heap[pb]? = some (.cells #[sv'] T (0, 0)) → OwnE w' lo 9 1 strEnc sv' (l ++ [s]) → lo ≤ w'.heap.size → ku w') :
    opV Try.prog (Builtin.append_ #[63, 63] 63 #[sv, .slice (some ⟨p, 0, none⟩) 1 1]) QP (w.alloc (.cells #[.string s] T')) (fun t w => opU Try.prog (Instr.storeAt 63 (.pointer (some ⟨pb, 0, none⟩)) t) QP w ku) := by
  subst hp
  have l3 : pb < w.heap.size := (Array.getElem?_eq_some_iff.1 o3).1
  have o3' := ((Ext.refl w).alloc (.cells #[.string s] T')).obj o3
  refine append_str s (hO.ext ((Ext.refl w).alloc _)) (by rw [cell_new]; rfl) (Nat.le_trans hs (by simp)) hl ?_
  intro v' w' hO' hg
  have hne : some pb ≠ sv.ownBlock := by
    intro h
    have := hO.lt pb h.symm
    omega
  have o3w : w'.heap[pb]? = some (.cells #[sv] T (0, 0)) := by rw [hg.block pb (by simp; omega) hne]; exact o3'
  have eg : Ext w0 w' := (e.alloc _).grown hg (fun k hk => by have := hO.lt k hk; omega)
  have hv := (hO'.slice (E := EStr) (fun _ => rfl) (fun _ _ => rfl)).oneCell
  rw [op_store1 ty63 hv ((cells_of_heap o3w).1 0) ((cells_of_heap o3w).2 0)]
  refine hk _ v' (eg.setCell h0 _) ?_ ((hO'.range.only (Only.setCell w' pb 0 v') (.inr (.inl hlo))).1) ?_
  · have := heap_set (o := 0) o3w v'
    simpa using this
  · have := hg.size
    simp at this ⊢
    omega
set_option maxHeartbeats 1600000 in
theorem Refers_ret (w0 : World) (v : Value) (m : MsgD) (hm : MsgVal w0 v m) (hb : (allRefs m.fields).length ≤ 1048576) :
    Ret Try.prog 24 #[v] w0 fun r w' => ∃ pb sv, r = .func (.func 45) #[] #[.pointer (some ⟨pb, 0, none⟩)] ∧ StrsAt w' pb sv (allRefs m.fields) ∧ w0.heap.size ≤ pb ∧ Ext w0 w' := by
  obtain ⟨fv, rfl, hF⟩ := hm
  obtain ⟨A, c, rfl, hlc, hcm, hlm, hel⟩ := SliceOf.open hF
  refine n_schema_Refers_sound (R := retR _) ?_; unfold n_schema_Refers
  simp (disch := first | assumption | (simp only [ONE]; done) | rfl | (simp only [SZ]; done) | omega | (simp only [SZ] at *; omega)) only [↓PR, QR, Int.reduceBEq, Int.reduceBNe, Int.reduceLT, Int.reduceLE, Int.reduceGT, Int.reduceGE, Int.reduceNeg]
  generalize hW : World.alloc (World.alloc w0 _) _ = W
  have e0 : Ext w0 W := by rw [← hW]; exact ee
  have hsz : W.heap.size = w0.heap.size + 1 + 1 := by rw [← hW]; simp only [World.size_alloc]
  have o3 : W.heap[w0.heap.size + 1]? = some (.cells #[.slice none 0 0] 63 (0, 0)) := by rw [← hW]; simp (disch := first | assumption | (simp only [ONE]; done) | rfl | (simp only [SZ]; done) | omega | (simp only [SZ] at *; omega)) only [↓PR, QR, Int.reduceBEq, Int.reduceBNe, Int.reduceLT, Int.reduceLE, Int.reduceGT, Int.reduceGE, Int.reduceNeg]
  clear hW
  refine loop1_intro (fun a0 w => ∃ (k : Nat) , a0 = .int .i64 (k : Int) ∧ k ≤ m.fields.length ∧ Ext w0 w ∧ (∃ sv, w.heap[w0.heap.size + 1]? = some (.cells #[sv] 63 (0, 0)) ∧ OwnE w W.heap.size 9 1 strEnc sv (allRefs (m.fields.take k)) ∧ W.heap.size ≤ w.heap.size)) (fun a0 _ => m.fields.length - (intOf a0).toNat) ⟨0, rfl, Nat.zero_le _, ee, ⟨_, o3, OwnE.nil _ _ _ _ _, Nat.le_refl _⟩⟩ ?_
  rintro _ w ⟨k, rfl, hk, e, hI⟩
  have se := e.size
  rcases drop_cases hk with ⟨x, hx, hd, hlt, hdec⟩ | ⟨hk, hd, hdec⟩
  · obtain ⟨sv, o3, hO, hsW⟩ := hI
    obtain ⟨b, o, cs, rfl, hl, hA, hE⟩ := hel k x hx
    obtain ⟨tv, cv, rfl, hT, hC, ht1, hc1⟩ := hE.op
    have hpre : (allRefs (m.fields.take (k + 1))) = allRefs (m.fields.take k) ++ refsF x := by unfold allRefs; rw [take_snoc hx, List.flatMap_append]; simp
    have hle : (allRefs (m.fields.take (k + 1))).length ≤ 1048576 := by
      refine Nat.le_trans ?_ hb
      have : m.fields = m.fields.take (k + 1) ++ m.fields.drop (k + 1) := (List.take_append_drop _ _).symm
      conv => rhs; rw [this]
      unfold allRefs
      rw [List.flatMap_append, List.length_append]
      omega
    rw [hpre, List.length_append] at hle
    have hsv := (hO.slice (E := EStr) (fun _ => rfl) (fun _ _ => rfl)).oneCell
    simp (disch := first | assumption | (simp only [ONE]; done) | rfl | (simp only [SZ]; done) | omega | (simp only [SZ] at *; omega)) only [↓PR, QR, Int.reduceBEq, Int.reduceBNe, Int.reduceLT, Int.reduceLE, Int.reduceGT, Int.reduceGE, Int.reduceNeg, ↓n_schema_Refers_c1, ↓n_schema_Refers_c2, ↓n_schema_Refers_c3, ↓n_schema_Refers_c4, ↓n_schema_Refers_c5, ↓n_schema_Refers_c6, ↓n_schema_Refers_c7, hdec, hA.c15]
    generalize hW1 : World.alloc w _ = w1
    have e1 : Ext w w1 := by rw [← hW1]; exact ee
    have o5 : w1.heap[w.heap.size]? = some (.cells (fieldCells x tv cv).toArray 28 (0, 0)) := by rw [← hW1]; simp (disch := first | assumption | (simp only [ONE]; done) | rfl | (simp only [SZ]; done) | omega | (simp only [SZ] at *; omega)) only [↓PR, QR, Int.reduceBEq, Int.reduceBNe, Int.reduceLT, Int.reduceLE, Int.reduceGT, Int.reduceGE, Int.reduceNeg]
    clear hW1
    have s1 := e1.size
    have e01 := e.trans e1
    have o31 := e1.obj o3
    have hO1 := hO.ext e1
    have l5 : w.heap.size < w1.heap.size := (Array.getElem?_eq_some_iff.1 o5).1
    have l3 : w0.heap.size + 1 < w1.heap.size := (Array.getElem?_eq_some_iff.1 o31).1
    by_cases hr : x.kind = 7 ∨ x.kind = 8 ∨ x.kind = 12
    · have hrf : refsF x = [x.of] := by unfold refsF; rw [if_pos hr]
      rw [hrf] at hpre hle
      have key : ∀ b, b = true → n_schema_Refers_c4 (.pointer (some ⟨w0.heap.size + 1, 0, none⟩)) (.pointer (some ⟨w.heap.size, 0, none⟩)) (.int .i64 (k : Int)) (.int .i64 x.kind) (.bool b) (fun a0' w' => (∃ k : Nat, a0' = Value.int IntKind.i64 (k : Int) ∧ k ≤ m.fields.length ∧ Ext w0 w' ∧ ∃ sv, w'.heap[w0.heap.size + 1]? = some (.cells #[sv] 63 (0, 0)) ∧ OwnE w' W.heap.size 9 1 strEnc sv (allRefs (m.fields.take k)) ∧ W.heap.size ≤ w'.heap.size) ∧ m.fields.length - (intOf a0').toNat < m.fields.length - (intOf (Value.int IntKind.i64 (k : Int))).toNat)
          (retR fun r w' => ∃ pb sv, r = .func (.func 45) #[] #[.pointer (some ⟨pb, 0, none⟩)] ∧ StrsAt w' pb sv (allRefs m.fields) ∧ w0.heap.size ≤ pb ∧ Ext w0 w') w1 := by
        rintro b rfl
        simp (disch := first | assumption | (simp only [ONE]; done) | rfl | (simp only [SZ]; done) | omega | (simp only [SZ] at *; omega)) only [↓PR, QR, Int.reduceBEq, Int.reduceBNe, Int.reduceLT, Int.reduceLE, Int.reduceGT, Int.reduceGE, Int.reduceNeg, ↓n_schema_Refers_c1, ↓n_schema_Refers_c2, ↓n_schema_Refers_c3, ↓n_schema_Refers_c4, ↓n_schema_Refers_c5, ↓n_schema_Refers_c6, ↓n_schema_Refers_c7, (cells_of_heap o31).1, (cells_of_heap o5).1]
        refine append_cell x.of rfl e01 (by omega) (by omega) o31 hO1 (by omega) (by simp at hle; omega) ?_
        intro w2 sv2 e2 o32 hO2 hs2
        rw [← hpre] at hO2
        simp (disch := first | assumption | (simp only [ONE]; done) | rfl | (simp only [SZ]; done) | omega | (simp only [SZ] at *; omega)) only [↓PR, QR, Int.reduceBEq, Int.reduceBNe, Int.reduceLT, Int.reduceLE, Int.reduceGT, Int.reduceGE, Int.reduceNeg]
        exact ⟨⟨k + 1, rfl, by omega, ee, ⟨sv2, o32, hO2, hs2⟩⟩, meas_lt hlt⟩
      simp only [World.size_alloc]
      rcases hr with h | h | h
      · rw [h] at key ⊢
        simp (disch := first | assumption | (simp only [ONE]; done) | rfl | (simp only [SZ]; done) | omega | (simp only [SZ] at *; omega)) only [↓PR, QR, Int.reduceBEq, Int.reduceBNe, Int.reduceLT, Int.reduceLE, Int.reduceGT, Int.reduceGE, Int.reduceNeg]
        exact key true rfl
      · rw [h] at key ⊢
        simp (disch := first | assumption | (simp only [ONE]; done) | rfl | (simp only [SZ]; done) | omega | (simp only [SZ] at *; omega)) only [↓PR, QR, Int.reduceBEq, Int.reduceBNe, Int.reduceLT, Int.reduceLE, Int.reduceGT, Int.reduceGE, Int.reduceNeg, ↓n_schema_Refers_c5]
        exact key true rfl
      · rw [h] at key ⊢
        simp (disch := first | assumption | (simp only [ONE]; done) | rfl | (simp only [SZ]; done) | omega | (simp only [SZ] at *; omega)) only [↓PR, QR, Int.reduceBEq, Int.reduceBNe, Int.reduceLT, Int.reduceLE, Int.reduceGT, Int.reduceGE, Int.reduceNeg, ↓n_schema_Refers_c5]
        exact key true rfl
    · have h7 : (x.kind == 7) = false := by simp; omega
      have h8 : (x.kind == 8) = false := by simp; omega
      have h12 : (x.kind == 12) = false := by simp; omega
      simp only [World.size_alloc]
      by_cases h9 : x.kind = 9
      · have h9' : (x.kind == 9) = true := by simp [h9]
        have hrf : refsF x = x.cases.map (·.of) := by unfold refsF; rw [if_neg hr, if_pos h9]
        rw [hrf] at hpre hle
        obtain ⟨A', c', rfl, hlc', hcm', hlm', hel'⟩ := SliceOf.open hC
        simp (disch := first | assumption | (simp only [ONE]; done) | rfl | (simp only [SZ]; done) | omega | (simp only [SZ] at *; omega)) only [↓PR, QR, Int.reduceBEq, Int.reduceBNe, Int.reduceLT, Int.reduceLE, Int.reduceGT, Int.reduceGE, Int.reduceNeg, ↓n_schema_Refers_c1, ↓n_schema_Refers_c2, ↓n_schema_Refers_c3, ↓n_schema_Refers_c4, ↓n_schema_Refers_c5, ↓n_schema_Refers_c6, ↓n_schema_Refers_c7, h7, h8, h12, h9', (cells_of_heap o5).1]
        refine loop1_intro (fun a0 wa => ∃ (ka : Nat) , a0 = .int .i64 (ka : Int) ∧ ka ≤ x.cases.length ∧ Ext w0 wa ∧ (∃ sv, wa.heap[w0.heap.size + 1]? = some (.cells #[sv] 63 (0, 0)) ∧ OwnE wa W.heap.size 9 1 strEnc sv (allRefs (m.fields.take k) ++ (x.cases.take ka).map (·.of)) ∧ W.heap.size ≤ wa.heap.size)) (fun a0 _ => x.cases.length - (intOf a0).toNat) ⟨0, rfl, Nat.zero_le _, ee, ⟨sv, o31, by simpa using hO1, by omega⟩⟩ ?_
        rintro _ wa ⟨ka, rfl, hka, ea, hIa⟩
        have sea := ea.size
        rcases drop_cases hka with ⟨xa, hxa, hda, hlta, hdeca⟩ | ⟨hka, hda, hdeca⟩
        · obtain ⟨sva, oa, hOa, hsa⟩ := hIa
          obtain ⟨b', o', cs', rfl, _, hA', rfl⟩ := hel' ka xa hxa
          have la : w0.heap.size + 1 < wa.heap.size := (Array.getElem?_eq_some_iff.1 oa).1
          have oa' := ((Ext.refl wa).alloc (.cells #[.int .i64 xa.low, .int .i64 xa.high, .string xa.of] 62)).obj oa
          have hla : (x.cases.take ka).length ≤ x.cases.length := by rw [List.length_take]; omega
          simp (disch := first | assumption | (simp only [ONE]; done) | rfl | (simp only [SZ]; done) | omega | (simp only [SZ] at *; omega)) only [↓PR, QR, Int.reduceBEq, Int.reduceBNe, Int.reduceLT, Int.reduceLE, Int.reduceGT, Int.reduceGE, Int.reduceNeg, ↓n_schema_Refers_c1, ↓n_schema_Refers_c2, ↓n_schema_Refers_c3, ↓n_schema_Refers_c4, ↓n_schema_Refers_c5, ↓n_schema_Refers_c6, ↓n_schema_Refers_c7, hdeca, hA'.c3, (cells_of_heap oa').1, (cells_of_heap oa).1]
          refine append_cell xa.of (by simp only [World.size_alloc]) (ea.alloc _) (by omega) (by omega) oa' (hOa.ext ((Ext.refl wa).alloc _)) (by simp; omega) (by simp at hle hla ⊢; omega) ?_
          intro w2 sv2 e2 o32 hO2 hs2
          simp (disch := first | assumption | (simp only [ONE]; done) | rfl | (simp only [SZ]; done) | omega | (simp only [SZ] at *; omega)) only [↓PR, QR, Int.reduceBEq, Int.reduceBNe, Int.reduceLT, Int.reduceLE, Int.reduceGT, Int.reduceGE, Int.reduceNeg]
          have hO3 : OwnE w2 W.heap.size 9 1 strEnc sv2 (allRefs (m.fields.take k) ++ (x.cases.take (ka + 1)).map (·.of)) := by
            rw [take_snoc hxa, List.map_append, ← List.append_assoc]; exact hO2
          exact ⟨⟨ka + 1, rfl, by omega, ee, ⟨sv2, o32, hO3, hs2⟩⟩, meas_lt hlta⟩
        · subst hka
          obtain ⟨sva, oa, hOa, hsa⟩ := hIa
          rw [List.take_length, ← hpre] at hOa
          simp (disch := first | assumption | (simp only [ONE]; done) | rfl | (simp only [SZ]; done) | omega | (simp only [SZ] at *; omega)) only [↓PR, QR, Int.reduceBEq, Int.reduceBNe, Int.reduceLT, Int.reduceLE, Int.reduceGT, Int.reduceGE, Int.reduceNeg, ↓n_schema_Refers_c1, ↓n_schema_Refers_c2, ↓n_schema_Refers_c3, ↓n_schema_Refers_c4, ↓n_schema_Refers_c5, ↓n_schema_Refers_c6, ↓n_schema_Refers_c7, hdeca]
          exact ⟨⟨k + 1, rfl, by omega, ee, ⟨sva, oa, hOa, hsa⟩⟩, meas_lt hlt⟩
      · have h9' : (x.kind == 9) = false := by simp; omega
        have hrf : refsF x = [] := by unfold refsF; rw [if_neg hr, if_neg h9]
        rw [hrf, List.append_nil] at hpre
        rw [← hpre] at hO1
        simp (disch := first | assumption | (simp only [ONE]; done) | rfl | (simp only [SZ]; done) | omega | (simp only [SZ] at *; omega)) only [↓PR, QR, Int.reduceBEq, Int.reduceBNe, Int.reduceLT, Int.reduceLE, Int.reduceGT, Int.reduceGE, Int.reduceNeg, ↓n_schema_Refers_c1, ↓n_schema_Refers_c2, ↓n_schema_Refers_c3, ↓n_schema_Refers_c4, ↓n_schema_Refers_c5, ↓n_schema_Refers_c6, ↓n_schema_Refers_c7, h7, h8, h12, h9', (cells_of_heap o5).1]
        exact ⟨⟨k + 1, rfl, by omega, ee, ⟨sv, o31, hO1, by omega⟩⟩, meas_lt hlt⟩
  · subst hk
    obtain ⟨sv, o3, hO, hsW⟩ := hI
    rw [List.take_length] at hO
    simp (disch := first | assumption | (simp only [ONE]; done) | rfl | (simp only [SZ]; done) | omega | (simp only [SZ] at *; omega)) only [↓PR, QR, Int.reduceBEq, Int.reduceBNe, Int.reduceLT, Int.reduceLE, Int.reduceGT, Int.reduceGE, Int.reduceNeg, ↓n_schema_Refers_c1, ↓n_schema_Refers_c2, ↓n_schema_Refers_c3, ↓n_schema_Refers_c4, ↓n_schema_Refers_c5, ↓n_schema_Refers_c6, ↓n_schema_Refers_c7, hdec]
    have hS := hO.slice (E := EStr) (fun _ => rfl) (fun _ _ => rfl)
    exact ⟨_, sv, rfl, ⟨(cells_of_heap o3).1 0, hS, fun A m c e => by subst e; have := hO.lt A.block rfl; omega⟩, by omega, e⟩
theorem Index_string_ret (w0 : World) (v : Value) (l : List ByteArray) (s : ByteArray) (hs : SliceOf w0 1 EStr v l) :
    Ret Try.prog 60 #[v, .string s] w0 fun r w' => r = .int .i64 (idx (fun y => decide (s = y)) l) ∧ Ext w0 w' := by
  obtain ⟨A, c, rfl, hlc, hcm, hlm, hel⟩ := SliceOf.open hs
  refine n_slices_Index_string_sound (R := retR _) ?_; unfold n_slices_Index_string
  simp (disch := first | assumption | (simp only [ONE]; done) | rfl | (simp only [SZ]; done) | omega | (simp only [SZ] at *; omega)) only [↓PR, QR, Int.reduceBEq, Int.reduceBNe, Int.reduceLT, Int.reduceLE, Int.reduceGT, Int.reduceGE, Int.reduceNeg]
  refine loop1_intro (fun a0 w => ∃ (k : Nat) , a0 = .int .i64 (k : Int) ∧ k ≤ l.length ∧ Ext w0 w ∧ ∀ (j : Nat) y, j < k → l[j]? = some y → decide (s = y) = false) (fun a0 _ => l.length - (intOf a0).toNat) ⟨0, rfl, Nat.zero_le _, ee, fun j y h => by omega⟩ ?_
  rintro _ w ⟨k, rfl, hk, e, hI⟩
  have se := e.size
  rcases drop_cases hk with ⟨x, hx, hd, hlt, hdec⟩ | ⟨hk, hd, hdec⟩
  · obtain ⟨b, o, cs, rfl, hl, hA, rfl⟩ := hel k x hx
    simp (disch := first | assumption | (simp only [ONE]; done) | rfl | (simp only [SZ]; done) | omega | (simp only [SZ] at *; omega)) only [↓PR, QR, Int.reduceBEq, Int.reduceBNe, Int.reduceLT, Int.reduceLE, Int.reduceGT, Int.reduceGE, Int.reduceNeg, hdec, hA.c1, ↓n_slices_Index_string_c1]
    cases hp : decide (s = x) with
    | true =>
      simp (disch := first | assumption | (simp only [ONE]; done) | rfl | (simp only [SZ]; done) | omega | (simp only [SZ] at *; omega)) only [↓PR, QR, Int.reduceBEq, Int.reduceBNe, Int.reduceLT, Int.reduceLE, Int.reduceGT, Int.reduceGE, Int.reduceNeg]
      exact ⟨by rw [idx_here hx hp hI], e⟩
    | false =>
      simp (disch := first | assumption | (simp only [ONE]; done) | rfl | (simp only [SZ]; done) | omega | (simp only [SZ] at *; omega)) only [↓PR, QR, Int.reduceBEq, Int.reduceBNe, Int.reduceLT, Int.reduceLE, Int.reduceGT, Int.reduceGE, Int.reduceNeg]
      exact ⟨⟨k + 1, rfl, by omega, ee, before_succ hI hx hp⟩, meas_lt hlt⟩
  · subst hk
    simp (disch := first | assumption | (simp only [ONE]; done) | rfl | (simp only [SZ]; done) | omega | (simp only [SZ] at *; omega)) only [↓PR, QR, Int.reduceBEq, Int.reduceBNe, Int.reduceLT, Int.reduceLE, Int.reduceGT, Int.reduceGE, Int.reduceNeg, hdec, ↓n_slices_Index_string_c1]
    exact ⟨by rw [idx_none fun j y hy => hI j y (List.getElem?_eq_some_iff.1 hy).1 hy], e⟩
theorem Contains_string_ret (w0 : World) (v : Value) (l : List ByteArray) (s : ByteArray) (hs : SliceOf w0 1 EStr v l) :
    Ret Try.prog 46 #[v, .string s] w0 fun r w' => r = .bool (l.any fun y => decide (s = y)) ∧ Ext w0 w' := by
  refine n_slices_Contains_string_sound (R := retR _) ?_; unfold n_slices_Contains_string
  refine callK_ret (Index_string_ret _ _ l s hs) ?_
  rintro r w' ⟨rfl, e⟩
  simp (disch := first | assumption | (simp only [ONE]; done) | rfl | (simp only [SZ]; done) | omega | (simp only [SZ] at *; omega)) only [↓PR, QR, Int.reduceBEq, Int.reduceBNe, Int.reduceLT, Int.reduceLE, Int.reduceGT, Int.reduceGE, Int.reduceNeg, Sw.joinK_eq]
  exact ⟨by rw [idx_neg], e⟩
def dedupA : List ByteArray → List ByteArray → List ByteArray
  | _, [] => []
  | seen, s :: l => if seen.any (fun y => decide (s = y)) then dedupA (seen ++ [s]) l else s :: dedupA (seen ++ [s]) l
def strX (l : List ByteArray) (k : Nat) : Value := match l[k]? with
  | some s => .string s
  | none => undef
theorem Refers_seq (pb : Nat) (sv : Value) (l : List ByteArray) : SeqIt Try.prog 45 #[.pointer (some ⟨pb, 0, none⟩)] (dedupA [] l).length (strX (dedupA [] l)) (fun w => StrsAt w pb sv l) := by
  intro yv J Jx Jp w hFP hJe hJx hstep h0
  obtain ⟨hc, hT, _⟩ := hFP 0 w h0
  obtain ⟨A, c, rfl, hlc, hcm, hlm, hel⟩ := SliceOf.open hT
  refine n_schema_Refers_1_sound (t0 := yv) (t1 := .pointer (some ⟨pb, 0, none⟩)) ?_
  unfold n_schema_Refers_1
  simp (disch := first | assumption | (simp only [ONE]; done) | rfl | (simp only [SZ]; done) | omega | (simp only [SZ] at *; omega)) only [↓PR, QR, Int.reduceBEq, Int.reduceBNe, Int.reduceLT, Int.reduceLE, Int.reduceGT, Int.reduceGE, Int.reduceNeg, hc]
  refine loop1_intro (fun i w => ∃ k j : Nat, i = .int .i64 k ∧ k ≤ l.length ∧ J j w ∧ j ≤ (dedupA [] l).length ∧ (dedupA [] l).drop j = dedupA (l.take k) (l.drop k)) (fun i _ => l.length - (intOf i).toNat) ⟨0, 0, rfl, by omega, h0, by omega, rfl⟩ ?_
  rintro i w' ⟨k, j, rfl, hk, hJ, hj, hD⟩
  rcases drop_cases hk with ⟨x, hx, hd, hlt, hdec⟩ | ⟨hk, hd, hdec⟩
  · obtain ⟨hc', hT', _⟩ := hFP j w' hJ
    obtain ⟨A', c', hv, _, hcm', _, hel'⟩ := SliceOf.open hT'
    injection hv with hv _ hv'
    subst hv hv'
    obtain ⟨b, o, cs, rfl, hl, hA, rfl⟩ := hel' k x hx
    have er := Ext.refl w'
    rw [hd] at hD
    simp only [dedupA] at hD
    simp (disch := first | assumption | (simp only [ONE]; done) | rfl | (simp only [SZ]; done) | omega | (simp only [SZ] at *; omega)) only [↓PR, QR, Int.reduceBEq, Int.reduceBNe, Int.reduceLT, Int.reduceLE, Int.reduceGT, Int.reduceGE, Int.reduceNeg, ↓n_schema_Refers_1_c1, ↓n_schema_Refers_1_c2, hdec, hA.c1, hc']
    rw [op_sliceTo Try.underlying63 ty9 b o l.length c .i64 k (by omega)]
    have hlen : (l.take k).length = k := by rw [List.length_take]; omega
    have hpre : SliceOf w' 1 EStr (.slice (some ⟨b, o, none⟩) k c) (l.take k) := by
      refine ⟨_, c, by rw [hlen], by rw [hlen]; omega, hcm, fun _ => ⟨b, o, rfl, fun i y hy => ?_⟩⟩
      rw [List.getElem?_take] at hy
      split at hy
      · obtain ⟨b', o', cs, hA', h1, h2, h3⟩ := hel' i y hy
        injection hA' with hA'
        injection hA' with h5 h6
        subst h5 h6
        exact ⟨cs, h1, h2, h3⟩
      · cases hy
    refine callK_ret (Contains_string_ret w' _ _ x hpre) ?_
    rintro _ w2 ⟨rfl, e2⟩
    have hJ2 := hJe j w' w2 hJ e2
    have htk : l.take (k + 1) = l.take k ++ [x] := take_snoc hx
    cases hany : (l.take k).any (fun y => decide (x = y)) with
    | true =>
      rw [hany, if_pos rfl, ← htk] at hD
      simp (disch := first | assumption | (simp only [ONE]; done) | rfl | (simp only [SZ]; done) | omega | (simp only [SZ] at *; omega)) only [↓PR, QR, Int.reduceBEq, Int.reduceBNe, Int.reduceLT, Int.reduceLE, Int.reduceGT, Int.reduceGE, Int.reduceNeg, ↓n_schema_Refers_1_c1, ↓n_schema_Refers_1_c2]
      exact ⟨⟨k + 1, j, rfl, by omega, hJ2, hj, hD⟩, meas_lt hlt⟩
    | false =>
      rw [hany, if_neg (by simp), ← htk] at hD
      have hjl : j < (dedupA [] l).length := by
        have := congrArg List.length hD
        simp at this
        omega
      have hxj : (dedupA [] l)[j]? = some x := by
        have := congrArg (fun l => l[0]?) hD
        simpa using this
      have hD2 : (dedupA [] l).drop (j + 1) = dedupA (l.take (k + 1)) (l.drop (k + 1)) := by
        rw [← List.tail_drop, hD]; rfl
      have hs := hstep j hjl w2 hJ2
      rw [show strX (dedupA [] l) j = .string x by unfold strX; rw [hxj]] at hs
      simp (disch := first | assumption | (simp only [ONE]; done) | rfl | (simp only [SZ]; done) | omega | (simp only [SZ] at *; omega)) only [↓PR, QR, Int.reduceBEq, Int.reduceBNe, Int.reduceLT, Int.reduceLE, Int.reduceGT, Int.reduceGE, Int.reduceNeg, ↓n_schema_Refers_1_c1, ↓n_schema_Refers_1_c2]
      refine callV_mono hs (fun ch w h => h) ?_
      rintro v w3 (⟨rfl, h2⟩ | ⟨rfl, h2⟩)
      · simp (disch := first | assumption | (simp only [ONE]; done) | rfl | (simp only [SZ]; done) | omega | (simp only [SZ] at *; omega)) only [↓PR, QR, Int.reduceBEq, Int.reduceBNe, Int.reduceLT, Int.reduceLE, Int.reduceGT, Int.reduceGE, Int.reduceNeg, ↓n_schema_Refers_1_c1, ↓n_schema_Refers_1_c2]
        exact ⟨⟨k + 1, j + 1, rfl, by omega, h2, hjl, hD2⟩, meas_lt hlt⟩
      · simp (disch := first | assumption | (simp only [ONE]; done) | rfl | (simp only [SZ]; done) | omega | (simp only [SZ] at *; omega)) only [↓PR, QR, Int.reduceBEq, Int.reduceBNe, Int.reduceLT, Int.reduceLE, Int.reduceGT, Int.reduceGE, Int.reduceNeg, ↓n_schema_Refers_1_c1, ↓n_schema_Refers_1_c2]
        exact .inr h2
  · subst hk
    simp (disch := first | assumption | (simp only [ONE]; done) | rfl | (simp only [SZ]; done) | omega | (simp only [SZ] at *; omega)) only [↓PR, QR, Int.reduceBEq, Int.reduceBNe, Int.reduceLT, Int.reduceLE, Int.reduceGT, Int.reduceGE, Int.reduceNeg, ↓n_schema_Refers_1_c1, ↓n_schema_Refers_1_c2, hdec]
    rw [hd] at hD
    have hjl : j = (dedupA [] l).length := by
      have := congrArg List.length hD
      simp [dedupA] at this
      omega
    rw [← hjl]
    exact .inl hJ
end Go.Proofs.Ytiajhbbmgglmlaa
